import PyProof.Rows.All
import Wide.All
import Open.Line
import Wide.FinOn
import PyProof.Cells
import PyProof.RangeIter
import PyProof.CodeObjX
import PyProof.FactsAll.tuple
import PyProof.DictKinds
import PyProof.CompMap
import PyProof.DictKind
import PyProof.Rows.Tup
import PyProof.DictRoads
import PyProof.DictDisplay
import PyProof.NeKinds
import PyProof.DictRoadsH
import PyProof.StrBlockI
import PyProof.StrBlock2
import KE.KSortTup
import PyProof.CompFree
import PyProof.Rows.Walk
import PyProof.Rows.IntRules
import PyProof.Rows.RuleB_mul
import PyProof.Rows.RuleB_floordiv
import PyProof.Rows.RuleB_pow
import PyProof.Rows.RuleB_mod
import PyProof.Rows.RuleC_int
import PyProof.Rows.RuleU_int
import PyProof.Rows.StrRules
import PyProof.Rows.Nodes
import PyProof.Rows.TupSub
import PyProof.ListOps
import PyProof.TupleOps
import PyProof.DictStraight
import PyProof.Rows.Lst
import PyProof.Rows.TupMore
import PyProof.Rows.StrTemp
import PyProof.ListTruth
import PyProof.TupleOfSeq
import PyProof.CallStr
import PyProof.RangeFor
import PyProof.Conv_int_bool
import PyProof.SliceStr2
import PyProof.SliceMore
import PyProof.ListIndexNeg
import PyProof.IsiPairs
import PyProof.IsiHeapPairs
import KE.KEqDict
import PyProof.Rows.Exc
import PyProof.Rows.Globals
import PyProof.IsiTuple
import PyProof.ListCopy
import PyProof.WalkInts
import PyProof.Rows.SumAny
import KE.KDictList
import PyProof.DictWalks
import PyProof.WalksMore
import PyProof.Rows.StrTempNeg
import PyProof.Rows.SortRuns
import PyProof.SetKind
import PyProof.SetRoads
import PyProof.Rows.SetFrom
import PyProof.Rows.SortShell
import PyProof.Rows.RuleB_bool
import KE.KLam
import PyProof.ForAppend
import KE.KRevIter
import PyProof.TupleCall
import PyProof.CallTypeRange
import PySem.Challenge.RW_uf030018_08
set_option Elab.async false
set_option linter.all false
set_option backward.eqns.nonrecursive false
set_option genSizeOf false
namespace Mine
open PySem PySem.W PyProof.Rows
noncomputable def tb:Addr:=192
noncomputable def oc:Addr:=196
noncomputable def ph:Str:=Str.ofString "ordered"
noncomputable def cOpt{α:Type}(l:Option α)(f:α→Bool):Bool:=match l with | some x=>f x | none=>false
noncomputable def cRef(v:Option Value)(f:Addr→Bool):Bool:=cOpt v fun v=>match v with | .ref a=>f a | _=>false
noncomputable def cObj(o:Option Obj)(f:Data→Bool):Bool:=cOpt o fun o=>f o.data
noncomputable def tbAt(s:Shared):Bool:=cRef (s.heap.nsMap mainGlobals ph) fun a=>cObj (s.heap.get? a) fun d=>match d with
 | .func fd=>fd.code == .ref oc&&cObj (s.heap.get? oc) fun d=>match d with
  | .fields vs=>vs[11]? == some (.ref tb)
  | _=>false
 | _=>false
noncomputable def l5:List Str:=["table","sieve","pick","join","group","order","both","once","first"].map Str.ofString
noncomputable def strIs(v:Value)(y:Str):Bool:=match v with
 | .str x _=>x == y
 | _=>false
noncomputable def iB:List Value→List Str→Bool
 | [],[]=>true
 | v::vs,y::ys=>strIs v y&&iB vs ys
 | _,_=>false
noncomputable def nD(o:Obj):Bool:=(match o.data with | .seq vs _=>iB vs.toList l5 | _=>false)&&o.cls == .type "tuple"&&o.dict.isNone&&o.slots.isEmpty
noncomputable def stepsAt(s:Shared):Bool:=match s.heap.nsMap mainGlobals (Str.ofString "STEPS") with
 | some (.ref a)=>(match s.heap.get? a with | some o=>nD o | none=>false)
 | _=>false
set_option maxRecDepth 100000
set_option maxHeartbeats 0
noncomputable def keepS:Stmt→Bool
 | .Assign [.Name x _] _ _=>x != Str.ofString "__name__"
 | _=>true
noncomputable def vw:Program:={ PySem.Challenge.pw_uf030018_08 with main:={ PySem.Challenge.pw_uf030018_08.main with body:=PySem.Challenge.pw_uf030018_08.main.body.filter keepS } }
theorem glue{S A B C Y:Type _}{o:Option S}{f:S→A×B}{g:S→C×Y}{F:S→(A×B×C)×Y}{a:A}{b:B}{c:C}{y:Y}(h1:o.map f=some (a,b))(h2:o.map g=some (c,y))(hF:∀ s,F s=(((f s).1,(f s).2,(g s).1),(g s).2)):o.map F=some ((a,b,c),y):=by
 cases o with
 | none=>cases h1
 | some s=>exact congrArg some ((hF s).trans (by rw[Option.some.inj h1,Option.some.inj h2]))
theorem leftA(w:World):(openEnds treeTable PySem.Challenge.pw_uf030018_08 w 20000).map (fun s=>(seen ((recsOf vw).map (·.name)) (ownsOf vw) [] { s with gens:=#[] },s.heap.bltView))=some (expectedOf vw,bltViewBooted):=by kernel_rfl
theorem leftB(w:World):(openEnds treeTable PySem.Challenge.pw_uf030018_08 w 20000).map (fun s=>((openSeen vw [] (importedModules PySem.Challenge.pw_uf030018_08.main.body) (fun s=>(xlAt vw [] s&&recOk (RowW.records PySem.Challenge.rw_uf030018_08.row.toRowW) s)&&(tbAt s&&stepsAt s)) true s).2.2,Hook.obs Hook.none s))=some ((openGood vw []).2.2,Hook.val Hook.none w):=by kernel_rfl
theorem left:LeftO PySem.Challenge.pw_uf030018_08 vw [] (fun s=>(xlAt vw [] s&&recOk (RowW.records PySem.Challenge.rw_uf030018_08.row.toRowW) s)&&(tbAt s&&stepsAt s)) (Hook.obs Hook.none) (Hook.val Hook.none) 20000:=fun w=>glue (leftA w) (leftB w) fun _=>rfl
theorem ws:OpenLaw.wellSaid PySem.Challenge.rw_uf030018_08=true:=by decide +kernel
theorem sf:(defOf vw (Str.ofString "law")).isSome=true:=by decide +kernel
noncomputable def dl:DefRec×List (Str×Expr):=(defOf vw (Str.ofString "law")).get sf
theorem dlDef:defOf vw PySem.Challenge.rw_uf030018_08.row.name=some (dl.1,dl.2):=(Option.some_get sf).symm
theorem dlIs:PySem.Challenge.rw_uf030018_08.row.prog.theDef PySem.Challenge.rw_uf030018_08.row.name=some (dl.1.params,dl.1.body,dl.1.scope):=by kernel_rfl
theorem dlKw:kwWritten? dl.1.params.kwonlyargs dl.1.params.kw_defaults=some dl.2:=by kernel_rfl
theorem dlName:dl.1.name=Str.ofString "law":=by kernel_rfl
theorem okAll:(chainsOk vw&&opensWell PySem.Challenge.rw_uf030018_08.row.prog&&(frees PySem.Challenge.rw_uf030018_08.row.toRowW&&PySem.Challenge.rw_uf030018_08.row.within.isEmpty))=true:=by decide +kernel
end Mine
namespace Mine
open PySem
noncomputable def lamP:Str:=ph++".<locals>."
noncomputable def kM:Str:=lamP++"<lambda>"
noncomputable def oa(d:Data):Bool:=match d with
 | .fields _=>true
 | _=>false
noncomputable def qI(c:Value):Bool:=match c with
 | .none=>true
 | .type s=>s == "code"
 | _=>false
noncomputable def a8(o:Obj):Bool:=oa o.data&&qI o.cls
noncomputable abbrev qV:Obj:={ cls:=.none,data:=.fields #[] }
noncomputable def fb(h:Heap)(c:Addr):Prop:=∃ o vs t,h.get? c=some o∧o.cls=.type "code"∧o.data=.fields vs∧vs[1]?=some (.str kM t)
inductive fG(h:Heap):List Value→Prop
 | nil:fG h []
 | cons {a t b u c r} (hc:fb h c) (hr:fG h r):fG h (.int a t::.int b u::.ref c::r)
noncomputable def fD(h:Heap)(o:Obj):Prop:=∃ xs,o={ cls:=.none,data:=.fields xs }∧fG h xs.toList
open Classical in
noncomputable def gat(h:Heap)(a:Addr):Option Obj:=
 if a=tb then (h.get? a).bind fun o=>if a8 o=true then (if fD h o then some qV else none) else some o else h.get? a

section
variable {h h':Heap} {a:Addr} {o:Obj}
theorem isTab_code(hc:o.cls=.type "code"){vs:Array Value}(hd:o.data=.fields vs):a8 o=true:=by
 unfold a8;rw[hc,hd];rfl
noncomputable abbrev KC(h h':Heap):Prop:=∀ b o,h.get? b=some o→a8 o=true→o.cls≠.none→h'.get? b=some o
theorem fb.mono{c:Addr}(x:fb h c)(hk:KC h h'):fb h' c:=
 x.elim fun o x=>x.elim fun vs x=>x.elim fun t x=>⟨o,vs,t,hk _ _ x.1 (isTab_code x.2.1 x.2.2.1) (by rw[x.2.1];nofun),x.2⟩
theorem fG.mono(hk:KC h h'){l:List Value}(x:fG h l):fG h' l:=x.rec .nil fun hc _ ih=>.cons (hc.mono hk) ih
theorem fG.triples{l:List Value}(x:fG h l):TriplesOk l:=x.rec trivial fun _ _ ih=>ih
theorem fG.snoc{c:Addr}(a b:Int)(hc:fb h c){l:List Value}(x:fG h l):fG h (l++[rawInt a,rawInt b,.ref c]):=x.rec (.cons hc .nil) fun hc _ ih=>.cons hc ih
theorem fG.among{pos:Pos}{v:Value}{l:List Value}(x:fG h l):codeAmong pos l=some v→∃ c,v=.ref c∧fb h c:=x.rec (fun e=>nomatch e) fun {a t b u c r} hc _ ih e=>by
 simp only[codeAmong] at e
 split at e
 ·cases e;exact⟨c,rfl,hc⟩
 ·exact ih e
theorem fD.mono(x:fD h o)(hk:KC h h'):fD h' o:=x.elim fun xs x=>⟨xs,x.1,x.2.mono hk⟩
theorem fD.tab(x:fD h o):a8 o=true:=let ⟨_,e,_⟩:=x;e▸rfl
theorem fD.empty:fD h qV:=⟨#[],rfl,.nil⟩

theorem Heap.gt_ne(hn:a≠tb):gat h a=h.get? a:=by unfold gat;rw[if_neg hn]
theorem Heap.gt_of(e:h.get? a=some o)(ht:a8 o=false:=by rfl):gat h a=some o:=by
 unfold gat;split
 ·rw[e,Option.bind_some,if_neg (by rw[ht];nofun)]
 ·exact e
theorem Heap.gt_good(e:h.get? tb=some o)(g:fD h o):gat h tb=some qV:=by
 unfold gat;rw[if_pos rfl,e,Option.bind_some,if_pos g.tab,if_pos g]
theorem Heap.gt_some(e:gat h a=some o):∃ o',h.get? a=some o'∧(o'=o∧(a=tb→a8 o=false)∨a=tb∧o=qV∧fD h o'):=by
 unfold gat at e
 split at e
 ·rename_i q
  rw[Option.bind_eq_some_iff] at e
  obtain⟨o',e1,e2⟩:=e
  split at e2
  ·split at e2
   ·rename_i g;cases e2;exact⟨o',e1,.inr ⟨q,rfl,g⟩⟩
   ·cases e2
  ·rename_i ht;cases e2;exact⟨_,e1,.inl ⟨rfl,fun _=>by simpa using ht⟩⟩
 ·rename_i q;exact⟨o,e,.inl ⟨rfl,fun e=>absurd e q⟩⟩
theorem Heap.of_gt'(e:gat h a=some o)(hne:o.cls≠.none):h.get? a=some o:=by
 obtain⟨o',e1,⟨rfl,_⟩ | ⟨_,e2,_⟩⟩:=gt_some e
 ·exact e1
 ·subst e2;exact absurd rfl hne
theorem Heap.of_gt(e:gat h a=some o)(ht:a8 o=false:=by rfl):h.get? a=some o:=by
 obtain⟨o',e1,⟨rfl,_⟩ | ⟨_,e2,_⟩⟩:=gt_some e
 ·exact e1
 ·subst e2;cases ht
theorem Heap.gt_lt(e:gat h a=some o):@LT.lt Nat _ a h.objs.size:=let ⟨_,e,_⟩:=gt_some e;Heap.lt_size e
theorem Heap.gt_lift{F:Addr→Prop}(hF:∀ b o,h.get? b=some o→a8 o=true→F b)(hk:∀ b o,F b→h.get? b=some o→h'.get? b=some o):∀ b o,F b→gat h b=some o→gat h' b=some o:=fun b o f e=>by
 obtain⟨o',e',⟨rfl,q⟩ | ⟨rfl,rfl,g⟩⟩:=gt_some e
 ·by_cases hb:b=tb
  ·exact gt_of (hk b o' f e') (q hb)
  ·rw[gt_ne hb];exact hk b o' f e'
 ·exact gt_good (hk _ o' f e') (g.mono fun b o e ht _=>hk b o (hF b o e ht) e)
noncomputable def KH(h h':Heap):Prop:=∀ b o,gat h b=some o→gat h' b=some o
theorem Heap.gt_up(hk:∀ b o,h.get? b=some o→h'.get? b=some o):KH h h':=
 fun b o e=>gt_lift (F:=fun _=>True) (fun _ _ _ _=>trivial) (fun b o _ e=>hk b o e) b o trivial e
theorem Heap.gt_push_of_some(x:Obj)(e:gat h a=some o):gat (h.push x) a=some o:=gt_up (fun _ _ e=>Heap.get?_push_of_some _ e) a o e
theorem Heap.gt_push_size(x:Obj)(hf:x.isFreed=false)(ht:a8 x=false:=by rfl):gat (h.push x) h.objs.size=some x:=gt_of (Heap.get?_push_size _ hf) ht
theorem Heap.gt_none_of_le(e:@LE.le Nat _ h.objs.size a):gat h a=none:=by
 cases q:gat h a with
 | none=>rfl
 | some o=>obtain⟨o',e',_⟩:=gt_some q;rw[Heap.get?_none_of_le e] at e';cases e'
theorem g1{b:Addr}(hs:Heap.SameBut b h h')(n:∀ o,h.get? b=some o→a8 o=false)(a:Addr)(hn:a≠b)(e:gat h a=some o):gat h' a=some o:=
 Heap.gt_lift (F:=fun x=>x≠b) (fun x o e ht q=>by rw[n o (q▸e)] at ht;cases ht) (fun x o hx e=>(hs.2 x hx).trans e) a o hn e
structure Heap.SB(b:Addr)(h h':Heap):Prop where
 s:Heap.SameBut b h h'
 n:∀ o,h.get? b=some o→a8 o=false
 n':∀ o,h'.get? b=some o→a8 o=false
theorem Heap.SB.g{b:Addr}(hs:Heap.SB b h h')(a:Addr)(hn:a≠b):gat h' a=gat h a:=by
 have one:∀ {h h':Heap},Heap.SB b h h'→∀ o,gat h a=some o→gat h' a=some o:=fun {h h'} hs o e=>
  gt_lift (F:=fun x=>x≠b) (fun x o e ht q=>by rw[hs.n o (q▸e)] at ht;cases ht) (fun x o hx e=>(hs.s.2 x hx).trans e) a o hn e
 have hs':Heap.SB b h' h:=⟨⟨hs.s.1.symm,fun x hx=>(hs.s.2 x hx).symm⟩,hs.n',hs.n⟩
 cases q:gat h a with
 | some o=>exact one hs o q
 | none=>
  cases q':gat h' a with
  | none=>rfl
  | some o=>rw[one hs' o q'] at q;cases q
theorem bT{o:Obj}(h:∀ v,o.data≠.fields v):a8 o=false:=by
 have e:oa o.data=false:=by
  generalize o.data=d at h
  cases d <;> first | rfl | exact absurd rfl (h _)
 unfold a8;rw[e];rfl
theorem notTab_cls{o:Obj}(h:o.cls≠.none)(h2:o.cls≠.type "code"):a8 o=false:=by
 have e:qI o.cls=false:=by
  generalize o.cls=c at h h2
  cases c <;> first | rfl | exact absurd rfl h | exact decide_eq_false fun e=>h2 (congrArg Value.type e)
 unfold a8;rw[e,Bool.and_false]
theorem bz(e:h.get? a=some o)(ht:a8 o=false:=by rfl):∀ o,h.get? a=some o→a8 o=false:=fun o' e'=>by
 rw[e] at e';cases e';exact ht
theorem d6{m:Str→Option Value}(x:h.Ns a m):∀ o,h.get? a=some o→a8 o=false:=
 let ⟨_,_,_,e,hd,_⟩:=x;bz e (bT (by rw[hd];nofun))
theorem fN{v:Option Value}(x:h.IsCell a v):∀ o,h.get? a=some o→a8 o=false:=
 let ⟨_,e,hd⟩:=x;bz e (bT (by rw[hd];nofun))
theorem om{m:Str→Option Value}(x:h.Ns a m):∃ o,gat h a=some o:=let ⟨_,_,_,e,_⟩:=id x;⟨_,Heap.gt_of e (d6 x _ e)⟩
theorem j9{v:Option Value}(x:h.IsCell a v):∃ o,gat h a=some o:=let ⟨_,e,_⟩:=id x;⟨_,Heap.gt_of e (fN x _ e)⟩
end
end Mine
namespace Mine
open PySem

inductive D where
 | none
 | bool (b:Bool)
 | int (i:Int)
 | str (x:Str)
 | tup (ds:List D)
 | list (ds:List D)
 | dict (ks:List D) (vs:List D)
 | rng (a b:Int)
 | ptr (a:Addr)

noncomputable def big:Nat:=2 ^ 24

noncomputable def r6(P:Params):D→Int
 | .int i=>hashInt i
 | .str x=>if x.cps.isEmpty=true then 0 else reduceHash (P.strHash x.cps)
 | _=>0
noncomputable def eS(P:Params):D→Int
 | .tup ds=>reduceHash (Builtin.Tuple.tupleHashOf (ds.map (r6 P)))
 | d=>r6 P d
noncomputable def D.isCell:D→Bool
 | .int _ | .str _=>true
 | _=>false
noncomputable def D.isKey:D→Bool
 | .int _ | .str _=>true
 | .tup ds=>ds.all D.isCell
 | _=>false

noncomputable abbrev cV(vs:Array Value)(n:Nat):Obj:={ cls:=.type "tuple",dict:=Option.none,data:=.seq vs n,slots:=#[] }
noncomputable abbrev eG(vs:Array Value)(n:Nat):Obj:={ cls:=.type "list",dict:=Option.none,data:=.seq vs n,slots:=#[] }
noncomputable abbrev jR(es:Array DictEntry)(n:Nat):Obj:={ cls:=.type "dict",dict:=Option.none,data:=.dict es n,slots:=#[] }

inductive iX(mkO:Array Value→Nat→Obj)(h:Heap)(H:Addr→Prop)(n:Nat)(R:List Value→Prop):Value→Prop
 | mk {a vs k} (ho:h.get? a=some (mkO vs k)) (hn:¬ H a) (hl:n≤big) (hr:R vs.toList):iX mkO h H n R (.ref a)
inductive lQ(P:Params)(h:Heap)(H:Addr→Prop)(ks:List D)(R1 R2:List Value→Prop):Value→Prop
 | mk {a es n} (ho:h.get? a=some (jR es n)) (hn:¬ H a) (hl:ks.length≤big) (h1:R1 (es.toList.map (·.key))) (h2:R2 (es.toList.map (·.val))) (hh:es.toList.map (·.hash)=ks.map (eS P)) (hk:ks.all D.isKey=true) (hd:ks.Nodup) (hs:(a == sysModules)=false):lQ P h H ks R1 R2 (.ref a)
inductive RRng(h:Heap)(H:Addr→Prop)(lo hi:Int):Value→Prop
 | mk {a t u v} (hr:IsRange h a lo hi 1 t u v) (hn:¬ H a) (hl:-big≤lo∧lo≤big∧-big≤hi∧hi≤big):RRng h H lo hi (.ref a)
inductive sv(i:Int):Value→Prop
 | mk (t):sv i (.int i t)
inductive su(x:Str):Value→Prop
 | mk (t):su x (.str x t)
inductive dg(p:Value→Prop)(q:List Value→Prop):List Value→Prop
 | mk {v vs} (h1:p v) (h2:q vs):dg p q (v::vs)
mutual
noncomputable def Rep(P:Params)(h:Heap)(H:Addr→Prop)(v:Value)(d:D):Prop:=match d with
 | .none=>v=.none
 | .bool b=>v=.bool b
 | .int i=>sv i v
 | .str x=>su x v
 | .tup ds=>iX cV h H ds.length (fun vs=>aq P h H vs ds) v
 | .list ds=>iX eG h H ds.length (fun vs=>aq P h H vs ds) v
 | .dict ks vs=>lQ P h H ks (fun l=>aq P h H l ks) (fun l=>aq P h H l vs) v
 | .rng lo hi=>RRng h H lo hi v
 | .ptr a=>v=.ref a
termination_by structural d
noncomputable def aq(P:Params)(h:Heap)(H:Addr→Prop)(vs:List Value)(ds:List D):Prop:=match ds with
 | []=>vs=[]
 | d::ds=>dg (fun v=>Rep P h H v d) (fun l=>aq P h H l ds) vs
termination_by structural ds
end
section
variable {P:Params} {h h':Heap} {H H':Addr→Prop} {v:Value} {d:D} {vs:List Value} {ds:List D}
theorem Rep.int(i:Int)(t:Tok):Rep P h H (.int i t) (.int i):=.mk t
theorem Rep.str(x:Str)(t:Tok):Rep P h H (.str x t) (.str x):=.mk t
theorem Rep.tup{a:Addr}{vs:Array Value}{n:Nat}(ho:h.get? a=some (cV vs n))(hn:¬ H a)(hl:ds.length≤big)(hr:aq P h H vs.toList ds):Rep P h H (.ref a) (.tup ds):=.mk ho hn hl hr
theorem aq.nil:aq P h H [] []:=rfl
theorem aq.cons(h1:Rep P h H v d)(h2:aq P h H vs ds):aq P h H (v::vs) (d::ds):=.mk h1 h2
noncomputable abbrev jV(h:Heap)(H:Addr→Prop)(h':Heap):Prop:=∀ a o,¬ H a→gat h a=some o→gat h' a=some o
noncomputable abbrev nq(h:Heap)(H H':Addr→Prop):Prop:=∀ a o,gat h a=some o→H' a→H a
theorem nk{a:Addr}{o:Obj}(hk:jV h H h')(ho:h.get? a=some o)(hn:¬ H a)(ht:a8 o=false):h'.get? a=some o:=Heap.of_gt (hk _ _ hn (Heap.gt_of ho ht)) ht
theorem kC{a:Addr}{o:Obj}(hH:nq h H H')(ho:h.get? a=some o)(hn:¬ H a)(ht:a8 o=false):¬ H' a:=fun x=>hn (hH _ _ (Heap.gt_of ho ht) x)
theorem iX.mono{mkO:Array Value→Nat→Obj}{n:Nat}{R R':List Value→Prop}(ht:∀ vs k,a8 (mkO vs k)=false)(hk:jV h H h')(hH:nq h H H')(r:iX mkO h H n R v)(hR:∀ l,R l→R' l):iX mkO h' H' n R' v:=
 r.rec fun ho hn hl hr=>.mk (nk hk ho hn (ht _ _)) (kC hH ho hn (ht _ _)) hl (hR _ hr)
theorem Rep.mono(hk:jV h H h')(hH:nq h H H')(r:Rep P h H v d):Rep P h' H' v d:=
 D.rec (motive_1:=fun d=>∀ v,Rep P h H v d→Rep P h' H' v d) (motive_2:=fun ds=>∀ l,aq P h H l ds→aq P h' H' l ds)
  (fun _ r=>r) (fun _ _ r=>r) (fun _ _ r=>r) (fun _ _ r=>r)
  (fun _ ih _ r=>iX.mono (fun _ _=>rfl) hk hH r ih) (fun _ ih _ r=>iX.mono (fun _ _=>rfl) hk hH r ih)
  (fun _ _ i1 i2 _ r=>lQ.rec (fun ho hn hl h1 h2 hh hk' hd hs=>.mk (nk hk ho hn rfl) (kC hH ho hn rfl) hl (i1 _ h1) (i2 _ h2) hh hk' hd hs) r)
  (fun _ _ _ r=>RRng.rec (fun hr hn hl=>.mk (nk hk hr hn rfl) (kC hH hr hn rfl) hl) r)
  (fun _ _ r=>r)
  (fun _ r=>r) (fun _ _ i1 i2 _ r=>dg.rec (fun h1 h2=>.mk (i1 _ h1) (i2 _ h2)) r) d v r
theorem aq.mono(hk:jV h H h')(hH:nq h H H')(r:aq P h H vs ds):aq P h' H' vs ds:=
 List.rec (motive:=fun ds=>∀ l,aq P h H l ds→aq P h' H' l ds) (fun _ r=>r) (fun _ _ ih _ r=>dg.rec (fun h1 h2=>.mk (Rep.mono hk hH h1) (ih _ h2)) r) ds vs r
theorem Rep.keeps(hr:Rep P h H v d)(hk:KH h h'):Rep P h' H v d:=hr.mono (fun a o _ e=>hk a o e) fun _ _ _ x=>x
theorem aq.keeps(hr:aq P h H vs ds)(hk:KH h h'):aq P h' H vs ds:=hr.mono (fun a o _ e=>hk a o e) fun _ _ _ x=>x
theorem Rep.sub(hr:Rep P h H v d)(hH:∀ a,H' a→H a):Rep P h H' v d:=hr.mono (fun _ _ _ e=>e) fun a _ _ x=>hH a x
theorem aq.length(r:aq P h H vs ds):vs.length=ds.length:=
 List.rec (motive:=fun ds=>∀ l,aq P h H l ds→l.length=ds.length) (fun _ r=>congrArg List.length r) (fun _ _ ih _ r=>dg.rec (fun _ h2=>congrArg Nat.succ (ih _ h2)) r) ds vs r
theorem aq.size{vs:Array Value}(r:aq P h H vs.toList ds):vs.size=ds.length:=r.length
theorem aq.append{ws:List Value}{es:List D}(r:aq P h H vs ds)(k:aq P h H ws es):aq P h H (vs++ws) (ds++es):=
 List.rec (motive:=fun ds=>∀ l,aq P h H l ds→aq P h H (l++ws) (ds++es)) (fun l r=>(show l=[] from r)▸k) (fun _ _ ih _ r=>dg.rec (fun h1 h2=>.mk h1 (ih _ h2)) r) ds vs r
theorem aq.get(i:Nat)(r:aq P h H vs ds)(e:ds[i]?=some d):∃ v,vs[i]?=some v∧Rep P h H v d:=
 List.rec (motive:=fun ds=>∀ l i,aq P h H l ds→ds[i]?=some d→∃ v,l[i]?=some v∧Rep P h H v d) (fun _ _ _ e=>by rw[List.getElem?_nil] at e;cases e)
  (fun _ _ ih _ i r=>dg.rec (fun h1 h2=>Nat.rec (fun e=>⟨_,rfl,Option.some.inj e▸h1⟩) (fun i _ e=>ih _ i h2 e) i) r) ds vs i r e
theorem aq.drop(i:Nat)(r:aq P h H vs ds):aq P h H (vs.drop i) (ds.drop i):=
 List.rec (motive:=fun ds=>∀ l i,aq P h H l ds→aq P h H (l.drop i) (ds.drop i)) (fun l i r=>by rw[show l=[] from r,List.drop_nil,List.drop_nil];rfl)
  (fun _ _ ih _ i r=>dg.rec (fun h1 h2=>Nat.rec (.mk h1 h2) (fun i _=>ih _ i h2) i) r) ds vs i r
theorem aq.take(i:Nat)(r:aq P h H vs ds):aq P h H (vs.take i) (ds.take i):=
 List.rec (motive:=fun ds=>∀ l i,aq P h H l ds→aq P h H (l.take i) (ds.take i)) (fun l i r=>by rw[show l=[] from r,List.take_nil,List.take_nil];rfl)
  (fun _ _ ih _ i r=>dg.rec (fun h1 h2=>Nat.rec rfl (fun i _=>.mk h1 (ih _ i h2)) i) r) ds vs i r
end
noncomputable def D.scalar:D→Bool
 | .none | .bool _ | .int _ | .str _=>true
 | _=>false
theorem Rep.scalar{P:Params}{h h':Heap}{H H':Addr→Prop}{v:Value}{d:D}(hr:Rep P h H v d)(hs:d.scalar=true):Rep P h' H' v d:=
 D.casesOn (motive_1:=fun d=>d.scalar=true→Rep P h H v d→Rep P h' H' v d) d (fun _ r=>r) (fun _ _ r=>r) (fun _ _ r=>r) (fun _ _ r=>r) (fun _ h=>nomatch h) (fun _ h=>nomatch h) (fun _ _ h=>nomatch h) (fun _ _ h=>nomatch h)
  (fun _ h=>nomatch h)
  hs hr
theorem pK{H:Addr→Prop}{a b:Addr}(hn:¬ H a)(e:Value.ref a=.ref b):¬ H b:=Value.ref.inj e▸hn
theorem iX.off{mkO:Array Value→Nat→Obj}{h:Heap}{H:Addr→Prop}{n:Nat}{R:List Value→Prop}{v:Value}{b:Addr}(r:iX mkO h H n R v):v=.ref b→¬ H b:=r.rec fun _ hn _ _ e=>pK hn e
theorem cE{a b:String}(h:Str.ofString a=Str.ofString b):a=b:=by
 rw[Str.ofString_eq_toList,Str.ofString_eq_toList] at h
 have h1:a.toList.map Char.toNat=b.toList.map Char.toNat:=by simpa using h
 have h2:a.toList=b.toList:=by
  generalize a.toList=l at h1;generalize b.toList=m at h1
  induction l generalizing m with
  | nil=>cases m <;> simp_all
  | cons x l ih=>
   cases m with
   | nil=>simp at h1
   | cons y m=>
    simp only[List.map_cons,List.cons.injEq] at h1
    have:x=y:=by
     have:=h1.1
     exact Char.toNat_inj.mp this
    rw[this,ih _ h1.2]
 exact String.toList_inj.mp h2

end Mine
namespace Mine
open PySem PySem.SeqAt
noncomputable abbrev CK:=Int ⊕ Str
noncomputable def aX:CK→D
 | .inl i=>.int i
 | .inr x=>.str x
noncomputable def CK.is:CK→Value→Bool
 | .inl i,v=>Value.isInt i v
 | .inr x,v=>Value.isStrOf x v
theorem CK.is_inl{i:Int}{v:Value}(h:CK.is (.inl i) v=true):∃ t,v=.int i t:=Value.isInt_shape h
theorem CK.is_inr{x:Str}{v:Value}(h:CK.is (.inr x) v=true):∃ t,v=.str x t:=Value.isStrOf_shape h
theorem CK.cases{C:CK→Value→Prop}{k:CK}{v:Value}(h:CK.is k v=true)(hi:∀ i t,C (.inl i) (.int i t))(hs:∀ x t,C (.inr x) (.str x t)):C k v:=
 match k,h with
 | .inl _,h=>(CK.is_inl h).elim fun t e=>e▸hi _ t
 | .inr _,h=>(CK.is_inr h).elim fun t e=>e▸hs _ t
theorem CK.inj{v:Value}{a b:CK}(ha:CK.is a v=true)(hb:CK.is b v=true):a=b:=by
 cases a <;> cases b
 ·obtain⟨t,rfl⟩:=CK.is_inl ha
  obtain⟨u,e⟩:=CK.is_inl hb
  cases e;rfl
 ·obtain⟨t,rfl⟩:=CK.is_inl ha
  obtain⟨u,e⟩:=CK.is_inr hb
  cases e
 ·obtain⟨t,rfl⟩:=CK.is_inr ha
  obtain⟨u,e⟩:=CK.is_inl hb
  cases e
 ·obtain⟨t,rfl⟩:=CK.is_inr ha
  obtain⟨u,e⟩:=CK.is_inr hb
  cases e;rfl
theorem lk(i j:Int):decide ((Sum.inl i:CK)=.inl j)=decide (i=j):=decide_eq_decide.mpr ⟨Sum.inl.inj,congrArg _⟩
theorem lj(i j:Str):decide ((Sum.inr i:CK)=.inr j)=decide (i=j):=decide_eq_decide.mpr ⟨Sum.inr.inj,congrArg _⟩
noncomputable def bM(prog:Program)(w:World):KeyKind prog w CK where
 is:=CK.is
 hash:=fun k=>eS w.params (aX k)
 inj:=fun v a b ha hb=>CK.inj ha hb
 byValue:=fun k v h=>CK.cases (C:=fun _ v=>carriedByValue v=true) h (fun _ _=>rfl) fun _ _=>rfl
 pyHash:=fun {A E s k v Q} hv=>CK.cases (C:=fun k v=>Q (eS w.params (aX k)) { s with toks:=s.toks+1 }→wpAny (model prog w) A (pyHash v) Q E s) hv (fun _ _ h=>wpAny_pyHash_int h) fun _ _ h=>wpAny_pyHash_str h
 eqBool:=fun {A E s a b u v Q} hu hv=>CK.cases (C:=fun a u=>Q (decide (a=b)) s→wpAny (model prog w) A (PySem.eqBool u v) Q E s) hu
  (fun i t=>CK.cases (C:=fun b v=>Q (decide (.inl i=b)) s→wpAny (model prog w) A (PySem.eqBool (.int i t) v) Q E s) hv (fun j _ h=>wpAny_eqBool_int (show Q (decide (i=j)) s from lk i j▸h)) fun _ _ h=>EqAt.int_str _ _ _ _ prog w E Q h)
  fun x t=>CK.cases (C:=fun b v=>Q (decide (.inr x=b)) s→wpAny (model prog w) A (PySem.eqBool (.str x t) v) Q E s) hv (fun _ _ h=>EqAt.str_int _ _ _ _ prog w E Q h) fun y _ h=>wpAny_eqBool_str (show Q (decide (x=y)) s from lj x y▸h)
 «strs»:=fun k x t v h=>by
  cases k
  ·obtain⟨u,e⟩:=CK.is_inl h;cases e
  ·exact (strKind prog w).strs _ x t v h
theorem kE{a b:CK}(h:aX a=aX b):a=b:=by
 cases a <;> cases b <;> cases h <;> rfl
theorem fk{d:D}(h:d.isCell=true):∃ k,d=aX k:=
 D.casesOn (motive_1:=fun d=>d.isCell=true→∃ k,d=aX k) d (fun h=>nomatch h) (fun _ h=>nomatch h) (fun i _=>⟨.inl i,rfl⟩) (fun x _=>⟨.inr x,rfl⟩) (fun _ h=>nomatch h) (fun _ h=>nomatch h) (fun _ _ h=>nomatch h) (fun _ _ h=>nomatch h)
  (fun _ h=>nomatch h)
  h
theorem ly{ks:List D}(h:ks.all D.isCell=true):∃ cs:List CK,ks=cs.map aX:=by
 induction ks with
 | nil=>exact⟨[],rfl⟩
 | cons k ks ih=>
  have h:=Bool.and_eq_true_iff.mp (show (k.isCell&&ks.all D.isCell)=true from h)
  exact (fk h.1).elim fun c e=>(ih h.2).elim fun cs e'=>⟨c::cs,e▸e'▸rfl⟩
theorem dD(i:Int)(t:Tok):Value.isInt i (.int i t)=true:=decide_eq_true rfl
theorem isStr_self(x:Str)(t:Tok):Value.isStrOf x (.str x t)=true:=by simp[Value.isStrOf]
theorem jb{P:Params}{h:Heap}{H:Addr→Prop}{v:Value}{k:CK}(r:Rep P h H v (aX k)):CK.is k v=true:=
 match k,r with
 | .inl i,r=>sv.rec (motive:=fun v _=>CK.is (.inl i) v=true) (dD i) r
 | .inr x,r=>su.rec (motive:=fun v _=>CK.is (.inr x) v=true) (isStr_self x) r
theorem sg{P:Params}{h:Heap}{H:Addr→Prop}{v:Value}{k:CK}(r:CK.is k v=true):Rep P h H v (aX k):=CK.cases (C:=fun k v=>Rep P h H v (aX k)) r (fun _ t=>.int _ t) fun _ t=>.str _ t
theorem aq.inv{P:Params}{h:Heap}{H:Addr→Prop}{v:Value}{vs:List Value}{d:D}{ds:List D}(r:aq P h H (v::vs) (d::ds)):Rep P h H v d∧aq P h H vs ds:=by
 cases r with
 | mk h1 h2=>exact⟨h1,h2⟩
theorem aq.inv_nil{P:Params}{h:Heap}{H:Addr→Prop}{d:D}{ds:List D}{C:Prop}(r:aq P h H [] (d::ds)):C:=by cases r
theorem pairs_of{prog:Program}{w:World}{h:Heap}{H:Addr→Prop}{es:List DictEntry}{cs:List CK}(r:aq w.params h H (es.map (·.key)) (cs.map aX)):Pairs (bM prog w) es (cs.zip (es.map (·.val))):=by
 induction cs generalizing es with
 | nil=>
  cases es with
  | nil=>exact .nil
  | cons _ _=>exact nomatch (show _::_=[] from r)
 | cons c cs ih=>
  cases es with
  | nil=>exact r.inv_nil
  | cons e es=>exact .cons (jb r.inv.1) rfl (ih r.inv.2)
theorem of_pairs{prog:Program}{w:World}{h:Heap}{H:Addr→Prop}{es:List DictEntry}{kvs:List (CK×Value)}(hp:Pairs (bM prog w) es kvs):aq w.params h H (es.map (·.key)) (kvs.map fun p=>aX p.1)∧es.map (·.val)=kvs.map (·.2):=
 hp.rec ⟨rfl,rfl⟩ fun h1 h2 _ ih=>⟨.mk (sg h1) ih.1,congr (congrArg List.cons h2) ih.2⟩
theorem jX{α β:Type}{a:List α}{b:List β}(h:a.length=b.length):(a.zip b).map (·.1)=a:=List.map_fst_zip (Nat.le_of_eq h)
theorem zip_snd{α β:Type}{a:List α}{b:List β}(h:a.length=b.length):(a.zip b).map (·.2)=b:=List.map_snd_zip (Nat.le_of_eq h.symm)
theorem li{prog:Program}{w:World}{h:Heap}{H:Addr→Prop}{a:Addr}{es:Array DictEntry}{n:Nat}{cs:List CK}(ho:h.get? a=some (jR es n))(hr:aq w.params h H (es.toList.map (·.key)) (cs.map aX))
  (hh:es.toList.map (·.hash)=(cs.map aX).map (eS w.params)) (hn:(cs.map aX).Nodup):h.DictOf (bM prog w) a (cs.zip (es.toList.map (·.val))):=by
 have hl:cs.length=(es.toList.map (·.val)).length:=by have:=hr.length;simp at this ⊢;omega
 refine⟨_,es,n,ho,⟨rfl,rfl,rfl⟩,rfl,?_,pairs_of hr,?_⟩
 ·intro e he
  obtain⟨i,hi,rfl⟩:=List.mem_iff_getElem.mp (Array.mem_toList_iff.mpr he)
  have hc:i<cs.length:=by rw[hl];simpa using hi
  refine⟨cs[i],?_,?_⟩
  ·obtain⟨v,h1,h2⟩:=hr.get i (d:=aX cs[i]) (by simp[hc])
   have:v=es.toList[i].key:=by simpa [List.getElem?_eq_getElem hi] using h1.symm
   exact jb (this▸h2)
  ·have:=congrArg (fun l=>l[i]?) hh
   show _=eS w.params (aX cs[i])
   simpa [List.getElem?_eq_getElem hi,hc] using this
 ·rw[jX hl]
  exact (List.pairwise_map.mp hn).imp fun h e=>h (by rw[e])
theorem rep_dictOf{prog:Program}{w:World}{h:Heap}{H:Addr→Prop}{a:Addr}{kvs:List (CK×Value)}(hd:h.DictOf (bM prog w) a kvs) :
  ∃ es n,h.get? a=some (jR es n)∧aq w.params h H (es.toList.map (·.key)) (kvs.map fun p=>aX p.1)∧es.toList.map (·.val)=kvs.map (·.2)∧es.toList.map (·.hash)=(kvs.map fun p=>aX p.1).map (eS w.params) ∧
   (kvs.map fun p=>aX p.1).all D.isKey=true∧(kvs.map fun p=>aX p.1).Nodup:=by
 obtain⟨o,es,ep,ho,⟨c1,c2,c3⟩,hdat,hk,hp,hn⟩:=hd
 obtain⟨p1,p2⟩:=of_pairs (h:=h) (H:=H) hp
 have ho':o=jR es ep:=by obtain⟨a,b,c,d⟩:=o;dsimp only at c1 c2 c3 hdat;subst c1 c2 c3 hdat;rfl
 refine⟨es,ep,ho'▸ho,p1,p2,?_,?_,?_⟩
 ·have key:∀ (l:List DictEntry) (kvs:List (CK×Value)),(∀ e∈l,∃ k,(bM prog w).is k e.key=true∧e.hash=(bM prog w).hash k)→Pairs (bM prog w) l kvs→l.map (·.hash)=(kvs.map fun p=>aX p.1).map (eS w.params):=by
   intro l kvs hk hp
   induction hp with
   | nil=>rfl
   | cons h1 h2 h3 ih=>
    obtain⟨k,q1,q2⟩:=hk _ (List.mem_cons_self)
    have e:=(bM prog w).inj _ _ _ q1 h1
    rw[e] at q2
    rw[List.map_cons,List.map_cons,List.map_cons,ih fun e he=>hk e (List.mem_cons_of_mem _ he),q2]
    rfl
  exact key _ _ (fun e he=>hk e (Array.mem_toList_iff.mp he)) hp
 ·rw[List.all_eq_true]
  intro d hd
  obtain⟨p,_,rfl⟩:=List.mem_map.mp hd
  cases p.1 <;> rfl
 ·have:(kvs.map fun p=>aX p.1)=(kvs.map (·.1)).map aX:=by simp
  rw[this]
  exact List.pairwise_map.mpr (hn.imp fun h e=>h (kE e))

noncomputable def ce(a b:D):Bool:=match a with
 | .int i=>(match b with | .int j=>i == j | _=>false)
 | .str x=>(match b with | .str y=>x == y | _=>false)
 | _=>false
noncomputable def aO:List D→List D→Bool
 | [],[]=>true
 | a::r,b::r'=>ce a b&&aO r r'
 | _,_=>false
noncomputable def aQ(a b:D):Bool:=match a with
 | .tup x=>(match b with | .tup y=>aO x y | _=>false)
 | a=>ce a b
noncomputable def jS:List D→List D→D→Option D
 | k::ks,v::vs,x=>if aQ k x then some v else jS ks vs x
 | _,_,_=>Option.none
noncomputable def cw:List D→List D→D→D→List D×List D
 | k'::ks,v'::vs,k,v=>if aQ k' k then (k'::ks,v::vs) else (k'::(cw ks vs k v).1,v'::(cw ks vs k v).2)
 | _,_,k,v=>([k],[v])
theorem mz(a b:CK):ce (aX a) (aX b)=decide (a=b):=
 match a,b with
 | .inl i,.inl j=>(lk i j).symm
 | .inl _,.inr _=>rfl
 | .inr _,.inl _=>rfl
 | .inr i,.inr j=>(lj i j).symm
theorem kQ(a b:CK):aQ (aX a) (aX b)=decide (a=b):=
 (match a with
 | .inl _=>rfl
 | .inr _=>rfl:aQ (aX a) (aX b)=ce (aX a) (aX b)).trans (mz a b)
theorem kf(k v:D)(ks vs:List D)(x:D):jS (k::ks) (v::vs) x=if aQ k x then some v else jS ks vs x:=rfl
theorem iz(c k:CK)(v:Value)(l:List (CK×Value)):valueAt ((c,v)::l) k=if c=k then some v else valueAt l k:=by
 unfold valueAt
 by_cases h:c=k
 ·rw[if_pos h,List.find?_cons_of_pos (by simpa using h)];rfl
 ·rw[if_neg h,List.find?_cons_of_neg (by simpa using h)]
theorem dget_valueAt{P:Params}{h:Heap}{H:Addr→Prop}{k:CK}{d:D}{cs:List CK}{vals:List Value}{vs:List D}(r:aq P h H vals vs)(e:jS (cs.map aX) vs (aX k)=some d):∃ v,valueAt (cs.zip vals) k=some v∧Rep P h H v d:=by
 induction cs generalizing vals vs with
 | nil=>cases e
 | cons c cs ih=>
  cases vs with
  | nil=>cases e
  | cons d' vs=>
   cases r with
   | mk hv hr=>
    rw[List.map_cons,kf,kQ] at e
    rw[List.zip_cons_cons,iz]
    by_cases hc:c=k
    ·rw[if_pos (decide_eq_true hc)] at e
     rw[if_pos hc]
     exact⟨_,rfl,Option.some.inj e▸hv⟩
    ·rw[if_neg (by simpa using hc)] at e
     rw[if_neg hc]
     exact ih hr e
theorem any_valueAt{k:CK}{cs:List CK}{vals:List Value}(e:cs.length=vals.length):(valueAt (cs.zip vals) k).isSome=(cs.map aX).any fun x=>aQ x (aX k):=by
 induction cs generalizing vals with
 | nil=>rfl
 | cons c cs ih=>
  cases vals with
  | nil=>cases e
  | cons v vals=>
   rw[List.zip_cons_cons,iz,List.map_cons,List.any_cons,kQ,← ih (Nat.succ.inj e)]
   by_cases hc:c=k
   ·rw[if_pos hc,decide_eq_true hc];rfl
   ·rw[if_neg hc,decide_eq_false hc];rfl
theorem kc(k' v':D)(ks vs:List D)(k v:D):cw (k'::ks) (v'::vs) k v=if aQ k' k then (k'::ks,v::vs) else (k'::(cw ks vs k v).1,v'::(cw ks vs k v).2):=rfl
theorem stored_dput{P:Params}{h:Heap}{H:Addr→Prop}{k:CK}{v:Value}{d:D}(hv:Rep P h H v d){cs:List CK}{vals:List Value}{vs:List D}(e:cs.length=vals.length)(hn:cs.Nodup)(hr:aq P h H vals vs) :
  ((stored (cs.zip vals) k v).map fun p=>aX p.1)=(cw (cs.map aX) vs (aX k) d).1∧aq P h H ((stored (cs.zip vals) k v).map (·.2)) (cw (cs.map aX) vs (aX k) d).2:=by
 induction cs generalizing vals vs with
 | nil=>exact⟨rfl,.cons hv rfl⟩
 | cons c cs ih=>
  cases vs with
  | nil=>rw[show vals=[] from hr] at e;cases e
  | cons d' vs=>
   cases hr with
   | @mk u vals hu hr=>
    have hl:cs.length=vals.length:=Nat.succ.inj e
    have hn':=List.nodup_cons.mp hn
    rw[List.zip_cons_cons,List.map_cons,kc,kQ]
    by_cases hc:c=k
    ·subst hc
     have hs:stored ((c,u)::cs.zip vals) c v=(c,v)::cs.zip vals:=by
      unfold stored
      rw[if_pos (by simp),List.map_cons,if_pos rfl,map_store_of_not_mem _ _ _ (by rw[jX hl];exact hn'.1)]
     rw[hs,if_pos (decide_eq_true rfl)]
     refine⟨congrArg (aX c::·) ?_,.cons hv (show aq P h H ((cs.zip vals).map (·.2)) vs from (zip_snd hl).symm▸hr)⟩
     have:(cs.zip vals).map (fun p=>aX p.1)=((cs.zip vals).map (·.1)).map aX:=(List.map_map (f:=fun (p:CK×Value)=>p.1) (g:=aX)).symm
     rw[this,jX hl]
    ·have hs:stored ((c,u)::cs.zip vals) k v=(c,u)::stored (cs.zip vals) k v:=by
      unfold stored
      rw[List.any_cons,decide_eq_false (show ¬ (c,u).1=k from hc),Bool.false_or]
      by_cases ha:(cs.zip vals).any (fun kv=>decide (kv.1=k))=true
      ·rw[if_pos ha,if_pos ha,List.map_cons,if_neg hc]
      ·rw[if_neg ha,if_neg ha];rfl
     have ih:=ih hl hn'.2 hr
     rw[hs,if_neg (by simpa using hc)]
     exact⟨congrArg (aX c::·) ih.1,.cons hu ih.2⟩
end Mine
namespace Mine
open PySem PySem.SeqAt
noncomputable def D.isTK:D→Bool
 | .tup ds=>ds.all D.isCell
 | _=>false
noncomputable def dq(k:List CK):D:=.tup (k.map aX)
theorem nA{d:D}(h:d.isTK=true):∃ k,d=dq k:=
 D.casesOn (motive_1:=fun d=>d.isTK=true→∃ k,d=dq k) d (fun h=>nomatch h) (fun _ h=>nomatch h) (fun _ h=>nomatch h) (fun _ h=>nomatch h) (fun _ h=>(ly h).elim fun cs e=>⟨cs,e▸rfl⟩) (fun _ h=>nomatch h) (fun _ _ h=>nomatch h) (fun _ _ h=>nomatch h)
  (fun _ h=>nomatch h)
  h
theorem oY:∀ {ks:List D},ks.all D.isTK=true→∃ cs:List (List CK),ks=cs.map dq
 | [],_=>⟨[],rfl⟩
 | k::ks,h=>let h:=Bool.and_eq_true_iff.mp (show (k.isTK&&ks.all D.isTK)=true from h);(nA h.1).elim fun c e=>(oY h.2).elim fun cs e'=>⟨c::cs,e▸e'▸rfl⟩
theorem ofTK_inj{a b:List CK}(h:dq a=dq b):a=b:=(List.map_inj_right fun _ _=>kE).mp (D.tup.inj h)
theorem lA:∀ (a b:List CK),aO (a.map aX) (b.map aX)=decide (a=b)
 | [],[]=>rfl
 | [],_::_=>rfl
 | _::_,[]=>rfl
 | x::a,y::b=>by
  show (ce (aX x) (aX y)&&aO (a.map aX) (b.map aX))=_
  rw[mz,lA a b,← Bool.decide_and]
  exact decide_eq_decide.mpr (by rw[List.cons.injEq])
theorem iK(a b:List CK):aQ (dq a) (dq b)=decide (a=b):=lA a b
noncomputable abbrev TKd(prog:Program)(w:World):=tupleKind (bM prog w)
section
variable {prog:Program} {w:World} {h:Heap} {H:Addr→Prop}
theorem items_of{vs:List Value}{ks:List CK}(r:aq w.params h H vs (ks.map aX)):ItemsAre (bM prog w) ks vs:=by
 induction ks generalizing vs with
 | nil=>rw[show vs=[] from r];exact .nil
 | cons k ks ih=>
  cases r with
  | mk r1 r2=>exact .cons (jb r1) (ih r2)
theorem mM{v:Value}{k:List CK}(r:Rep w.params h H v (dq k)):∃ a,v=.ref a∧(TKd prog w).is h k a:=
 iX.rec (motive:=fun v _=>∃ a,v=.ref a∧(TKd prog w).is h k a) (fun ho _ _ hr=>⟨_,rfl,_,_,_,ho,rfl,rfl,items_of hr⟩) r
theorem qw(k:List CK):(TKd prog w).hash k=eS w.params (dq k):=by
 show reduceHash (Builtin.Tuple.tupleHashOf (k.map fun c=>eS w.params (aX c)))=reduceHash (Builtin.Tuple.tupleHashOf ((k.map aX).map (r6 w.params)))
 rw[List.map_map]
 congr 2
 refine List.map_congr_left fun c _=>?_
 cases c <;> rfl
noncomputable abbrev kD(x:List CK×Addr×Value):D:=dq x.1
theorem entries_tk{es:List DictEntry}{cs:List (List CK)}(r:aq w.params h H (es.map (·.key)) (cs.map dq))(hh:es.map (·.hash)=(cs.map dq).map (eS w.params)) :
  ∃ xs:List (List CK×Addr×Value),es=xs.map (entryOfKey (TKd prog w))∧(∀ x∈xs,(TKd prog w).is h x.1 x.2.1)∧xs.map (·.1)=cs:=by
 induction cs generalizing es with
 | nil=>
  cases es with
  | nil=>exact⟨[],rfl,(fun _ h=>nomatch h),rfl⟩
  | cons _ _=>exact nomatch (show _::_=[] from r)
 | cons c cs ih=>
  cases es with
  | nil=>exact r.inv_nil
  | cons e es=>
   obtain⟨r1,r2⟩:=r.inv
   injection hh with q1 q2
   obtain⟨a,ea,ia⟩:=mM (prog:=prog) r1
   obtain⟨xs,e1,e2,e3⟩:=ih r2 q2
   refine⟨(c,a,e.val)::xs,?_,fun x hx=>(List.mem_cons.mp hx).elim (fun q=>q▸ia) (e2 x),by rw[List.map_cons,e3]⟩
   rw[List.map_cons,← e1]
   congr 1
   obtain⟨eh,ek,ev⟩:=e
   show _=DictEntry.mk _ _ _
   rw[qw,← q1,← ea]
theorem jr{a:Addr}{es:Array DictEntry}{n:Nat}{cs:List (List CK)}(ho:h.get? a=some (jR es n))(hr:aq w.params h H (es.toList.map (·.key)) (cs.map dq))
  (hh:es.toList.map (·.hash)=(cs.map dq).map (eS w.params)) (hn:(cs.map dq).Nodup) :
  ∃ xs:List (List CK×Addr×Value),h.DictOfH (TKd prog w) a xs∧xs.map (·.1)=cs∧es.toList.map (·.key)=xs.map (fun x=>Value.ref x.2.1)∧es.toList.map (·.val)=xs.map (·.2.2):=by
 obtain⟨xs,e1,e2,e3⟩:=entries_tk (prog:=prog) hr hh
 refine⟨xs,⟨_,es,n,ho,⟨rfl,rfl,rfl⟩,rfl,e1,e2,?_⟩,e3,?_,?_⟩
 ·rw[e3];exact (List.pairwise_map.mp hn).imp fun h e=>h (by rw[e])
 ·rw[e1,List.map_map];rfl
 ·rw[e1,List.map_map];rfl
theorem ir(c:List CK)(b:Addr)(u:Value)(xs:List (List CK×Addr×Value))(k:List CK):atKey ((c,b,u)::xs) k=if c=k then some (b,u) else atKey xs k:=by
 unfold atKey
 by_cases hc:c=k <;> simp[hc]
theorem mB{k:List CK}:∀ (xs:List (List CK×Addr×Value)),(atKey xs k).isSome=(xs.map kD).any fun x=>aQ x (dq k)
 | []=>rfl
 | (c,b,u)::xs=>by
  rw[ir,List.map_cons,List.any_cons,iK,← mB xs]
  by_cases hc:c=k <;> simp[hc]
theorem dget_atKey{P:Params}{k:List CK}{d:D}{xs:List (List CK×Addr×Value)}{vs:List D}(r:aq P h H (xs.map (·.2.2)) vs)(e:jS (xs.map kD) vs (dq k)=some d):∃ p,atKey xs k=some p∧Rep P h H p.2 d:=by
 induction xs generalizing vs with
 | nil=>cases e
 | cons x xs ih=>
  obtain⟨c,b,u⟩:=x
  cases vs with
  | nil=>cases e
  | cons d' vs=>
   obtain⟨r1,r2⟩:=r.inv
   rw[List.map_cons,kf,iK] at e
   rw[ir]
   by_cases hc:c=k
   ·rw[if_pos (decide_eq_true hc)] at e
    exact⟨_,if_pos hc,Option.some.inj e▸r1⟩
   ·rw[if_neg (by simpa using hc)] at e
    obtain⟨p,h1,h2⟩:=ih r2 e
    exact⟨p,(if_neg hc).trans h1,h2⟩
theorem storedH_cons(c:List CK)(b:Addr)(u:Value)(xs:List (List CK×Addr×Value))(k:List CK)(a:Addr)(v:Value)(hn:c ∉ xs.map (·.1)) :
  storedH ((c,b,u)::xs) k a v=if c=k then (c,b,v)::xs else (c,b,u)::storedH xs k a v:=by
 unfold storedH
 rw[ir]
 by_cases hc:c=k
 ·subst hc
  simp only[if_true,Option.isSome_some,List.map_cons,putAt]
  rw[map_putAt_of_not_mem xs c v hn]
 ·simp only[hc,if_false,List.map_cons,putAt]
  split <;> rfl
theorem storedH_dput{P:Params}{k:List CK}{a:Addr}{v:Value}{d:D}(hk:Rep P h H (.ref a) (dq k))(hv:Rep P h H v d){xs:List (List CK×Addr×Value)}{vs:List D}(hn:(xs.map (·.1)).Nodup)
  (rk:aq P h H (xs.map fun x=>Value.ref x.2.1) (xs.map kD)) (r:aq P h H (xs.map (·.2.2)) vs) :
  (storedH xs k a v).map kD=(cw (xs.map kD) vs (dq k) d).1∧aq P h H ((storedH xs k a v).map fun x=>Value.ref x.2.1) (cw (xs.map kD) vs (dq k) d).1∧aq P h H ((storedH xs k a v).map (·.2.2)) (cw (xs.map kD) vs (dq k) d).2:=by
 induction xs generalizing vs with
 | nil=>exact⟨rfl,.cons hk .nil,.cons hv .nil⟩
 | cons x xs ih=>
  obtain⟨c,b,u⟩:=x
  cases vs with
  | nil=>exact nomatch (show _::_=[] from r)
  | cons d' vs=>
   obtain⟨hn1,hn2⟩:=List.nodup_cons.mp hn
   obtain⟨r1,r2⟩:=r.inv
   obtain⟨k1,k2⟩:=rk.inv
   rw[storedH_cons _ _ _ _ _ _ _ hn1,List.map_cons,kc,iK]
   by_cases hc:c=k
   ·rw[if_pos hc,if_pos (decide_eq_true hc)]
    exact⟨rfl,.cons k1 k2,.cons hv r2⟩
   ·rw[if_neg hc,if_neg (by simpa using hc)]
    have i:=ih hn2 k2 r2
    exact⟨congrArg (kD (c,b,u)::·) i.1,.cons k1 i.2.1,.cons r1 i.2.2⟩
end
end Mine
namespace Mine
open PySem

inductive ME where
 | var (x:String)
 | glob (x:String)
 | int (i:Int)
 | str (s:String)
 | bool (b:Bool)
 | none
 | bin (op:Operator) (a b:ME)
 | cmp (op:CmpOp) (a b:ME)
 | bop (op:BoolOp) (es:List ME)
 | not (a:ME)
 | neg (a:ME)
 | tup (es:List ME)
 | lst (es:List ME)
 | sub (a i:ME)
 | sl (a lo hi:ME)
 | dct (ks vs:List ME)
 | comp (elt:ME) (x:String) (src:ME) (cs:List ME)
 | call (f:String) (args:List ME)
 | isi (a:ME) (T:String)
 | blt (f:String) (args:List ME)
 | lcp (a:ME)
 | sset (a:ME)
 | srt (a:ME) (f x p:String) (rev:Bool)

inductive MS where
 | assign (x:String) (e:ME)
 | append (x:String) (e:ME)
 | setk (x:String) (k e:ME)
 | ite (c:ME) (t f:List MS)
 | for_ (x:String) (src:ME) (body:List MS)
 | ret (e:ME)
 | bad
 | grp
 | forr (x:String) (src:ME) (body:List MS)
 | expr (e:ME)

noncomputable def D.isList:D→Bool
 | .list _=>true
 | _=>false
noncomputable def onI{α:Type}(d:D)(f:Int→Option α):Option α:=match d with | .int i=>f i | _=>Option.none
noncomputable def onS{α:Type}(d:D)(f:Str→Option α):Option α:=match d with | .str i=>f i | _=>Option.none
noncomputable def onB{α:Type}(d:D)(f:Bool→Option α):Option α:=match d with | .bool i=>f i | _=>Option.none
noncomputable def onT{α:Type}(d:D)(f:List D→Option α):Option α:=match d with | .tup i=>f i | _=>Option.none
noncomputable def onL{α:Type}(d:D)(f:List D→Option α):Option α:=match d with | .list i=>f i | _=>Option.none
noncomputable def onC{α:Type}(d:D)(f:Int→Option α)(g:Str→Option α):Option α:=match d with | .int i=>f i | .str x=>g x | _=>Option.none
noncomputable def D.items:D→Option (List D)
 | .list ds | .tup ds=>some ds
 | .rng a b=>some ((List.range (b - a).toNat).map fun (i:Nat)=>D.int (a+(i:Int)))
 | .dict ks _=>some ks
 | _=>Option.none

noncomputable def br:D→Option Bool
 | .bool b=>some b
 | .none=>some false
 | .int i=>some (i != 0)
 | .list ds | .tup ds=>some (!ds.isEmpty)
 | _=>Option.none

noncomputable def eqS(a b:D):Option Bool:=match a with
 | .bool x=>onB b fun y=>some (x == y)
 | .int x=>onC b (fun y=>some (x == y)) fun _=>some false
 | .str x=>onC b (fun _=>some false) fun y=>some (x == y)
 | _=>Option.none
noncomputable def gf:List D→List D→Option Bool
 | [],[]=>some true
 | a::r,b::r'=>(eqS a b).bind fun x=>(gf r r').map fun y=>x&&y
 | _,_=>some false
noncomputable def eqD(a b:D):Option Bool:=match a with
 | .list ds=>onL b fun es=>if ds.length=es.length then gf ds es else some false
 | .tup ds=>onT b fun es=>if ds.length=es.length then gf ds es else if es.length=0 then some false else Option.none
 | a=>eqS a b

noncomputable def eqX(a b:D):Option Bool:=match a with
 | .dict ks vs=>(match b with | .dict ks' vs'=>if (ks.all D.isCell&&aO ks ks'&&vs.length == vs'.length)=true then gf vs vs' else Option.none | _=>Option.none)
 | a=>eqD a b
noncomputable def lim:Int:=2 ^ 64
noncomputable def dU:Int:=2 ^ 1000
noncomputable def mJ:Int:=10 ^ 100
noncomputable def binI(op:Operator)(a b:Int):Option D:=match op with
 | .Add=>some (.int (a+b))
 | .Sub=>some (.int (a - b))
 | .Mult=>if (-lim<a∧a<lim)∨(-lim<b∧b<lim) then some (.int (a * b)) else Option.none
 | .FloorDiv=>if 0<b∧b<lim then some (.int (a / b)) else Option.none
 | .Mod=>if 0<b then some (.int (a % b)) else Option.none
 | .Pow=>if -dU<a∧a<dU∧0≤b∧b≤100 then some (.int (a ^ b.toNat)) else Option.none
 | _=>Option.none
noncomputable def binS(op:Operator)(a:Str)(d:D):Option D:=match op with
 | .Add=>onS d fun b=>if a.length+b.length≤big then some (.str (a++b)) else Option.none
 | .Mult=>onI d fun n=>if 0≤n∧n≤1000∧a.length≤1000 then some (.str (Txt.mul a n)) else Option.none
 | _=>Option.none
noncomputable def binL(op:Operator)(a:List D)(d:D):Option D:=match op with
 | .Add=>onL d fun b=>if a.length+b.length≤big then some (.list (a++b)) else Option.none
 | _=>Option.none
noncomputable def binT(op:Operator)(a:List D)(d:D):Option D:=match op with
 | .Add=>onT d fun b=>if a.length+b.length≤big then some (.tup (a++b)) else Option.none
 | _=>Option.none
noncomputable def du(op:Operator)(x y:D):Option D:=match x with
 | .int a=>onI y (binI op a)
 | .str a=>binS op a y
 | .list a=>binL op a y
 | .tup a=>binT op a y
 | _=>Option.none

noncomputable def cmpI(op:CmpOp)(a b:Int):Option D:=match op with
 | .Lt=>some (.bool (decide (a<b)))
 | .LtE=>some (.bool (decide (a≤b)))
 | .Gt=>some (.bool (decide (a > b)))
 | .GtE=>some (.bool (decide (a ≥ b)))
 | _=>Option.none
noncomputable def ordD(op:CmpOp)(x y:D):Option D:=match x with
 | .int a=>onI y (cmpI op a)
 | .str a=>onS y fun b=>(match op with | .Lt=>some (.bool (decide (a.cps.toList<b.cps.toList))) | _=>Option.none)
 | _=>Option.none
noncomputable def cB(k:D)(ks:List D):Bool:=(k.isCell&&ks.all D.isCell)||(k.isTK&&ks.all D.isTK)
noncomputable def kH(k c:D):Option Bool:=match c with
 | .dict ks _=>if cB k ks then some (ks.any fun x=>aQ x k) else Option.none
 | .tup ds=>if k.isCell&&ds.all D.isCell then some (ds.any fun x=>ce x k) else Option.none
 | _=>Option.none
noncomputable def dZ(op:CmpOp)(a b:D):Option D:=match op with
 | .Eq=>(eqX a b).map .bool
 | .NotEq=>(eqX a b).map fun x=>.bool (!x)
 | .In=>(kH a b).map .bool
 | .NotIn=>(kH a b).map fun x=>.bool (!x)
 | op=>ordD op a b

noncomputable def idx(k:Int)(n:Nat):Option Nat:=if 0≤k∧k<n then some k.toNat else if -(n:Int)≤k∧k<0 then some (k+n).toNat else Option.none
noncomputable def bC(x:Str)(j:Nat):Str:=⟨#[x.cps.getD j 0]⟩
noncomputable def aT(d i:D):Option D:=match d with
 | .list ds=>onI i fun k=>(idx k ds.length).bind fun j=>ds[j]?
 | .tup ds=>onI i fun k=>(idx k ds.length).bind fun j=>ds[j]?
 | .str x=>onI i fun k=>if 0≤k∧k<x.length∧x.length≤big then some (.str (bC x k.toNat)) else Option.none
 | .dict ks vs=>if cB i ks then jS ks vs i else Option.none
 | _=>Option.none

noncomputable def bnd(lo:D)(dflt:Nat):Option Nat:=match lo with
 | .none=>some dflt
 | .int i=>if 0≤i then some i.toNat else Option.none
 | _=>Option.none
noncomputable def bndS(lo:D):Option (Option Int):=match lo with
 | .none=>some Option.none
 | .int i=>some (some i)
 | _=>Option.none
noncomputable def slD(d lo hi:D):Option D:=match d with
 | .list ds=>(bnd lo 0).bind fun a=>(bnd hi ds.length).map fun b=>.list ((ds.take b).drop a)
 | .tup ds=>(bnd lo 0).bind fun a=>(bnd hi ds.length).map fun b=>.tup ((ds.take b).drop a)
 | .str x=>if x.length≤big then (bndS lo).bind fun a=>(bndS hi).map fun b=>.str (Txt.slice x a b) else Option.none
 | _=>Option.none

noncomputable def kT(d:D)(T:String):Option Bool:=
 if T="str"∨T="bool"∨T="int"∨T="tuple"∨T="list" then (match d with
  | .str _=>some (T == "str")
  | .int _=>some (T == "int")
  | .bool _=>some (T == "int"||T == "bool")
  | .tup _=>some (T == "tuple")
  | .list _=>some (T == "list")
  | _=>Option.none) else Option.none

noncomputable def lenD(d:D):Option D:=match d with
 | .list ds=>some (.int ds.length)
 | .tup ds=>some (.int ds.length)
 | .str x=>if x.length≤big then some (.int x.length) else Option.none
 | _=>Option.none
noncomputable def rngD(a n:Int):Option D:=if (-(big:Int)≤n∧n≤big)∧-(big:Int)≤a∧a≤big then some (.rng a n) else Option.none
noncomputable def bltI(f:String)(i:Int):Option D:=
 if f="range" then rngD 0 i else if f="str" then (if -mJ<i∧i<mJ then some (.str (Str.ofString (toString i))) else Option.none) else Option.none
noncomputable def bltI2(f:String)(a b:Int):Option D:=
 if f="range" then rngD a b else if f="max" then some (.int (if b > a then b else a)) else if f="min" then some (.int (if b<a then b else a)) else Option.none
noncomputable def kr:List D→Option Int
 | []=>some 0
 | .int i::r=>(kr r).map (i+·)
 | _=>Option.none
noncomputable def eZ(f:String)(as:List D):Option D:=match as with
 | [d]=>if f="len" then lenD d else (match d with
  | .list ds=>if f="tuple" then some (.tup ds) else if f="sum" then (kr ds).map .int else Option.none
  | .int i=>bltI f i
  | .bool b=>if f="int" then some (.int (if b then 1 else 0)) else Option.none
  | .str x=>if f="str" then some (.str x) else Option.none
  | _=>Option.none)
 | [a,b]=>onI a fun i=>onI b fun j=>bltI2 f i j
 | _=>Option.none
noncomputable def n0(d:D):Option (List D):=match d with
 | .list ds=>some ds
 | .tup ds=>some ds
 | .dict ks _=>if ks.all D.isCell then some ks else Option.none
 | _=>Option.none

noncomputable def kY:List D→Option (List Int)
 | []=>some []
 | .int i::r=>(kY r).map (i::·)
 | _=>Option.none
noncomputable def pi(x:Int):List Int→List Int
 | []=>[x]
 | y::l=>if x<y then x::y::l else if x=y then y::l else y::pi x l
noncomputable def fI(ns:List Int):List Int:=ns.foldr pi []
noncomputable def ku(d:D):Option D:=match d with
 | .list ds=>if ds.length<63 then (kY ds).map fun ns=>.list ((fI ns).map .int) else Option.none
 | _=>Option.none
noncomputable def cI:D→Bool
 | .str _=>true
 | _=>false
noncomputable def pq:D→D→Bool
 | .int i,.int j=>decide (i<j)
 | .int _,.str _=>true
 | .str x,.str y=>decide (x.cps.toList<y.cps.toList)
 | _,_=>false
noncomputable def mm(ds:List D)(p:Nat):D:=ds.getD p (.int 0)
noncomputable def mW(lt:Nat→Nat→Bool){α:Type}:PySem.W.KasT α→α
 | .ret a=>a
 | .ask i j k=>mW lt (k (lt i j))
noncomputable def kix(ks:List D):List Nat:=if ks.length<2 then List.range ks.length else (mW (fun i j=>pq (mm ks i) (mm ks j)) (PySem.W.kas_sort ks.length)).toList
noncomputable def eQ{α:Type}(z:α)(rev:Bool)(ks:List D)(l:List α):List α:=PySem.W.katRev rev ((kix (PySem.W.katRev rev ks)).map fun i=>(PySem.W.katRev rev l).getD i z)
noncomputable def n5(k:D):Option D:=match k with
 | .tup [.bool b,c]=>if c.isCell&&b == cI c then some c else Option.none
 | _=>Option.none
noncomputable def fA(g:D→Option D):List D→Option (List D)
 | []=>some []
 | d::r=>match g d with
  | some k=>(match n5 k with
   | some c=>(fA g r).map (c::·)
   | Option.none=>Option.none)
  | Option.none=>Option.none
noncomputable def srtD(g:D→Option D)(rev:Bool)(d:D):Option D:=match d with
 | .list ds=>if ds.length<64 then (fA g ds).map fun ks=>.list (eQ .none rev ks ds) else Option.none
 | _=>Option.none
noncomputable def bk(f:D→Option (Option D)):List D→Option (List D)
 | []=>some []
 | it::r=>match f it with
  | Option.none=>Option.none
  | some o=>match bk f r with
   | Option.none=>Option.none
   | some ds=>some (match o with | Option.none=>ds | some d=>d::ds)

structure CF where
 call:String→List D→Option (D×Bool)
 glob:String→Option D

noncomputable def eE(cf:CF)(f:String)(i d:D):Option D:=match aT d i with
 | some c=>(cf.call f [c]).map (·.1)
 | Option.none=>Option.none
mutual
noncomputable def evE(cf:CF)(ρ:List (String×D))(me:ME):Option D:=match me with
 | .var x=>ρ.lookup x
 | .glob x=>cf.glob x
 | .int i=>some (.int i)
 | .str s=>some (.str (Str.ofString s))
 | .bool b=>some (.bool b)
 | .none=>some .none
 | .bin op a b=>match evE cf ρ a with
  | some x=>(match evE cf ρ b with | some y=>du op x y | Option.none=>Option.none)
  | Option.none=>Option.none
 | .cmp op a b=>match evE cf ρ a with
  | some x=>(match evE cf ρ b with | some y=>dZ op x y | Option.none=>Option.none)
  | Option.none=>Option.none
 | .bop op es=>eC cf ρ op es
 | .not a=>match evE cf ρ a with
  | some x=>(br x).map fun t=>.bool (!t)
  | Option.none=>Option.none
 | .neg a=>match evE cf ρ a with
  | some x=>onI x fun i=>some (.int (-i))
  | Option.none=>Option.none
 | .tup es=>match bF cf ρ es with
  | some ds=>if ds.length≤big then some (.tup ds) else Option.none
  | Option.none=>Option.none
 | .lst es=>match bF cf ρ es with
  | some ds=>if ds.length≤big then some (.list ds) else Option.none
  | Option.none=>Option.none
 | .dct ks vs=>match bF cf ρ ks with
  | some ds=>(match bF cf ρ vs with
   | some es=>if ds.isEmpty&&es.isEmpty then some (.dict [] []) else Option.none
   | Option.none=>Option.none)
  | Option.none=>Option.none
 | .sub a i=>match evE cf ρ a with
  | some x=>(match evE cf ρ i with | some y=>aT x y | Option.none=>Option.none)
  | Option.none=>Option.none
 | .sl a lo hi=>match evE cf ρ a with
  | some x=>(match evE cf ρ lo with
   | some y=>(match evE cf ρ hi with | some z=>slD x y z | Option.none=>Option.none)
   | Option.none=>Option.none)
  | Option.none=>Option.none
 | .comp elt x src cs=>match evE cf ρ src with
  | some d=>(match d.items with
   | some its=>if its.length≤big then (bk (fun it=>match jQ cf ((x,it)::ρ) cs with
     | some true=>(match evE cf ((x,it)::ρ) elt with | some y=>some (some y) | Option.none=>Option.none)
     | some false=>some Option.none
     | Option.none=>Option.none) its).map .list else Option.none
   | Option.none=>Option.none)
  | Option.none=>Option.none
 | .call f args=>match bF cf ρ args with
  | some ds=>(cf.call f ds).map (·.1)
  | Option.none=>Option.none
 | .isi a T=>match evE cf ρ a with
  | some x=>(kT x T).map .bool
  | Option.none=>Option.none
 | .blt f args=>match bF cf ρ args with
  | some ds=>eZ f ds
  | Option.none=>Option.none
 | .lcp a=>match evE cf ρ a with
  | some x=>(n0 x).map .list
  | Option.none=>Option.none
 | .sset a=>match evE cf ρ a with
  | some x=>ku x
  | Option.none=>Option.none
 | .srt a f _ p rev=>match evE cf ρ a with
  | some x=>(match ρ.lookup p with
   | some i=>srtD (eE cf f i) rev x
   | Option.none=>Option.none)
  | Option.none=>Option.none
termination_by structural me
noncomputable def bF(cf:CF)(ρ:List (String×D))(ms:List ME):Option (List D):=match ms with
 | []=>some []
 | e::r=>match evE cf ρ e with
  | some d=>(match bF cf ρ r with | some ds=>some (d::ds) | Option.none=>Option.none)
  | Option.none=>Option.none
termination_by structural ms
noncomputable def eC(cf:CF)(ρ:List (String×D))(op:BoolOp)(ms:List ME):Option D:=match ms with
 | []=>Option.none
 | [e]=>evE cf ρ e
 | e::r=>match evE cf ρ e with
  | some d=>(match br d with
   | some t=>if t=(match op with | .And=>false | .Or=>true) then some d else eC cf ρ op r
   | Option.none=>Option.none)
  | Option.none=>Option.none
termination_by structural ms
noncomputable def jQ(cf:CF)(ρ:List (String×D))(ms:List ME):Option Bool:=match ms with
 | []=>some true
 | e::r=>match evE cf ρ e with
  | some d=>(match br d with
   | some t=>if t then jQ cf ρ r else some false
   | Option.none=>Option.none)
  | Option.none=>Option.none
termination_by structural ms
end

noncomputable def oE{β:Type}(a:Option D)(f:D→Option β):Option β:=match a with
 | some x=>f x
 | Option.none=>Option.none
noncomputable def oEs{β:Type}(a:Option (List D))(f:List D→Option β):Option β:=match a with
 | some x=>f x
 | Option.none=>Option.none
noncomputable def oT{β:Type}(a:Option Bool)(f:Bool→Option β):Option β:=match a with
 | some x=>f x
 | Option.none=>Option.none
theorem bi{β:Type}{a:Option D}{f:D→Option β}{r:β}{C:Prop}(h:oE a f=some r)(k:∀ x,a=some x→f x=some r→C):C:=by
 cases a with
 | none=>cases h
 | some x=>exact k x rfl h
theorem dJ{β:Type}{a:Option (List D)}{f:List D→Option β}{r:β}{C:Prop}(h:oEs a f=some r)(k:∀ x,a=some x→f x=some r→C):C:=by
 cases a with
 | none=>cases h
 | some x=>exact k x rfl h
theorem pg{β:Type}{a:Option Bool}{f:Bool→Option β}{r:β}{C:Prop}(h:oT a f=some r)(k:∀ x,a=some x→f x=some r→C):C:=by
 cases a with
 | none=>cases h
 | some x=>exact k x rfl h
mutual
noncomputable def ME.names:ME→List String
 | .var x=>[x]
 | .bin _ a b | .cmp _ a b | .sub a b=>a.names++b.names
 | .bop _ es | .tup es | .lst es | .call _ es | .blt _ es=>ff es
 | .not a | .neg a | .isi a _ | .lcp a=>a.names
 | .sset a=>a.names
 | .srt a _ _ p _=>a.names++[p]
 | .dct ks vs=>ff ks++ff vs
 | .sl a lo hi=>a.names++lo.names++hi.names
 | .comp elt x src cs=>src.names++(elt.names++ff cs).filter (· != x)
 | .glob _ | .int _ | .str _ | .bool _ | .none=>[]
noncomputable def ff:List ME→List String
 | []=>[]
 | e::r=>e.names++ff r
end

noncomputable def ME.varOf(e:ME):Option String:=dite (e.ctorIdx=0) (fun h=>ME.var.elim (motive_1:=fun _=>Option String) e h some) fun _=>Option.none
theorem varOf_inv{e:ME}{x:String}{C:ME→Prop}(h:e.varOf=some x)(k:C (.var x)):C e:=by
 unfold ME.varOf at h
 by_cases hc:e.ctorIdx=0
 ·rw[dif_pos hc] at h
  exact ME.var.elim (motive_1:=fun e=>∀ hc,ME.var.elim (motive_1:=fun _=>Option String) e hc some=some x→C e) e hc (fun y _ h=>Option.some.inj h▸k) hc h
 ·rw[dif_neg hc] at h;cases h
noncomputable abbrev St:=List (String×(Bool×D))
noncomputable def vis(σ:St):List (String×D):=σ.map fun p=>(p.1,p.2.2)
noncomputable def aD(σ:St)(x:String)(v:Bool×D):St:=match σ with
 | []=>[(x,v)]
 | (y,w)::r=>if y=x then (y,v)::r else (y,w)::aD r x v
noncomputable def freeze(ns:List String)(σ:St):St:=σ.map fun p=>(p.1,(p.2.1&&!ns.contains p.1,p.2.2))
noncomputable def settle(d:D)(ns:List String)(σ:St):St:=if d.scalar then σ else freeze ns σ

inductive Fl where
 | next
 | ret (fr:Bool) (d:D)

noncomputable def frF(me:ME)(d:D):Bool:=match me with
 | .lst _ | .comp _ _ _ _ | .dct _ _ | .lcp _=>true
 | .sset _=>true
 | .srt _ _ _ _ _=>true
 | .sl _ _ _ | .bin _ _ _=>d.isList
 | .var _ | .glob _ | .int _ | .str _ | .bool _ | .none | .cmp _ _ _ | .bop _ _ | .not _ | .neg _ | .tup _ | .sub _ _ | .call _ _ | .isi _ _ | .blt _ _=>false
noncomputable def j6(me:ME):Option (String×List ME):=match me with
 | .call f args=>some (f,args)
 | _=>Option.none
noncomputable def evF(cf:CF)(ρ:List (String×D))(me:ME):Option (D×Bool):=match j6 me with
 | some (f,args)=>(match bF cf ρ args with
  | some ds=>cf.call f ds
  | Option.none=>Option.none)
 | Option.none=>(evE cf ρ me).map fun d=>(d,frF me d)

section
variable (cf:CF) (ρ:List (String×D))
theorem iQ(f:String)(args:List ME):evF cf ρ (.call f args)=(match bF cf ρ args with | some ds=>cf.call f ds | Option.none=>Option.none):=rfl
end
noncomputable def bU(f:D→St→Option (Fl×St)):List D→St→Option (Fl×St)
 | [],σ=>some (.next,σ)
 | it::r,σ=>match f it σ with
  | some (.next,σ')=>bU f r σ'
  | x=>x
noncomputable def qX(k r:D):List (D×List D)→List (D×List D)
 | []=>[(k,[r])]
 | q::G=>if aQ q.1 k=true then (q.1,q.2++[r])::G else q::qX k r G
noncomputable def jP(cf:CF)(pl:D):List D→List (D×List D)→Option (List (D×List D))
 | [],G=>some G
 | r::rs,G=>match cf.call "cells_at" [r,pl] with
  | some p=>if (p.1.isTK&&!p.2)=true then jP cf pl rs (qX p.1 r G) else Option.none
  | Option.none=>Option.none
noncomputable def rY:Option (Bool×D)→Bool
 | some (true,.dict [] [])=>true
 | _=>false
noncomputable def fO:List String:=["rows","places","sums"]
noncomputable def r8(σ:St)(G:List (D×List D)):St:=aD (σ.filter fun p=>fO.contains p.1) "groups" (false,.dict (G.map (·.1)) (G.map fun q=>.list q.2))
noncomputable def r7(cf:CF)(σ:St):Option St:=match σ.lookup "rows" with
 | some (false,.list rs)=>(match σ.lookup "places" with
  | some (false,pl)=>if rY (σ.lookup "groups") then (jP cf pl rs []).map (r8 σ) else Option.none
  | _=>Option.none)
 | _=>Option.none
mutual
noncomputable def exS(cf:CF)(st:MS)(σ:St):Option (Fl×St):=match st,σ with
 | .assign x e,σ=>match evF cf (vis σ) e with
  | some (d,fr)=>some (.next,aD (settle d e.names σ) x (fr,d))
  | Option.none=>Option.none
 | .append x e,σ=>match evE cf (vis σ) e with
  | some d=>(match (settle d e.names σ).lookup x with
   | some (true,.list ds)=>if ds.length<big then some (.next,aD (settle d e.names σ) x (true,.list (ds++[d]))) else Option.none
   | _=>Option.none)
  | Option.none=>Option.none
 | .setk x k e,σ=>match evE cf (vis σ) e with
  | some d=>(match evE cf (vis σ) k with
   | some dk=>(match (settle dk k.names (settle d e.names σ)).lookup x with
    | some (true,.dict ks vs)=>if cB dk ks&&decide (ks.length<big) then some (.next,aD (settle dk k.names (settle d e.names σ)) x (true,.dict (cw ks vs dk d).1 (cw ks vs dk d).2)) else Option.none
    | _=>Option.none)
   | Option.none=>Option.none)
  | Option.none=>Option.none
 | .ite c t f,σ=>match evE cf (vis σ) c with
  | some d=>(match br d with
   | some true=>bn cf t σ
   | some false=>bn cf f σ
   | Option.none=>Option.none)
  | Option.none=>Option.none
 | .for_ x src body,σ=>match evE cf (vis σ) src with
  | some d=>(match d.items with
   | some its=>bU (fun it σ=>bn cf body (aD σ x (false,it))) its (freeze src.names σ)
   | Option.none=>Option.none)
  | Option.none=>Option.none
 | .ret e,σ=>match e.varOf with
  | some x=>(match σ.lookup x with | some (fr,d)=>some (.ret fr d,σ) | Option.none=>Option.none)
  | Option.none=>(match evF cf (vis σ) e with
   | some (d,fr)=>some (.ret fr d,σ)
   | Option.none=>Option.none)
 | .bad,_=>Option.none
 | .forr x src body,σ=>match evE cf (vis σ) src with
  | some (.tup ds)=>bU (fun it σ=>bn cf body (aD σ x (false,it))) ds.reverse (freeze src.names σ)
  | _=>Option.none
 | .expr e,σ=>match evE cf (vis σ) e with
  | some d=>if d.scalar then some (.next,σ) else Option.none
  | Option.none=>Option.none
 | .grp,σ=>match r7 cf σ with
  | some σ'=>some (.next,σ')
  | Option.none=>Option.none
termination_by structural st
noncomputable def bn(cf:CF)(ss:List MS)(σ:St):Option (Fl×St):=match ss,σ with
 | [],σ=>some (.next,σ)
 | st::r,σ=>match exS cf st σ with
  | some (.next,σ')=>bn cf r σ'
  | x=>x
termination_by structural ss
end

structure Fn where
 params:List String
 body:List MS

noncomputable def am(P:List (String×Fn))(X:CF):Nat→CF
 | 0=>⟨fun _ _=>Option.none,X.glob⟩
 | n+1=>⟨fun f args=>match P.lookup f with
  | Option.none=>X.call f args
  | some fn=>if args.length=fn.params.length then
    (match bn (am P X n) fn.body ((fn.params.zip args).map fun p=>(p.1,(false,p.2))) with
    | some (.ret fr d,_)=>some (d,fr)
    | some (.next,_)=>some (.none,false)
    | _=>Option.none)
   else Option.none,X.glob⟩
set_option autoImplicit true in
theorem eJ(cf:CF)(ρ:List (String×D)):evE cf ρ (ME.var x)=(ρ.lookup x):=rfl
set_option autoImplicit true in
theorem ev_cmp(cf:CF)(ρ:List (String×D)):evE cf ρ (ME.cmp op a b)=(match evE cf ρ a with
   | some x=>(match evE cf ρ b with | some y=>dZ op x y | Option.none=>Option.none)
   | Option.none=>Option.none):=rfl
set_option autoImplicit true in
theorem sd(cf:CF)(ρ:List (String×D)):evE cf ρ (ME.sub a i)=(match evE cf ρ a with
   | some x=>(match evE cf ρ i with | some y=>aT x y | Option.none=>Option.none)
   | Option.none=>Option.none):=rfl
set_option autoImplicit true in
theorem ev_comp(cf:CF)(ρ:List (String×D)):evE cf ρ (ME.comp elt x src cs)=(match evE cf ρ src with
   | some d=>(match d.items with
    | some its=>if its.length≤big then (bk (fun it=>match jQ cf ((x,it)::ρ) cs with
      | some true=>(match evE cf ((x,it)::ρ) elt with | some y=>some (some y) | Option.none=>Option.none)
      | some false=>some Option.none
      | Option.none=>Option.none) its).map .list else Option.none
    | Option.none=>Option.none)
   | Option.none=>Option.none):=rfl
set_option autoImplicit true in
theorem evs_nil(cf:CF)(ρ:List (String×D)):bF cf ρ ([])=(some []):=rfl
set_option autoImplicit true in
theorem ld(cf:CF)(ρ:List (String×D)):bF cf ρ (e::r)=(match evE cf ρ e with
   | some d=>(match bF cf ρ r with | some ds=>some (d::ds) | Option.none=>Option.none)
   | Option.none=>Option.none):=rfl
set_option autoImplicit true in
theorem lR(cf:CF)(σ:St):exS cf (MS.assign x e) σ=(match evF cf (vis σ) e with
   | some (d,fr)=>some (.next,aD (settle d e.names σ) x (fr,d))
   | Option.none=>Option.none):=rfl
set_option autoImplicit true in
theorem xs_append(cf:CF)(σ:St):exS cf (MS.append x e) σ=(match evE cf (vis σ) e with
   | some d=>(match (settle d e.names σ).lookup x with
    | some (true,.list ds)=>if ds.length<big then some (.next,aD (settle d e.names σ) x (true,.list (ds++[d]))) else Option.none
    | _=>Option.none)
   | Option.none=>Option.none):=rfl
set_option autoImplicit true in
theorem xs_setk(cf:CF)(σ:St):exS cf (MS.setk x k e) σ=(match evE cf (vis σ) e with
   | some d=>(match evE cf (vis σ) k with
    | some dk=>(match (settle dk k.names (settle d e.names σ)).lookup x with
     | some (true,.dict ks vs)=>if cB dk ks&&decide (ks.length<big) then some (.next,aD (settle dk k.names (settle d e.names σ)) x (true,.dict (cw ks vs dk d).1 (cw ks vs dk d).2)) else Option.none
     | _=>Option.none)
    | Option.none=>Option.none)
   | Option.none=>Option.none):=rfl
set_option autoImplicit true in
theorem xs_ite(cf:CF)(σ:St):exS cf (MS.ite c t f) σ=(match evE cf (vis σ) c with
   | some d=>(match br d with
    | some true=>bn cf t σ
    | some false=>bn cf f σ
    | Option.none=>Option.none)
   | Option.none=>Option.none):=rfl
set_option autoImplicit true in
theorem xs_for_(cf:CF)(σ:St):exS cf (MS.for_ x src body) σ=(match evE cf (vis σ) src with
   | some d=>(match d.items with
    | some its=>bU (fun it σ=>bn cf body (aD σ x (false,it))) its (freeze src.names σ)
    | Option.none=>Option.none)
   | Option.none=>Option.none):=rfl
set_option autoImplicit true in
theorem oW(cf:CF)(σ:St):exS cf (MS.ret e) σ=(match e.varOf with
   | some x=>(match σ.lookup x with | some (fr,d)=>some (.ret fr d,σ) | Option.none=>Option.none)
   | Option.none=>(match evF cf (vis σ) e with
    | some (d,fr)=>some (.ret fr d,σ)
    | Option.none=>Option.none)):=rfl
theorem pA(cf:CF)(x:String)(src:ME)(body:List MS)(σ:St):exS cf (MS.forr x src body) σ=(match evE cf (vis σ) src with
  | some (.tup ds)=>bU (fun it σ=>bn cf body (aD σ x (false,it))) ds.reverse (freeze src.names σ)
  | _=>Option.none):=rfl
set_option autoImplicit true in
theorem q9(cf:CF)(σ:St):exS cf (MS.grp) σ=(match r7 cf σ with
   | some σ'=>some (.next,σ')
   | Option.none=>Option.none):=rfl
theorem xs_expr(cf:CF)(e:ME)(σ:St):exS cf (MS.expr e) σ=(match evE cf (vis σ) e with
  | some d=>if d.scalar then some (.next,σ) else Option.none
  | Option.none=>Option.none):=rfl
set_option autoImplicit true in
theorem px(cf:CF)(σ:St):bn cf ([]) σ=(some (.next,σ)):=rfl
set_option autoImplicit true in
theorem km(cf:CF)(σ:St):bn cf (st::r) σ=(match exS cf st σ with
   | some (.next,σ')=>bn cf r σ'
   | x=>x):=rfl
theorem rN(a:ME)(f x p:String)(rev:Bool):(ME.srt a f x p rev).names=a.names++[p]:=rfl
theorem ev_srt(cf:CF)(ρ:List (String×D))(a:ME)(f x p:String)(rev:Bool):evE cf ρ (ME.srt a f x p rev)=(match evE cf ρ a with
  | some x=>(match ρ.lookup p with
   | some i=>srtD (eE cf f i) rev x
   | Option.none=>Option.none)
  | Option.none=>Option.none):=rfl
theorem bE(x:String):∀ (σ:St),(vis σ).lookup x=(σ.lookup x).map (·.2)
 | []=>rfl
 | (y,v)::r=>by
  have ih:=bE x r
  unfold vis at ih ⊢
  rw[List.map_cons,List.lookup_cons,List.lookup_cons]
  by_cases h:x=y
  ·subst h;simp
  ·have:(x == y)=false:=by simpa using h
   simp only[this]
   exact ih
theorem aG(x y:String)(v:Bool×D):∀ (σ:St),(aD σ x v).lookup y=if y=x then some v else σ.lookup y
 | []=>by
  unfold aD
  rw[List.lookup_cons]
  by_cases h:y=x
  ·simp[h]
  ·have:(y == x)=false:=by simpa using h
   simp[h,this]
 | (z,u)::r=>by
  unfold aD
  split
  ·rename_i h;subst h
   rw[List.lookup_cons,List.lookup_cons]
   by_cases h:y=z
   ·simp[h]
   ·have:(y == z)=false:=by simpa using h
    simp[h,this]
  ·rename_i hz
   rw[List.lookup_cons,List.lookup_cons,aG x y v r]
   by_cases h:y=x
   ·subst h
    have:(y == z)=false:=by simpa using Ne.symm hz
    simp[this]
   ·simp[h]
theorem aW(ns:List String)(x:String):∀ (σ:St),(freeze ns σ).lookup x=(σ.lookup x).map fun p=>(p.1&&!ns.contains x,p.2)
 | []=>rfl
 | (y,v)::r=>by
  have ih:=aW ns x r
  unfold freeze at ih ⊢
  rw[List.map_cons,List.lookup_cons,List.lookup_cons]
  by_cases h:x=y
  ·subst h;simp
  ·have:(x == y)=false:=by simpa using h
   simp only[this]
   exact ih

end Mine
namespace Mine
open PySem

noncomputable abbrev KD:=Str→Option NameKind
noncomputable def eA(k:KD)(x:Str):Bool:=(k x == some .local||k x == some .cell||k x == some .free)&&x != Str.ofString "__debug__"&&x != Str.ofString "__classdict__"&&x != Str.ofString ".0"
noncomputable def bJ(k:KD)(x:Str):Bool:=k x == some .globalImplicit&&x != Str.ofString "__debug__"
noncomputable def cY(k:KD)(scope:Scope):KD:=fun x=>(scope.names.map fun p=>if p.2 == .free&&k p.1 == some .cell then (p.1,NameKind.cell) else p).lookup x
noncomputable def dC(e:Expr):Bool:=!decide (e.ctorIdx=7)
noncomputable def jf(k:KD):Bool:=k (Str.ofString "keys") == some .local&&k (Str.ofString "sorted") == some .globalImplicit&&k (Str.ofString "place") == some .cell
noncomputable def fe(k:KD)(scope:Scope)(x:Str):Bool:=
 scope.kind == .function&&decide (scope.names.map (·.1)).Nodup&&(scope.names.lookup x == some .local||scope.names.lookup x == some .cell) &&
 scope.names.all (fun p=>p.2 != .free||k p.1 == some .cell||k p.1 == some .free)&&scope.names.all (fun p=>p.2 == .free||p.2 == .globalImplicit||p.1 == x||p.1 == Str.ofString ".0")&&!jf (cY k scope)

noncomputable def nT(k:KD)(ps:Arguments)(sc:Scope)(x p:Str):Bool:=
 (ps.posonlyargs.isEmpty&&ps.kwonlyargs.isEmpty&&ps.vararg.isNone&&ps.kwarg.isNone&&ps.defaults.isEmpty&&ps.kw_defaults.isEmpty)&&(ps.args.map (·.arg) == [x] &&
 sc.kind == .function&&!sc.isCoroutine&&!sc.isGenerator&&sc.names.lookup x == some .local) &&
 (sc.names.all (fun p=>p.2 != .cell&&(p.2 != .free||k p.1 == some .cell||k p.1 == some .free))&&jf k&&!jf (fun y=>sc.names.lookup y)&&sc.names.lookup p == some .free)
noncomputable def ME.isNone(e:ME):Bool:=decide (e.ctorIdx=5)
@[elab_as_elim] theorem isNone_inv{e:ME}{C:ME→Prop}(h:e.isNone=true)(k:C .none):C e:=ME.none.elim (motive_1:=C) e (of_decide_eq_true h) k

noncomputable def kF(e:Expr):Bool:=!decide (e.ctorIdx=26)
theorem bc{c:Prop}[Decidable c]{f:c→Bool}(h:dite c f (fun _=>false)=true):∃ hc,f hc=true:=by
 by_cases hc:c
 ·rw[dif_pos hc] at h;exact⟨hc,h⟩
 ·rw[dif_neg hc] at h;cases h
noncomputable def c1{α:Type}(l:List α)(f:α→Bool):Bool:=match l with | [x]=>f x | _=>false
@[elab_as_elim] theorem dH{α:Type}{l:List α}{f:α→Bool}{C:List α→Prop}(h:c1 l f=true)(k:∀ x,f x=true→C [x]):C l:=by
 cases l with
 | nil=>cases h
 | cons x l=>cases l with
  | nil=>exact k x h
  | cons=>cases h
noncomputable def c2{α:Type}(l:List α)(f:α→α→Bool):Bool:=match l with | x::l=>c1 l (f x) | _=>false
@[elab_as_elim] theorem pt{α:Type}{l:List α}{f:α→α→Bool}{C:List α→Prop}(h:c2 l f=true)(k:∀ x y,f x y=true→C [x,y]):C l:=by
 cases l with
 | nil=>cases h
 | cons x l=>exact dH (C:=fun l=>C (x::l)) h (k x)
@[elab_as_elim] theorem cOpt_inv{α:Type}{l:Option α}{f:α→Bool}{C:Option α→Prop}(h:cOpt l f=true)(k:∀ x,f x=true→C (some x)):C l:=by
 cases l with
 | none=>cases h
 | some x=>exact k x h
theorem bN{a b:Bool}{C:Prop}(h:(a&&b)=true)(k:a=true→b=true→C):C:=k (Bool.and_eq_true_iff.mp h).1 (Bool.and_eq_true_iff.mp h).2
theorem fF{a b c:Bool}{C:Prop}(h:(a&&b&&c)=true)(k:a=true→b=true→c=true→C):C:=bN h fun h hc=>bN h fun ha hb=>k ha hb hc
theorem nl{a b c d:Bool}{C:Prop}(h:(a&&b&&c&&d)=true)(k:a=true→b=true→c=true→d=true→C):C:=bN h fun h hd=>fF h fun ha hb hc=>k ha hb hc hd
theorem lP{a b c d e:Bool}{C:Prop}(h:(a&&b&&c&&d&&e)=true)(k:a=true→b=true→c=true→d=true→e=true→C):C:=bN h fun h he=>nl h fun ha hb hc hd=>k ha hb hc hd he
theorem and6{a b c d e f:Bool}{C:Prop}(h:(a&&b&&c&&d&&e&&f)=true)(k:a=true→b=true→c=true→d=true→e=true→f=true→C):C:=bN h fun h hf=>lP h fun ha hb hc hd he=>k ha hb hc hd he hf
@[elab_as_elim] theorem eqb{α:Type}[BEq α][LawfulBEq α]{a b:α}{C:α→Prop}(h:(a == b)=true)(k:C b):C a:=(eq_of_beq h).symm▸k
@[elab_as_elim] theorem eqb'{α:Type}[BEq α][LawfulBEq α]{a b:α}{C:α→Prop}(h:(a == b)=true)(k:C a):C b:=eq_of_beq h▸k
@[elab_as_elim] theorem jO{α:Type}{l:List α}{C:List α→Prop}(h:l.isEmpty=true)(k:C []):C l:=(List.isEmpty_iff.mp h).symm▸k
theorem d8{k:KD}{x:Str}(h:bJ k x=true):k x=some .globalImplicit∧x≠Str.ofString "__debug__":=bN h fun h1 h2=>⟨eq_of_beq h1,by simpa using h2⟩
noncomputable def cu(e:Expr)(f:Str→Pos→Bool):Bool:=dite (e.ctorIdx=23) (fun h=>Expr.Name.elim (motive_1:=fun _=>Bool) e h f) (fun _=>false)
@[elab_as_elim] theorem bo{e:Expr}{f:Str→Pos→Bool}{C:Expr→Prop}(h:cu e f=true)(k:∀ v0 v1,f v0 v1=true→C (.Name v0 v1)):C e:=
 (bc h).elim fun hc h=>Expr.Name.elim (motive_1:=fun e=>∀ hc,Expr.Name.elim (motive_1:=fun _=>Bool) e hc f=true→C e) e hc (fun v0 v1 _ h=>k v0 v1 h) hc h
noncomputable def iq(e:Expr)(f:Const→Nat→Pos→Bool):Bool:=dite (e.ctorIdx=19) (fun h=>Expr.Constant.elim (motive_1:=fun _=>Bool) e h f) (fun _=>false)
@[elab_as_elim] theorem lC{e:Expr}{f:Const→Nat→Pos→Bool}{C:Expr→Prop}(h:iq e f=true)(k:∀ v0 v1 v2,f v0 v1 v2=true→C (.Constant v0 v1 v2)):C e:=
 (bc h).elim fun hc h=>Expr.Constant.elim (motive_1:=fun e=>∀ hc,Expr.Constant.elim (motive_1:=fun _=>Bool) e hc f=true→C e) e hc (fun v0 v1 v2 _ h=>k v0 v1 v2 h) hc h
noncomputable def cBin(e:Expr)(f:Expr→Operator→Expr→Pos→Bool):Bool:=dite (e.ctorIdx=2) (fun h=>Expr.BinOp.elim (motive_1:=fun _=>Bool) e h f) (fun _=>false)
@[elab_as_elim] theorem cBin_inv{e:Expr}{f:Expr→Operator→Expr→Pos→Bool}{C:Expr→Prop}(h:cBin e f=true)(k:∀ v0 v1 v2 v3,f v0 v1 v2 v3=true→C (.BinOp v0 v1 v2 v3)):C e:=
 (bc h).elim fun hc h=>Expr.BinOp.elim (motive_1:=fun e=>∀ hc,Expr.BinOp.elim (motive_1:=fun _=>Bool) e hc f=true→C e) e hc (fun v0 v1 v2 v3 _ h=>k v0 v1 v2 v3 h) hc h
noncomputable def cBool(e:Expr)(f:BoolOp→List Expr→Pos→Bool):Bool:=dite (e.ctorIdx=0) (fun h=>Expr.BoolOp.elim (motive_1:=fun _=>Bool) e h f) (fun _=>false)
@[elab_as_elim] theorem cBool_inv{e:Expr}{f:BoolOp→List Expr→Pos→Bool}{C:Expr→Prop}(h:cBool e f=true)(k:∀ v0 v1 v2,f v0 v1 v2=true→C (.BoolOp v0 v1 v2)):C e:=
 (bc h).elim fun hc h=>Expr.BoolOp.elim (motive_1:=fun e=>∀ hc,Expr.BoolOp.elim (motive_1:=fun _=>Bool) e hc f=true→C e) e hc (fun v0 v1 v2 _ h=>k v0 v1 v2 h) hc h
noncomputable def cUn(e:Expr)(f:UnaryOp→Expr→Pos→Bool):Bool:=dite (e.ctorIdx=3) (fun h=>Expr.UnaryOp.elim (motive_1:=fun _=>Bool) e h f) (fun _=>false)
@[elab_as_elim] theorem cUn_inv{e:Expr}{f:UnaryOp→Expr→Pos→Bool}{C:Expr→Prop}(h:cUn e f=true)(k:∀ v0 v1 v2,f v0 v1 v2=true→C (.UnaryOp v0 v1 v2)):C e:=
 (bc h).elim fun hc h=>Expr.UnaryOp.elim (motive_1:=fun e=>∀ hc,Expr.UnaryOp.elim (motive_1:=fun _=>Bool) e hc f=true→C e) e hc (fun v0 v1 v2 _ h=>k v0 v1 v2 h) hc h
noncomputable def cTup(e:Expr)(f:List Expr→Nat→Pos→Bool):Bool:=dite (e.ctorIdx=25) (fun h=>Expr.Tuple.elim (motive_1:=fun _=>Bool) e h f) (fun _=>false)
@[elab_as_elim] theorem cTup_inv{e:Expr}{f:List Expr→Nat→Pos→Bool}{C:Expr→Prop}(h:cTup e f=true)(k:∀ v0 v1 v2,f v0 v1 v2=true→C (.Tuple v0 v1 v2)):C e:=
 (bc h).elim fun hc h=>Expr.Tuple.elim (motive_1:=fun e=>∀ hc,Expr.Tuple.elim (motive_1:=fun _=>Bool) e hc f=true→C e) e hc (fun v0 v1 v2 _ h=>k v0 v1 v2 h) hc h
noncomputable def cLst(e:Expr)(f:List Expr→Pos→Bool):Bool:=dite (e.ctorIdx=24) (fun h=>Expr.List.elim (motive_1:=fun _=>Bool) e h f) (fun _=>false)
@[elab_as_elim] theorem cLst_inv{e:Expr}{f:List Expr→Pos→Bool}{C:Expr→Prop}(h:cLst e f=true)(k:∀ v0 v1,f v0 v1=true→C (.List v0 v1)):C e:=
 (bc h).elim fun hc h=>Expr.List.elim (motive_1:=fun e=>∀ hc,Expr.List.elim (motive_1:=fun _=>Bool) e hc f=true→C e) e hc (fun v0 v1 _ h=>k v0 v1 h) hc h
noncomputable def qZ(e:Expr)(f:Expr→Expr→Pos→Bool):Bool:=dite (e.ctorIdx=21) (fun h=>Expr.Subscript.elim (motive_1:=fun _=>Bool) e h f) (fun _=>false)
@[elab_as_elim] theorem iU{e:Expr}{f:Expr→Expr→Pos→Bool}{C:Expr→Prop}(h:qZ e f=true)(k:∀ v0 v1 v2,f v0 v1 v2=true→C (.Subscript v0 v1 v2)):C e:=
 (bc h).elim fun hc h=>Expr.Subscript.elim (motive_1:=fun e=>∀ hc,Expr.Subscript.elim (motive_1:=fun _=>Bool) e hc f=true→C e) e hc (fun v0 v1 v2 _ h=>k v0 v1 v2 h) hc h
noncomputable def sh(e:Expr)(f:Option Expr→Option Expr→Option Expr→Pos→Bool):Bool:=dite (e.ctorIdx=26) (fun h=>Expr.Slice.elim (motive_1:=fun _=>Bool) e h f) (fun _=>false)
@[elab_as_elim] theorem cSlice_inv{e:Expr}{f:Option Expr→Option Expr→Option Expr→Pos→Bool}{C:Expr→Prop}(h:sh e f=true)(k:∀ v0 v1 v2 v3,f v0 v1 v2 v3=true→C (.Slice v0 v1 v2 v3)):C e:=
 (bc h).elim fun hc h=>Expr.Slice.elim (motive_1:=fun e=>∀ hc,Expr.Slice.elim (motive_1:=fun _=>Bool) e hc f=true→C e) e hc (fun v0 v1 v2 v3 _ h=>k v0 v1 v2 v3 h) hc h
noncomputable def cCmp(e:Expr)(f:Expr→List CmpOp→List Expr→Pos→Bool):Bool:=dite (e.ctorIdx=15) (fun h=>Expr.Compare.elim (motive_1:=fun _=>Bool) e h f) (fun _=>false)
@[elab_as_elim] theorem cCmp_inv{e:Expr}{f:Expr→List CmpOp→List Expr→Pos→Bool}{C:Expr→Prop}(h:cCmp e f=true)(k:∀ v0 v1 v2 v3,f v0 v1 v2 v3=true→C (.Compare v0 v1 v2 v3)):C e:=
 (bc h).elim fun hc h=>Expr.Compare.elim (motive_1:=fun e=>∀ hc,Expr.Compare.elim (motive_1:=fun _=>Bool) e hc f=true→C e) e hc (fun v0 v1 v2 v3 _ h=>k v0 v1 v2 v3 h) hc h
noncomputable def eY(e:Expr)(f:Expr→List Expr→List Keyword→Pos→Bool):Bool:=dite (e.ctorIdx=16) (fun h=>Expr.Call.elim (motive_1:=fun _=>Bool) e h f) (fun _=>false)
@[elab_as_elim] theorem dG{e:Expr}{f:Expr→List Expr→List Keyword→Pos→Bool}{C:Expr→Prop}(h:eY e f=true)(k:∀ v0 v1 v2 v3,f v0 v1 v2 v3=true→C (.Call v0 v1 v2 v3)):C e:=
 (bc h).elim fun hc h=>Expr.Call.elim (motive_1:=fun e=>∀ hc,Expr.Call.elim (motive_1:=fun _=>Bool) e hc f=true→C e) e hc (fun v0 v1 v2 v3 _ h=>k v0 v1 v2 v3 h) hc h
noncomputable def cLC(e:Expr)(f:Expr→List Comprehension→Scope→Pos→Bool):Bool:=dite (e.ctorIdx=8) (fun h=>Expr.ListComp.elim (motive_1:=fun _=>Bool) e h f) (fun _=>false)
@[elab_as_elim] theorem cLC_inv{e:Expr}{f:Expr→List Comprehension→Scope→Pos→Bool}{C:Expr→Prop}(h:cLC e f=true)(k:∀ v0 v1 v2 v3,f v0 v1 v2 v3=true→C (.ListComp v0 v1 v2 v3)):C e:=
 (bc h).elim fun hc h=>Expr.ListComp.elim (motive_1:=fun e=>∀ hc,Expr.ListComp.elim (motive_1:=fun _=>Bool) e hc f=true→C e) e hc (fun v0 v1 v2 v3 _ h=>k v0 v1 v2 v3 h) hc h
noncomputable def cDict(e:Expr)(f:List (Option Expr)→List Expr→Pos→Bool):Bool:=dite (e.ctorIdx=6) (fun h=>Expr.Dict.elim (motive_1:=fun _=>Bool) e h f) (fun _=>false)
@[elab_as_elim] theorem cDict_inv{e:Expr}{f:List (Option Expr)→List Expr→Pos→Bool}{C:Expr→Prop}(h:cDict e f=true)(k:∀ v0 v1 v2,f v0 v1 v2=true→C (.Dict v0 v1 v2)):C e:=
 (bc h).elim fun hc h=>Expr.Dict.elim (motive_1:=fun e=>∀ hc,Expr.Dict.elim (motive_1:=fun _=>Bool) e hc f=true→C e) e hc (fun v0 v1 v2 _ h=>k v0 v1 v2 h) hc h
noncomputable def si(e:Expr)(f:Expr→Str→Pos→Bool):Bool:=dite (e.ctorIdx=20) (fun h=>Expr.Attribute.elim (motive_1:=fun _=>Bool) e h f) (fun _=>false)
@[elab_as_elim] theorem mA{e:Expr}{f:Expr→Str→Pos→Bool}{C:Expr→Prop}(h:si e f=true)(k:∀ v0 v1 v2,f v0 v1 v2=true→C (.Attribute v0 v1 v2)):C e:=
 (bc h).elim fun hc h=>Expr.Attribute.elim (motive_1:=fun e=>∀ hc,Expr.Attribute.elim (motive_1:=fun _=>Bool) e hc f=true→C e) e hc (fun v0 v1 v2 _ h=>k v0 v1 v2 h) hc h
noncomputable def cLam(e:Expr)(f:Arguments→Expr→Scope→Pos→Bool):Bool:=dite (e.ctorIdx=4) (fun h=>Expr.Lambda.elim (motive_1:=fun _=>Bool) e h f) (fun _=>false)
@[elab_as_elim] theorem oK{e:Expr}{f:Arguments→Expr→Scope→Pos→Bool}{C:Expr→Prop}(h:cLam e f=true)(k:∀ v0 v1 v2 v3,f v0 v1 v2 v3=true→C (.Lambda v0 v1 v2 v3)):C e:=
 (bc h).elim fun hc h=>Expr.Lambda.elim (motive_1:=fun e=>∀ hc,Expr.Lambda.elim (motive_1:=fun _=>Bool) e hc f=true→C e) e hc (fun v0 v1 v2 v3 _ h=>k v0 v1 v2 v3 h) hc h
noncomputable def lw(k:KD)(b:Expr)(f x p:String):Bool:=eY b fun g as ks _=>ks.isEmpty&&cu g fun g _=>g == Str.ofString f&&bJ k g &&
 (match as with | e::es'=>(qZ e fun v s _=>kF s&&(cu v fun y _=>y == Str.ofString x&&eA k y)&&(cu s fun y _=>y == Str.ofString p&&eA k y))&&es'.isEmpty | []=>false)
noncomputable def chkKw(k:KD)(ks:List Keyword)(f x p:String)(rev:Bool):Bool:=match rev with
 | true=>c2 ks fun k1 k2=>k1.arg == some (Str.ofString "key")&&k2.arg == some (Str.ofString "reverse")&&(iq k2.value fun c _ _=>c == .bool true)&&cLam k1.value fun ps b sc _=>nT k ps sc (Str.ofString x) (Str.ofString p)&&lw (fun y=>sc.names.lookup y) b f x p
 | false=>c1 ks fun k1=>k1.arg == some (Str.ofString "key")&&cLam k1.value fun ps b sc _=>nT k ps sc (Str.ofString x) (Str.ofString p)&&lw (fun y=>sc.names.lookup y) b f x p
mutual
noncomputable def aH(k:KD)(e:Expr)(me:ME):Bool:=match me with
 | .var x=>cu e fun y _=>y == Str.ofString x&&eA k y
 | .glob x=>cu e fun y _=>y == Str.ofString x&&bJ k y
 | .int i=>iq e fun c _ _=>c == .int i
 | .str s=>iq e fun c _ _=>c == .str (Str.ofString s)
 | .bool b=>iq e fun c _ _=>c == .bool b
 | .none=>iq e fun c _ _=>c == .none
 | .bin op a b=>cBin e fun l op' r _=>op == op'&&aH k l a&&aH k r b
 | .cmp op a b=>cCmp e fun l os rs _=>os == [op]&&c1 rs fun r=>dC r&&aH k l a&&aH k r b
 | .bop op es=>cBool e fun op' vs _=>op == op'&&bH k vs es
 | .not a=>cUn e fun o x _=>o == .Not&&aH k x a
 | .neg a=>cUn e fun o x _=>o == .USub&&aH k x a
 | .tup es=>cTup e fun vs _ _=>bH k vs es
 | .lst es=>cLst e fun vs _=>bH k vs es
 | .dct ks vs=>cDict e fun kes ves _=>kes.all Option.isSome&&bH k (kes.filterMap id) ks&&bH k ves vs
 | .sub a i=>qZ e fun v s _=>kF s&&aH k v a&&aH k s i
 | .sl a lo hi=>qZ e fun v s _=>sh s fun l u t _=>t.isNone&&aH k v a&&(match l with | Option.none=>lo.isNone | some x=>aH k x lo)&&(match u with | Option.none=>hi.isNone | some x=>aH k x hi)
 | .comp elt x src cs=>cLC e fun t gs scope _=>c1 gs fun g=>g.is_async == 0&&cu g.target fun y _=>y == Str.ofString x&&dC g.iter&&fe k scope y&&aH k g.iter src&&aH (cY k scope) t elt&&bH (cY k scope) g.ifs cs
 | .call f args=>eY e fun g as ks _=>ks.isEmpty&&cu g fun g _=>g == Str.ofString f&&bJ k g&&bH k as args
 | .isi a T=>eY e fun g as ks _=>ks.isEmpty&&c2 as fun x t=>cu g fun g _=>cu t fun t _=>g == Str.ofString "isinstance"&&bJ k g&&t == Str.ofString T&&bJ k t&&aH k x a
 | .blt f args=>eY e fun g as ks _=>ks.isEmpty&&cu g fun g _=>g == Str.ofString f&&bJ k g&&bH k as args
 | .sset a=>eY e fun g as ks _=>ks.isEmpty&&cu g fun g _=>g == Str.ofString "sorted"&&bJ k g&&c1 as fun x=>eY x fun g as ks _=>ks.isEmpty&&cu g fun g _=>g == Str.ofString "set"&&bJ k g&&c1 as fun x=>aH k x a
 | .lcp a=>eY e fun g as ks _=>ks.isEmpty&&cu g fun g _=>g == Str.ofString "list"&&bJ k g&&c1 as fun x=>aH k x a
 | .srt a f x p rev=>eY e fun g as ks _=>chkKw k ks f x p rev&&cu g fun g _=>g == Str.ofString "sorted"&&bJ k g&&c1 as fun x=>aH k x a
termination_by structural me
noncomputable def bH(k:KD)(es:List Expr)(ms:List ME):Bool:=match ms with
 | []=>es.isEmpty
 | a::r=>(match es with | e::es'=>aH k e a&&bH k es' r | []=>false)
termination_by structural ms
end

section
variable {k:KD} {e:Expr}
inductive oU(k:KD)(x:String):Expr→Prop
 | mk {p} (h:eA k (Str.ofString x)=true):oU k x (.Name (Str.ofString x) p)
theorem fi{x:String}(h:aH k e (.var x)=true):oU k x e:=
 bo h fun y p h=>bN h fun h1=>eqb h1 fun h2=>⟨h2⟩
inductive sz(k:KD)(x:String):Expr→Prop
 | mk {p} (h:bJ k (Str.ofString x)=true):sz k x (.Name (Str.ofString x) p)
theorem oh{x:String}(h:aH k e (.glob x)=true):sz k x e:=
 bo h fun y p h=>bN h fun h1=>eqb h1 fun h2=>⟨h2⟩
inductive eM(c:Const):Expr→Prop
 | mk {n p}:eM c (.Constant c n p)
theorem gE{c:Const}(h:(iq e fun c' _ _=>c' == c)=true):eM c e:=
 lC h fun c n p h=>eqb h ⟨⟩
theorem qi{i:Int}(h:aH k e (.int i)=true):eM (.int i) e:=gE h
theorem p9{i:String}(h:aH k e (.str i)=true):eM (.str (Str.ofString i)) e:=gE h
theorem oi{i:Bool}(h:aH k e (.bool i)=true):eM (.bool i) e:=gE h
theorem og(h:aH k e .none=true):eM .none e:=gE h
inductive IBin(k:KD)(op:Operator)(a b:ME):Expr→Prop
 | mk {l r p} (h1:aH k l a=true) (h2:aH k r b=true):IBin k op a b (.BinOp l op r p)
theorem qo{op:Operator}{a b:ME}(h:aH k e (.bin op a b)=true):IBin k op a b e:=
 cBin_inv h fun l op' r p h=>fF h fun h1 h2 h3=>eqb' h1 ⟨h2,h3⟩
inductive ICmp(k:KD)(op:CmpOp)(a b:ME):Expr→Prop
 | mk {l r p} (hs:dC r=true) (h1:aH k l a=true) (h2:aH k r b=true):ICmp k op a b (.Compare l [op] [r] p)
theorem mY{op:CmpOp}{a b:ME}(h:aH k e (.cmp op a b)=true):ICmp k op a b e:=
 cCmp_inv h fun l os rs p h=>bN h fun h1 h=>eqb h1 (dH h fun r h=>fF h fun h2 h3 h4=>⟨h2,h3,h4⟩)
inductive IBop(k:KD)(op:BoolOp)(es:List ME):Expr→Prop
 | mk {vs p} (h:bH k vs es=true):IBop k op es (.BoolOp op vs p)
theorem mZ{op:BoolOp}{es:List ME}(h:aH k e (.bop op es)=true):IBop k op es e:=
 cBool_inv h fun op' vs p h=>bN h fun h1 h2=>eqb' h1 ⟨h2⟩
inductive IUn(k:KD)(o:UnaryOp)(a:ME):Expr→Prop
 | mk {x p} (h:aH k x a=true):IUn k o a (.UnaryOp o x p)
theorem rZ{o:UnaryOp}{a:ME}(h:(cUn e fun o' x _=>o' == o&&aH k x a)=true):IUn k o a e:=
 cUn_inv h fun o' x p h=>bN h fun h1 h2=>eqb h1 ⟨h2⟩
theorem mX{a:ME}(h:aH k e (.not a)=true):IUn k .Not a e:=rZ h
theorem qd{a:ME}(h:aH k e (.neg a)=true):IUn k .USub a e:=rZ h
inductive ITup(k:KD)(es:List ME):Expr→Prop
 | mk {vs n p} (h:bH k vs es=true):ITup k es (.Tuple vs n p)
theorem p8{es:List ME}(h:aH k e (.tup es)=true):ITup k es e:=
 cTup_inv h fun _ _ _ h=>⟨h⟩
inductive ILst(k:KD)(es:List ME):Expr→Prop
 | mk {vs p} (h:bH k vs es=true):ILst k es (.List vs p)
theorem qe{es:List ME}(h:aH k e (.lst es)=true):ILst k es e:=
 cLst_inv h fun _ _ h=>⟨h⟩
theorem somes:∀ {l:List (Option Expr)},l.all Option.isSome=true→l=(l.filterMap id).map some
 | [],_=>rfl
 | none::l,h=>by simp at h
 | some x::l,h=>by simp at h;simp;exact somes (by simpa using h)
inductive IDct(k:KD)(ks vs:List ME):Expr→Prop
 | mk {kes ves p} (h1:bH k kes ks=true) (h2:bH k ves vs=true):IDct k ks vs (.Dict (kes.map some) ves p)
theorem qj{ks vs:List ME}(h:aH k e (.dct ks vs)=true):IDct k ks vs e:=
 cDict_inv h fun kes ves p h=>fF h fun h1 h2 h3=>(somes h1).symm▸⟨h2,h3⟩
theorem notSlice_inv{s:Expr}(h:kF s=true):∀ a b c p,s=.Slice a b c p→False:=by
 rintro a b c p rfl;cases h
inductive ISub(k:KD)(a i:ME):Expr→Prop
 | mk {v s p} (hn:∀ a b c p,s=.Slice a b c p→False) (h1:aH k v a=true) (h2:aH k s i=true):ISub k a i (.Subscript v s p)
theorem j7{a i:ME}(h:aH k e (.sub a i)=true):ISub k a i e:=
 iU h fun _ _ _ h=>fF h fun h1 h2 h3=>⟨notSlice_inv h1,h2,h3⟩
noncomputable def chkO(k:KD)(l:Option Expr)(lo:ME):Bool:=match l with | Option.none=>lo.isNone | some x=>aH k x lo
inductive ISl(k:KD)(a lo hi:ME):Expr→Prop
 | mk {v l u p pos} (h1:aH k v a=true) (h2:chkO k l lo=true) (h3:chkO k u hi=true):ISl k a lo hi (.Subscript v (.Slice l u Option.none p) pos)
theorem r4{a lo hi:ME}(h:aH k e (.sl a lo hi)=true):ISl k a lo hi e:=
 iU h fun v s p h=>cSlice_inv h fun l u t p h=>nl h fun h1 h2 h3 h4=>(Option.isNone_iff_eq_none.mp h1).symm▸⟨h2,h3,h4⟩
inductive qT(k:KD)(elt:ME)(x:String)(src:ME)(cs:List ME):Expr→Prop
 | mk {t py it ifs scope lp} (hn:dC it=true) (hs:fe k scope (Str.ofString x)=true) (h1:aH k it src=true) (h2:aH (cY k scope) t elt=true) (h3:bH (cY k scope) ifs cs=true) :
  qT k elt x src cs (.ListComp t [⟨.Name (Str.ofString x) py,it,ifs,0⟩] scope lp)
theorem kW{elt src:ME}{x:String}{cs:List ME}(h:aH k e (.comp elt x src cs)=true):qT k elt x src cs e:=
 cLC_inv h fun t gs scope p h=>dH h fun g=>Comprehension.casesOn g fun tg it ifs z h=>bN h fun h1 h=>eqb (a:=z) h1 (bo (e:=tg) h fun y py h=>and6 h fun h2=>eqb h2 fun h3 h4 h5 h6 h7=>⟨h3,h4,h5,h6,h7⟩)
inductive mG(k:KD)(f:String)(args:List ME):Expr→Prop
 | mk {gp as pos} (hg:bJ k (Str.ofString f)=true) (h:bH k as args=true):mG k f args (.Call (.Name (Str.ofString f) gp) as [] pos)
theorem iL{f:String}{args:List ME}(h:aH k e (.call f args)=true):mG k f args e:=
 dG h fun g as ks p h=>bN h fun h1 h=>jO h1 (bo h fun y py h=>fF h fun h2=>eqb h2 fun h3 h4=>⟨h3,h4⟩)
theorem qm{f:String}{args:List ME}(h:aH k e (.blt f args)=true):mG k f args e:=iL h
inductive gt(k:KD)(f:String)(P:Expr→Prop):Expr→Prop
 | mk {gp x pos} (hg:bJ k (Str.ofString f)=true) (h:P x):gt k f P (.Call (.Name (Str.ofString f) gp) [x] [] pos)
theorem jj{f:String}{g:Expr→Bool}{P:Expr→Prop}(hP:∀ x,g x=true→P x)(h:(eY e fun n as ks _=>ks.isEmpty&&cu n fun n _=>n == Str.ofString f&&bJ k n&&c1 as g)=true):gt k f P e:=
 dG h fun n as ks p h=>bN h fun h1 h=>jO h1 (bo h fun y py h=>fF h fun h2=>eqb h2 fun h3 h4=>dH h4 fun x h4=>⟨h3,hP _ h4⟩)
theorem qf{a:ME}(h:aH k e (.lcp a)=true):gt k "list" (fun x=>aH k x a=true) e:=jj (fun _ h=>h) h
theorem od{a:ME}(h:aH k e (.sset a)=true):gt k "sorted" (gt k "set" fun x=>aH k x a=true) e:=jj (fun _ h=>jj (fun _ h=>h) h) h
theorem oH{k:KD}{b:Expr}{f x p:String}(h:lw k b f x p=true):aH k b (.call f [.sub (.var x) (.var p)])=true:=h
inductive IKw(k:KD)(f x p:String):Bool→List Keyword→Prop
 | up {ps b sc lp kp} (h1:nT k ps sc (Str.ofString x) (Str.ofString p)=true) (h2:lw (fun y=>sc.names.lookup y) b f x p=true):IKw k f x p false [⟨some (Str.ofString "key"),.Lambda ps b sc lp,kp⟩]
 | down {ps b sc lp kp n cp kp2} (h1:nT k ps sc (Str.ofString x) (Str.ofString p)=true) (h2:lw (fun y=>sc.names.lookup y) b f x p=true):IKw k f x p true [⟨some (Str.ofString "key"),.Lambda ps b sc lp,kp⟩,⟨some (Str.ofString "reverse"),.Constant (.bool true) n cp,kp2⟩]
theorem inv_kw{ks:List Keyword}{f x p:String}{rev:Bool}(h:chkKw k ks f x p rev=true):IKw k f x p rev ks:=by
 cases rev with
 | true=>exact pt h fun k1 k2=>Keyword.casesOn k1 fun a1 v1 p1=>Keyword.casesOn k2 fun a2 v2 p2 h=>nl h fun h1 h2 h3 h4=>eqb (a:=a1) h1 (eqb (a:=a2) h2 (lC (e:=v2) h3 fun c n cp h3=>eqb (a:=c) h3 (oK (e:=v1) h4 fun ps b sc lp h4=>bN h4 fun h4 h5=>.down h4 h5)))
 | false=>exact dH h fun k1=>Keyword.casesOn k1 fun a1 v1 p1 h=>bN h fun h1 h=>eqb (a:=a1) h1 (oK (e:=v1) h fun ps b sc lp h4=>bN h4 fun h4 h5=>.up h4 h5)
inductive ISrt(k:KD)(a:ME)(f x p:String)(rev:Bool):Expr→Prop
 | mk {gp y ks pos} (hg:bJ k (Str.ofString "sorted")=true) (h:aH k y a=true) (hk:IKw k f x p rev ks):ISrt k a f x p rev (.Call (.Name (Str.ofString "sorted") gp) [y] ks pos)
theorem qc{a:ME}{f x p:String}{rev:Bool}(h:aH k e (.srt a f x p rev)=true):ISrt k a f x p rev e:=
 dG h fun g as ks p h=>bN h fun h1 h=>bo (e:=g) h fun y py h=>fF h fun h2=>eqb h2 fun h3 h4=>dH h4 fun x h4=>⟨h3,h4,inv_kw h1⟩
inductive IIsi(k:KD)(a:ME)(T:String):Expr→Prop
 | mk {gp x tp pos} (hg:bJ k (Str.ofString "isinstance")=true) (ht:bJ k (Str.ofString T)=true) (h:aH k x a=true):IIsi k a T (.Call (.Name (Str.ofString "isinstance") gp) [x,.Name (Str.ofString T) tp] [] pos)
theorem qh{a:ME}{T:String}(h:aH k e (.isi a T)=true):IIsi k a T e:=
 dG h fun g as ks p h=>bN h fun h1 h=>jO h1 (pt h fun x t h=>bo (e:=g) h fun y py h=>bo (e:=t) h fun z pz h=>lP h fun h2=>eqb h2 fun h3 h4=>eqb h4 fun h5 h6=>⟨h3,h5,h6⟩)
end
end Mine
namespace Mine
open PySem
noncomputable def fin(r:Option (Fl×St)):Option (D×Bool):=match r with
 | some (.ret fr d,_)=>some (d,fr)
 | some (.next,_)=>some (.none,false)
 | _=>none
theorem qK{P:List (String×Fn)}{X:CF}{f:String}{fn:Fn}(n:Nat)(args:List D)(h:P.lookup f=some fn)(hl:args.length=fn.params.length) :
  (am P X (n+1)).call f args=fin (bn (am P X n) fn.body ((fn.params.zip args).map fun p=>(p.1,(false,p.2)))):=by
 simp only[am,h,hl,if_true,fin]
 all_goals (split <;> rename_i q <;> simp[q])
theorem m4(P:List (String×Fn))(X:CF)(n:Nat)(x:String):(am P X n).glob x=X.glob x:=by cases n <;> rfl

noncomputable def iA(r:Option (Fl×St))(k:St→Option (Fl×St)):Option (Fl×St):=match r with
 | some (.next,σ)=>k σ
 | x=>x
theorem thenS_next(σ:St)(k):iA (some (.next,σ)) k=k σ:=rfl
theorem x_nil(cf:CF)(σ:St):bn cf [] σ=some (.next,σ):=by simp[px,km]
theorem gV(cf:CF)(s:MS)(r:List MS)(σ:St):bn cf (s::r) σ=iA (exS cf s σ) (bn cf r):=by
 simp only[px,km,iA]
 all_goals (split <;> rename_i q <;> simp_all)
theorem x_app(cf:CF)(a b:List MS)(σ:St):bn cf (a++b) σ=iA (bn cf a σ) (bn cf b):=by
 induction a generalizing σ with
 | nil=>simp[x_nil,iA]
 | cons s a ih=>
  rw[List.cons_append,gV,gV]
  generalize exS cf s σ=z
  unfold iA
  cases z with
  | none=>rfl
  | some p=>
   obtain⟨fl,σ'⟩:=p
   cases fl <;> simp[ih,iA]
theorem rf{cf:CF}{s:MS}{r:List MS}{σ σ':St}(h:exS cf s σ=some (.next,σ')):bn cf (s::r) σ=bn cf r σ':=by rw[gV,h];rfl
theorem pB{cf:CF}{s:MS}{r:List MS}{σ σ':St}{fr:Bool}{d:D}(h:exS cf s σ=some (.ret fr d,σ')):bn cf (s::r) σ=some (.ret fr d,σ'):=by rw[gV,h];rfl
theorem re{cf:CF}{c:ME}{t f r:List MS}{σ:St}{d:D}{k:Bool}(h:evE cf (vis σ) c=some d)(ht:br d=some k):bn cf (.ite c t f::r) σ=if k=true then bn cf (t++r) σ else bn cf (f++r) σ:=by
 rw[gV,xs_ite,h];dsimp only;rw[ht,x_app,x_app]
 cases k <;> rfl
noncomputable def cH(cf:CF)(body:List MS)(x:String):D→St→Option (Fl×St):=fun it σ=>bn cf body (aD σ x (false,it))
noncomputable def loopS(r:Option (Fl×St))(k:St→Option (Fl×St)):Option (Fl×St):=match r with
 | some (.next,σ)=>k σ
 | x=>x
theorem bK(cf:CF)(body:List MS)(x:String)(it:D)(r:List D)(σ:St):bU (cH cf body x) (it::r) σ=loopS (bn cf body (aD σ x (false,it))) (bU (cH cf body x) r):=by
 show (match bn cf body (aD σ x (false,it)) with
  | some (.next,σ')=>bU (cH cf body x) r σ'
  | x=>x)=_
 generalize bn cf body (aD σ x (false,it))=z
 unfold loopS
 split <;> rfl
theorem rg{cf:CF}{x:String}{src:ME}{body:List MS}{r:List MS}{σ:St}{d:D}{its:List D}(h:evE cf (vis σ) src=some d)(hi:d.items=some its):bn cf (.for_ x src body::r) σ=iA (bU (cH cf body x) its (freeze src.names σ)) (bn cf r):=by
 rw[gV,xs_for_,h];dsimp only;rw[hi];rfl
theorem x_forr(cf:CF)(x:String)(src:ME)(body:List MS)(r:List MS)(σ:St){ds:List D}(h:evE cf (vis σ) src=some (.tup ds)):bn cf (.forr x src body::r) σ=iA (bU (cH cf body x) ds.reverse (freeze src.names σ)) (bn cf r):=by
 rw[gV,pA,h];rfl
theorem x_rv{cf:CF}{e:ME}{σ:St}{d:D}{fr:Bool}(hv:e.varOf=none)(h:evF cf (vis σ) e=some (d,fr)):exS cf (.ret e) σ=some (.ret fr d,σ):=by
 rw[oW,hv];dsimp only;rw[h]
theorem x_rx{cf:CF}{z:String}{σ:St}{d:D}{fr:Bool}(h:σ.lookup z=some (fr,d)):exS cf (.ret (.var z)) σ=some (.ret fr d,σ):=by
 rw[oW];show (match σ.lookup z with | some (fr,d)=>some (Fl.ret fr d,σ) | none=>none)=_;rw[h]
end Mine
namespace Mine
open PySem
section
variable (cf:CF) (ρ:List (String×D))
theorem se(x:String):evE cf ρ (.var x)=ρ.lookup x:=rfl
theorem nh(x:String):evE cf ρ (.glob x)=cf.glob x:=rfl
theorem af(i:Int):evE cf ρ (.int i)=some (.int i):=rfl
theorem aE(i:String):evE cf ρ (.str i)=some (.str (Str.ofString i)):=rfl
theorem lh(i:Bool):evE cf ρ (.bool i)=some (.bool i):=rfl
theorem jq:evE cf ρ .none=some .none:=rfl
noncomputable def o2(f:D→D→Option D)(a b:Option D):Option D:=match a with
 | some x=>(match b with | some y=>f x y | none=>none)
 | none=>none
theorem e_bin(op:Operator)(a b:ME):evE cf ρ (.bin op a b)=o2 (du op) (evE cf ρ a) (evE cf ρ b):=rfl
theorem e_cmp(op:CmpOp)(a b:ME):evE cf ρ (.cmp op a b)=o2 (dZ op) (evE cf ρ a) (evE cf ρ b):=rfl
theorem e_sub(a b:ME):evE cf ρ (.sub a b)=o2 aT (evE cf ρ a) (evE cf ρ b):=rfl
theorem e_bop(op:BoolOp)(es:List ME):evE cf ρ (.bop op es)=eC cf ρ op es:=rfl
noncomputable def o1(f:D→Option D)(a:Option D):Option D:=match a with
 | some x=>f x
 | none=>none
theorem e_not(a:ME):evE cf ρ (.not a)=o1 (fun x=>(br x).map fun t=>.bool (!t)) (evE cf ρ a):=rfl
noncomputable def oL(f:List D→Option D)(a:Option (List D)):Option D:=match a with
 | some x=>f x
 | none=>none
theorem e_tup(es:List ME):evE cf ρ (.tup es)=oL (fun ds=>if ds.length≤big then some (.tup ds) else none) (bF cf ρ es):=rfl
theorem e_lst(es:List ME):evE cf ρ (.lst es)=oL (fun ds=>if ds.length≤big then some (.list ds) else none) (bF cf ρ es):=rfl
theorem e_blt(f:String)(es:List ME):evE cf ρ (.blt f es)=oL (eZ f) (bF cf ρ es):=rfl
theorem e_call(f:String)(es:List ME):evE cf ρ (.call f es)=oL (fun ds=>(cf.call f ds).map (·.1)) (bF cf ρ es):=rfl
theorem e_sset(a:ME):evE cf ρ (.sset a)=o1 ku (evE cf ρ a):=rfl
theorem e_lcp(a:ME):evE cf ρ (.lcp a)=o1 (fun x=>(n0 x).map .list) (evE cf ρ a):=rfl
theorem e_isi(a:ME)(T:String):evE cf ρ (.isi a T)=o1 (fun x=>(kT x T).map .bool) (evE cf ρ a):=rfl
theorem e_sl(a l h:ME):evE cf ρ (.sl a l h)=o1 (fun x=>o2 (slD x) (evE cf ρ l) (evE cf ρ h)) (evE cf ρ a):=rfl
noncomputable def jL(elt:ME)(x:String)(cs:List ME):D→Option (Option D):=fun it=>match jQ cf ((x,it)::ρ) cs with
 | some true=>(match evE cf ((x,it)::ρ) elt with | some y=>some (some y) | none=>none)
 | some false=>some none
 | none=>none
theorem e_comp(elt:ME)(x:String)(src:ME)(cs:List ME):evE cf ρ (.comp elt x src cs)=o1 (fun d=>(match d.items with
   | some its=>if its.length≤big then (bk (jL cf ρ elt x cs) its).map .list else none
   | none=>none)) (evE cf ρ src):=rfl
theorem ai:bF cf ρ []=some []:=rfl
noncomputable def oC(a:Option D)(b:Option (List D)):Option (List D):=match a with
 | some d=>(match b with | some ds=>some (d::ds) | none=>none)
 | none=>none
theorem es_cons(e:ME)(r:List ME):bF cf ρ (e::r)=oC (evE cf ρ e) (bF cf ρ r):=rfl
noncomputable def oB(s:Bool)(r:Option D)(a:Option D):Option D:=match a with
 | some d=>(match br d with
  | some t=>if t=s then some d else r
  | none=>none)
 | none=>none
theorem pQ(s:Bool)(r:Option D)(t:Bool):oB s r (some (.bool t))=if t=s then some (.bool s) else r:=by
 unfold oB br
 by_cases h:t=s
 ·subst h;rfl
 ·simp[h]
theorem b_and(e e2:ME)(r:List ME):eC cf ρ .And (e::e2::r)=oB false (eC cf ρ .And (e2::r)) (evE cf ρ e):=rfl
theorem b_or(e e2:ME)(r:List ME):eC cf ρ .Or (e::e2::r)=oB true (eC cf ρ .Or (e2::r)) (evE cf ρ e):=rfl
theorem c_nil:jQ cf ρ []=some true:=rfl
end
theorem oF(f:D→Option (Option D))(Q:D→D→Prop):∀ (its:List D),(∀ it∈its,∃ d,Q it d∧f it=some (some d))→∃ ds,bk f its=some ds∧ds.length=its.length∧∀ d∈ds,∃ it∈its,Q it d
 | [],_=>⟨[],rfl,rfl,fun _ h=>nomatch h⟩
 | it::r,h=>by
  obtain⟨d,q,e⟩:=h it (by simp)
  obtain⟨ds,e2,hl,hq⟩:=oF f Q r fun i hi=>h i (by simp[hi])
  refine⟨d::ds,by simp[bk,e,e2],by simp[hl],?_⟩
  intro d' hd
  rcases List.mem_cons.mp hd with rfl | hd
  ·exact⟨it,by simp,q⟩
  ·obtain⟨i,hi,q'⟩:=hq d' hd
   exact⟨i,by simp[hi],q'⟩
theorem gG{cf:CF}{ρ:List (String×D)}{elt:ME}{x:String}{it d:D}(h:evE cf ((x,it)::ρ) elt=some d):jL cf ρ elt x [] it=some (some d):=by
 unfold jL;simp[c_nil,h]
theorem d7(n:Nat):D.items (.rng 0 n)=some ((List.range n).map fun (i:Nat)=>D.int (i:Int)):=by
 simp[D.items]
end Mine
namespace Mine
open PySem

noncomputable def Ex(h:Heap)(H:Addr→Prop):Prop:=∀ a,H a→∃ b o,@LE.le Nat _ a b∧gat h b=some o
theorem Ex.fresh{h:Heap}{H:Addr→Prop}(x:Ex h H):¬ H h.objs.size:=fun e=>by
 obtain⟨b,o,hb,ho⟩:=x _ e
 exact Nat.lt_irrefl _ (Nat.lt_of_le_of_lt hb (Heap.gt_lt ho))
theorem Ex.keeps{h h':Heap}{H:Addr→Prop}(x:Ex h H)(hk:KH h h'):Ex h' H:=fun a e=>by
 obtain⟨b,o,hb,ho⟩:=x _ e
 exact⟨b,o,hb,hk _ _ ho⟩

inductive bj(s:Shared):Shared→Prop
 | mk (h tk dr) (k:KH s.heap h):bj s { s with heap:=h,toks:=tk,drawn:=dr }
theorem Kp.refl(s:Shared):bj s s:=.mk s.heap s.toks s.drawn fun _ _ e=>e
theorem Kp.tok(s:Shared)(t:Nat):bj s { s with toks:=t }:=.mk s.heap t s.drawn fun _ _ e=>e
theorem Kp.push(s:Shared)(o:Obj):bj s { s with heap:=s.heap.push o }:=.mk _ s.toks s.drawn fun _ _ e=>Heap.gt_push_of_some _ e
theorem Kp.trans{s s' s'':Shared}(a:bj s s')(b:bj s' s''):bj s s'':=bj.rec (motive:=fun s' _=>∀ s'',bj s' s''→bj s s'') (fun _ _ _ k _ b=>b.rec fun h t d k'=>.mk h t d fun x o e=>k' x o (k x o e)) a s'' b
theorem Kp.heap{s s':Shared}(a:bj s s'):KH s.heap s'.heap:=a.rec fun _ _ _ k=>k

inductive aZ(w:World)(s:Shared)(H:Addr→Prop)(d:D)(v:Value)(s':Shared):Prop
 | mk (k:bj s s') (r:Rep w.params s'.heap H v d)
theorem aZ.k{w:World}{s:Shared}{H:Addr→Prop}{d:D}{v:Value}{s':Shared}(q:aZ w s H d v s'):bj s s':=q.rec fun k _=>k
theorem aZ.r{w:World}{s:Shared}{H:Addr→Prop}{d:D}{v:Value}{s':Shared}(q:aZ w s H d v s'):Rep w.params s'.heap H v d:=q.rec fun _ r=>r
theorem aZ.tr{w:World}{s s₁ s₂:Shared}{H:Addr→Prop}{d:D}{v:Value}(k:bj s s₁)(q:aZ w s₁ H d v s₂):aZ w s H d v s₂:=⟨Kp.trans k q.k,q.r⟩
inductive dh(s:Shared)(t b:Bool)(s':Shared):Prop
 | mk (k:bj s s') (e:b=t)
theorem dh.k{s:Shared}{t b:Bool}{s':Shared}(q:dh s t b s'):bj s s':=q.rec fun k _=>k
theorem dh.e{s:Shared}{t b:Bool}{s':Shared}(q:dh s t b s'):b=t:=q.rec fun _ e=>e
theorem dh.tr{s s₁:Shared}{t b:Bool}{s':Shared}(k:bj s s₁)(q:dh s₁ t b s'):dh s t b s':=⟨Kp.trans k q.k,q.e⟩

inductive fq(P:Params)(h:Heap)(H:Addr→Prop)(a:Addr)(ds:List D):Prop
 | mk {vs n} (ho:h.get? a=some (eG vs n)) (hl:ds.length≤big) (hr:aq P h (fun b=>H b∨b=a) vs.toList ds)
inductive jT(P:Params)(h:Heap)(H:Addr→Prop)(a:Addr)(ks vs:List D):Prop
 | mk {es n} (ho:h.get? a=some (jR es n)) (hl:ks.length≤big) (h1:aq P h (fun b=>H b∨b=a) (es.toList.map (·.key)) ks) (h2:aq P h (fun b=>H b∨b=a) (es.toList.map (·.val)) vs) (hh:es.toList.map (·.hash)=ks.map (eS P)) (hk:ks.all D.isKey=true) (hd:ks.Nodup) (hs:(a == sysModules)=false)
noncomputable def cx(P:Params)(h:Heap)(H:Addr→Prop)(a:Addr)(d:D):Prop:=match d with
 | .list ds=>fq P h H a ds
 | .dict ks vs=>jT P h H a ks vs
 | _=>False
section
variable {P:Params} {h h':Heap} {H H':Addr→Prop} {a:Addr} {d:D} {ds ks vs:List D}
@[elab_as_elim] theorem cx.cases{C:D→Prop}(o:cx P h H a d)(hl:∀ ds,fq P h H a ds→C (.list ds))(hm:∀ ks vs,jT P h H a ks vs→C (.dict ks vs)):C d:=
 D.casesOn (motive_1:=fun d=>cx P h H a d→C d) d (fun o=>o.elim) (fun _ o=>o.elim) (fun _ o=>o.elim) (fun _ o=>o.elim) (fun _ o=>o.elim) hl hm (fun _ _ o=>o.elim)
  (fun _ o=>o.elim)
  o
theorem fq.rep(o:fq P h H a ds)(hn:¬ H a):Rep P h H (.ref a) (.list ds):=o.rec fun ho hl hr=>.mk ho hn hl (hr.mono (fun _ _ _ e=>e) fun _ _ _ q=>.inl q)
theorem jT.rep(o:jT P h H a ks vs)(hn:¬ H a):Rep P h H (.ref a) (.dict ks vs):=o.rec fun ho hl h1 h2 hh hk hd hs=>.mk ho hn hl (h1.mono (fun _ _ _ e=>e) fun _ _ _ q=>.inl q) (h2.mono (fun _ _ _ e=>e) fun _ _ _ q=>.inl q) hh hk hd hs
theorem cx.rep(o:cx P h H a d)(hn:¬ H a):Rep P h H (.ref a) d:=o.cases (fun _ o=>o.rep hn) fun _ _ o=>o.rep hn
theorem cx.off{h':Heap}{H':Addr→Prop}(o:cx P h H a d):Rep P h' H' (.ref a) d→¬ H' a:=o.cases (C:=fun d=>Rep P h' H' (.ref a) d→¬ H' a) (fun _ _ r=>iX.off (mkO:=eG) r rfl) fun _ _ _ r=>lQ.rec (motive:=fun v _=>v=.ref a→¬ H' a) (fun _ hn _ _ _ _ _ _ _ e=>pK hn e) r rfl
theorem cx.obj(o:cx P h H a d):∃ o,h.get? a=some o∧a8 o=false:=o.cases (C:=fun _=>∃ o,h.get? a=some o∧a8 o=false) (fun _ o=>o.rec fun ho _ _=>⟨_,ho,rfl⟩) fun _ _ o=>o.rec fun ho _ _ _ _ _ _ _=>⟨_,ho,rfl⟩
theorem cx.ex(o:cx P h H a d):∃ o,gat h a=some o:=o.obj.elim fun o q=>⟨o,Heap.gt_of q.1 q.2⟩
theorem cx.notTab(o:cx P h H a d):∀ o,h.get? a=some o→a8 o=false:=o.obj.elim fun _ q=>bz q.1 q.2
theorem cx.scalar(o:cx P h H a d):d.scalar=false:=o.cases (fun _ _=>rfl) fun _ _ _=>rfl
noncomputable abbrev qS(h:Heap)(H H':Addr→Prop)(a:Addr):Prop:=∀ b o,gat h b=some o→H' b→H b∨b=a
theorem mN(hk:jV h H h')(hH:qS h H H' a){l:List Value}(r:aq P h (fun b=>H b∨b=a) l ds):aq P h' (fun b=>H' b∨b=a) l ds:=r.mono (fun b o hn e=>hk b o (fun q=>hn (.inl q)) e) fun b o e q=>q.elim (hH b o e) .inr
theorem fq.mono(o:fq P h H a ds)(ha:∀ o,gat h a=some o→gat h' a=some o)(hk:jV h H h')(hH:qS h H H' a):fq P h' H' a ds:=o.rec fun ho hl hr=>⟨Heap.of_gt (ha _ (Heap.gt_of ho)),hl,mN hk hH hr⟩
theorem jT.mono(o:jT P h H a ks vs)(ha:∀ o,gat h a=some o→gat h' a=some o)(hk:jV h H h')(hH:qS h H H' a):jT P h' H' a ks vs:=o.rec fun ho hl h1 h2 hh hK hd hs=>⟨Heap.of_gt (ha _ (Heap.gt_of ho)),hl,mN hk hH h1,mN hk hH h2,hh,hK,hd,hs⟩
theorem cx.mono(o:cx P h H a d)(ha:∀ o,gat h a=some o→gat h' a=some o)(hk:jV h H h')(hH:qS h H H' a):cx P h' H' a d:=o.cases (fun _ o=>o.mono ha hk hH) fun _ _ o=>o.mono ha hk hH
theorem cx.sub(o:cx P h H a d)(hH:∀ b,H' b→H b):cx P h H' a d:=o.mono (fun _ e=>e) (fun _ _ _ e=>e) fun b _ _ q=>.inl (hH b q)
end
theorem bD{α:Type}{o:Option α}{x:α}{C:Prop}(h:o=some x)(h':o=none):C:=by cases h.symm.trans h'
theorem pR{h h':Heap}{a:Addr}(hx:∀ o,gat h a=some o→∃ o',gat h' a=some o')(e:gat h' a=none):gat h a=none:=by
 cases q:gat h a with
 | none=>rfl
 | some o=>exact (hx o q).elim fun o' e'=>bD e' e
theorem iF{h h':Heap}{a:Addr}(hk:KH h h')(e:gat h' a=none):gat h a=none:=pR (fun o q=>⟨o,hk a o q⟩) e
inductive Fr(P:Params)(h0 h:Heap)(H:Addr→Prop)(d:D):Value→Prop
 | mk {a} (e:gat h0 a=none) (o:cx P h H a d):Fr P h0 h H d (.ref a)
theorem Fr.old{P:Params}{h0 h0' h:Heap}{H:Addr→Prop}{d:D}{v:Value}(f:Fr P h0 h H d v)(hk:KH h0' h0):Fr P h0' h H d v:=f.rec fun e o=>⟨iF hk e,o⟩
theorem Fr.sub{P:Params}{h0 h:Heap}{H H':Addr→Prop}{d:D}{v:Value}(f:Fr P h0 h H d v)(hH:∀ b,H' b→H b):Fr P h0 h H' d v:=f.rec fun e o=>⟨e,o.sub hH⟩
inductive bI(w:World)(s:Shared)(H:Addr→Prop)(d:D)(fr:Bool)(v:Value)(s':Shared):Prop
 | mk (k:bj s s') (r:Rep w.params s'.heap H v d) (f:fr=true→Fr w.params s.heap s'.heap H d v)
theorem bI.post{w:World}{s s':Shared}{H:Addr→Prop}{d:D}{fr:Bool}{v:Value}(q:bI w s H d fr v s'):aZ w s H d v s':=q.rec fun k r _=>⟨k,r⟩
theorem bI.tr{w:World}{s s₁ s₂:Shared}{H:Addr→Prop}{d:D}{fr:Bool}{v:Value}(k:bj s s₁)(q:bI w s₁ H d fr v s₂):bI w s H d fr v s₂:=q.rec fun k' r f=>⟨Kp.trans k k',r,fun e=>(f e).old (Kp.heap k)⟩
theorem aZ.pf{w:World}{s s₂:Shared}{H:Addr→Prop}{d:D}{fr:Bool}{v:Value}(q:aZ w s H d v s₂)(h:fr=false):bI w s H d fr v s₂:=⟨q.k,q.r,fun e=>nomatch h.symm.trans e⟩
theorem b9(h:Heap):gat h h.objs.size=none:=Heap.gt_none_of_le (Nat.le_refl _)
theorem not_size{h:Heap}{a:Addr}{o:Obj}{C:Prop}(e:gat h a=some o)(q:a=h.objs.size):C:=bD e (q▸b9 h)
theorem gB{w:World}{s:Shared}{H:Addr→Prop}{vs:Array Value}{ds:List D}{h':Heap}{n tk:Nat}{dr:Drawn}(hH:Ex s.heap H)(hl:ds.length≤big)(hr:aq w.params s.heap H vs.toList ds)(hk:KH s.heap h')
  (ho:h'.get? s.heap.objs.size=some (eG vs n)):bI w s H (.list ds) true (.ref s.heap.objs.size) { s with heap:=h',toks:=tk,drawn:=dr }:=
 have own:fq w.params h' H s.heap.objs.size ds:=⟨ho,hl,hr.mono (fun a o _ e=>hk a o e) fun a o e q=>q.elim id (not_size e)⟩
 ⟨.mk h' tk dr hk,own.rep hH.fresh,fun _=>⟨b9 _,own⟩⟩
theorem ak{C:Prop}{α:Type}{x:α}(h:Option.none=some x):C:=by cases h
theorem aV{α:Type}{c:Prop}[Decidable c]{x d:α}{C:Prop}(h:(if c then some x else none)=some d)(k:c→x=d→C):C:=by
 by_cases hc:c
 ·rw[if_pos hc] at h;exact k hc (Option.some.inj h)
 ·rw[if_neg hc] at h;exact ak h
theorem bQ{α:Type}{c:Prop}[Decidable c]{x:Option α}{d:α}{C:Prop}(h:(if c then x else none)=some d)(k:c→x=some d→C):C:=by
 by_cases hc:c
 ·rw[if_pos hc] at h;exact k hc h
 ·rw[if_neg hc] at h;exact ak h
theorem b0{α:Type}{c:Prop}[Decidable c]{x y:Option α}{d:α}{C:Prop}(h:(if c then x else y)=some d)(k:c→x=some d→C)(k':¬ c→y=some d→C):C:=by
 by_cases hc:c
 ·rw[if_pos hc] at h;exact k hc h
 ·rw[if_neg hc] at h;exact k' hc h
theorem fM{α β:Type}{o:Option α}{f:α→Option β}{b:β}{C:Prop}(h:o.bind f=some b)(k:∀ a,o=some a→f a=some b→C):C:=by
 cases o with
 | none=>exact ak h
 | some a=>exact k a rfl h
theorem bh{α β:Type}{o:Option α}{f:α→β}{b:β}{C:Prop}(h:o.map f=some b)(k:∀ a,o=some a→f a=b→C):C:=by
 cases o with
 | none=>exact ak h
 | some a=>exact k a rfl (Option.some.inj h)
section
variable {α:Type} {r:α} {d:D} {C:D→Prop}
@[elab_as_elim] theorem cL{f:Int→Option α}(h:onI d f=some r)(k:∀ i,f i=some r→C (.int i)):C d:=
 D.casesOn (motive_1:=fun d=>onI d f=some r→C d) d (fun h=>ak h) (fun _ h=>ak h) k (fun _ h=>ak h) (fun _ h=>ak h) (fun _ h=>ak h) (fun _ _ h=>ak h) (fun _ _ h=>ak h)
  (fun _ h=>ak h)
  h
@[elab_as_elim] theorem mQ{f:Str→Option α}(h:onS d f=some r)(k:∀ i,f i=some r→C (.str i)):C d:=
 D.casesOn (motive_1:=fun d=>onS d f=some r→C d) d (fun h=>ak h) (fun _ h=>ak h) (fun _ h=>ak h) k (fun _ h=>ak h) (fun _ h=>ak h) (fun _ _ h=>ak h) (fun _ _ h=>ak h)
  (fun _ h=>ak h)
  h
@[elab_as_elim] theorem onB_inv{f:Bool→Option α}(h:onB d f=some r)(k:∀ i,f i=some r→C (.bool i)):C d:=
 D.casesOn (motive_1:=fun d=>onB d f=some r→C d) d (fun h=>ak h) k (fun _ h=>ak h) (fun _ h=>ak h) (fun _ h=>ak h) (fun _ h=>ak h) (fun _ _ h=>ak h) (fun _ _ h=>ak h)
  (fun _ h=>ak h)
  h
@[elab_as_elim] theorem mP{f:List D→Option α}(h:onT d f=some r)(k:∀ i,f i=some r→C (.tup i)):C d:=
 D.casesOn (motive_1:=fun d=>onT d f=some r→C d) d (fun h=>ak h) (fun _ h=>ak h) (fun _ h=>ak h) (fun _ h=>ak h) k (fun _ h=>ak h) (fun _ _ h=>ak h) (fun _ _ h=>ak h)
  (fun _ h=>ak h)
  h
@[elab_as_elim] theorem pO{f:List D→Option α}(h:onL d f=some r)(k:∀ i,f i=some r→C (.list i)):C d:=
 D.casesOn (motive_1:=fun d=>onL d f=some r→C d) d (fun h=>ak h) (fun _ h=>ak h) (fun _ h=>ak h) (fun _ h=>ak h) (fun _ h=>ak h) k (fun _ _ h=>ak h) (fun _ _ h=>ak h)
  (fun _ h=>ak h)
  h
@[elab_as_elim] theorem pP{f:Int→Option α}{g:Str→Option α}(h:onC d f g=some r)(k:∀ i,f i=some r→C (.int i))(k':∀ x,g x=some r→C (.str x)):C d:=
 D.casesOn (motive_1:=fun d=>onC d f g=some r→C d) d (fun h=>ak h) (fun _ h=>ak h) k k' (fun _ h=>ak h) (fun _ h=>ak h) (fun _ _ h=>ak h) (fun _ _ h=>ak h)
  (fun _ h=>ak h)
  h
end
section
variable {P:Params} {h:Heap} {H:Addr→Prop} {v:Value} {C:Value→Prop}
@[elab_as_elim] theorem Rep.intE{i:Int}(r:Rep P h H v (.int i))(k:∀ t,C (.int i t)):C v:=sv.rec (motive:=fun v _=>C v) k r
@[elab_as_elim] theorem Rep.strE{x:Str}(r:Rep P h H v (.str x))(k:∀ t,C (.str x t)):C v:=su.rec (motive:=fun v _=>C v) k r
@[elab_as_elim] theorem Rep.boolE{b:Bool}(r:Rep P h H v (.bool b))(k:C (.bool b)):C v:=(show v=.bool b from r)▸k
@[elab_as_elim] theorem Rep.noneE(r:Rep P h H v .none)(k:C .none):C v:=(show v=.none from r)▸k
@[elab_as_elim] theorem Rep.tupE{ds:List D}(r:Rep P h H v (.tup ds))(k:∀ a vs n,h.get? a=some (cV vs n)→¬ H a→ds.length≤big→aq P h H vs.toList ds→C (.ref a)):C v:=iX.rec (motive:=fun v _=>C v) (fun ho hn hl hr=>k _ _ _ ho hn hl hr) r
@[elab_as_elim] theorem Rep.listE{ds:List D}(r:Rep P h H v (.list ds))(k:∀ a vs n,h.get? a=some (eG vs n)→¬ H a→ds.length≤big→aq P h H vs.toList ds→C (.ref a)):C v:=iX.rec (motive:=fun v _=>C v) (fun ho hn hl hr=>k _ _ _ ho hn hl hr) r
end

section
variable {prog:Program} {w:World} {A:Around} {E:Value→Shared→Prop} {s:Shared} {H:Addr→Prop}

theorem qO{a:Int}{k:Nat}(h:a.natAbs<2 ^ k):Builtin.Int.intBits a≤k:=by
 unfold Builtin.Int.intBits
 split
 ·exact Nat.zero_le _
 ·rename_i hh
  exact (Nat.log2_lt fun e=>hh (by simp;omega)).mpr h
theorem no{a n:Int}{m:Nat}(e:(m:Int)=n)(h:-n<a∧a<n):a.natAbs<m:=by subst e;omega
theorem qP{a:Int}(h:-lim<a∧a<lim):Builtin.Int.intBits a≤64:=qO (no (Int.natCast_pow 2 64) h)
theorem bits_le1000{a:Int}(h:-dU<a∧a<dU):Builtin.Int.intBits a≤1000:=qO (no (Int.natCast_pow 2 1000) h)

theorem aq.appendA{P:Params}{h:Heap}{vs ws:Array Value}{ds es:List D}(r:aq P h H vs.toList ds)(k:aq P h H ws.toList es):aq P h H (vs++ws).toList (ds++es):=by rw[Array.toList_append];exact r.append k
theorem hY{vs:Array Value}{ds:List D}(hH:Ex s.heap H)(hl:ds.length≤big)(hr:aq w.params s.heap H vs.toList ds) :
  Rep w.params (s.heap.push (cV vs 0)) H (.ref s.heap.objs.size) (.tup ds):=
 .mk (Heap.get?_push_size _ rfl) hH.fresh hl (hr.keeps fun _ _ e=>Heap.gt_push_of_some _ e)
theorem fw{i:Int}{t:Tok}{k:Nat}:aZ w s H (.int i) (.int i t) { s with toks:=k }:=⟨Kp.tok _ _,.mk t⟩
theorem l7{i:Str}{t:Tok}{k:Nat}:aZ w s H (.str i) (.str i t) { s with toks:=k }:=⟨Kp.tok _ _,.mk t⟩
theorem bO{b:Bool}{k:Nat}:aZ w s H (.bool b) (.bool b) { s with toks:=k }:=⟨Kp.tok _ _,rfl⟩

theorem binI_snd{op:Operator}{i j:Int}{t u:Tok}{d:D}(he:binI op i j=some d):wpAny (model prog w) A (binaryOp op (.int i t) (.int j u)) (aZ w s H d) E s:=by
 cases op with
 | Add=>exact Option.some.inj he▸PyProof.Rows.add_int fw
 | Sub=>exact Option.some.inj he▸PyProof.Rows.sub_int fw
 | Mult=>exact aV he fun hc e=>e▸PyProof.Rows.mul_int fw (hc.elim (fun h=>.of_left (qP h)) fun h=>.of_right (qP h))
 | Mod=>exact aV he fun hc e=>e▸PyProof.Rows.mod_int (Int.ne_of_gt hc) (Int.fmod_eq_emod_of_nonneg i (Int.le_of_lt hc)▸fw)
 | Pow=>exact aV he fun hc e=>e▸PyProof.Rows.pow_int hc.2.2.1 (Int.le_trans (Int.mul_le_mul (Int.ofNat_le.mpr (bits_le1000 ⟨hc.1,hc.2.1⟩)) hc.2.2.2 hc.2.2.1 (by decide)) (by decide)) fw
 | FloorDiv=>exact aV he fun hc e=>e▸PyProof.Rows.floordiv_int (Int.ne_of_gt hc.1) (Int.fdiv_eq_ediv_of_nonneg i (Int.le_of_lt hc.1)▸fw) (.inl (PyProof.noPylong_of_log2 (Nat.lt_trans ((Nat.log2_lt (by omega)).mpr (no (Int.natCast_pow 2 64) ⟨Int.lt_trans (by decide) hc.1,hc.2⟩)) (by decide))))
 | _=>exact ak he
theorem binS_snd{op:Operator}{x:Str}{t:Tok}{y:Value}{b d:D}(hy:Rep w.params s.heap H y b)(he:binS op x b=some d):wpAny (model prog w) A (binaryOp op (.str x t) y) (aZ w s H d) E s:=by
 cases op with
 | Add=>exact mQ (C:=fun b=>Rep w.params s.heap H y b→_) he (fun z he hy=>aV he fun hc e=>e▸hy.strE fun u=>PyProof.Rows.add_str (fun t' tk=>l7) hc) hy
 | Mult=>
  refine cL (C:=fun b=>Rep w.params s.heap H y b→_) he (fun n he hy=>aV he fun hc e=>e▸hy.intE fun u=>SB.mul ⟨by simp;omega,fun g1 _=>?_,fun g1 _=>?_⟩ fun t' k=>l7) hy
  ·have:(1000:Int)≤(2 ^ 63 - 1) / n:=(Int.le_ediv_iff_mul_le (by omega)).mpr (by omega)
   omega
  ·exact decide_eq_false (Nat.not_lt.mpr (Nat.le_trans (Nat.mul_le_mul hc.2.2 (Int.toNat_le.mpr hc.2.1)) (by decide)))
 | _=>exact ak he
theorem binL_snd{op:Operator}{x y:Value}{as:List D}{b d:D}(hx:Rep w.params s.heap H x (.list as))(hy:Rep w.params s.heap H y b)(hH:Ex s.heap H)(he:binL op as b=some d) :
  wpAny (model prog w) A (binaryOp op x y) (bI w s H d d.isList) E s:=by
 cases op with
 | Add=>exact pO (C:=fun b=>Rep w.params s.heap H y b→_) he (fun bs he hy=>aV he fun hc e=>e▸hx.listE fun _ _ _ o1 _ _ r1=>hy.listE fun _ _ _ o2 _ _ r2=>
   P.add_list o1 o2 (gB hH (List.length_append▸hc) (r1.appendA r2) (fun _ _ e=>Heap.gt_push_of_some _ e) (Heap.get?_push_size _ rfl)) (r1.size▸r2.size▸hc)) hy
 | _=>exact ak he
theorem jD{P:Params}{h:Heap}{vs:Array Value}{ds:List D}(r:aq P h H vs.toList ds)(hv:vs.isEmpty=true):ds=[]:=List.eq_nil_of_length_eq_zero (r.size▸Array.size_eq_zero_iff.mpr (Array.isEmpty_iff.mp hv))
theorem binT_snd{op:Operator}{x y:Value}{as:List D}{b d:D}(hx:Rep w.params s.heap H x (.tup as))(hy:Rep w.params s.heap H y b)(hH:Ex s.heap H)(he:binT op as b=some d) :
  wpAny (model prog w) A (binaryOp op x y) (aZ w s H d) E s:=by
 cases op with
 | Add=>
  refine mP (C:=fun b=>Rep w.params s.heap H y b→_) he (fun bs he hy=>aV he fun hc e=>e▸hx.tupE fun a1 v1 n1 o1 q1 l1 r1=>hy.tupE fun a2 v2 n2 o2 q2 l2 r2=>?_) hy
  by_cases hv:v1.isEmpty=true
  ·exact concat_meets ⟨_,o1,rfl⟩ ⟨_,o2,rfl⟩ noFill_tuple_add seq_tuple_add PySem.F.slot_tuple_add PySem.F.entry_tuple_add (PySem.F.args_tuple_add_2 _ _) (AutoSeq1.tuple___add___tuple_tuple_0 _ _ _ _ _ _ hv) ⟨o1,o2,Kp.refl _,(jD r1 hv).symm▸.mk o2 q2 l2 r2⟩
  ·by_cases hv2:v2.isEmpty=true
   ·exact concat_meets ⟨_,o1,rfl⟩ ⟨_,o2,rfl⟩ noFill_tuple_add seq_tuple_add PySem.F.slot_tuple_add PySem.F.entry_tuple_add (PySem.F.args_tuple_add_2 _ _) (AutoSeq1.tuple___add___tuple_tuple_1 _ _ _ _ _ _ hv hv2) ⟨o1,o2,Kp.refl _,(jD r2 hv2).symm▸(List.append_nil as).symm▸.mk o1 q1 l1 r1⟩
   ·exact P.add_tuple o1 o2 hv hv2 ⟨Kp.push _ _,hY hH (List.length_append▸hc) (r1.appendA r2)⟩ (r1.size▸r2.size▸hc)
 | _=>exact ak he
theorem binI_plain{op:Operator}{i j:Int}{d:D}(he:binI op i j=some d):d.isList=false:=by
 cases op with
 | Add | Sub=>exact Option.some.inj he▸rfl
 | Mult | Mod | Pow | FloorDiv=>exact aV he fun _ e=>e▸rfl
 | _=>exact ak he
theorem binS_plain{op:Operator}{x:Str}{b d:D}(he:binS op x b=some d):d.isList=false:=by
 cases op with
 | Add=>exact mQ (C:=fun _=>d.isList=false) he fun _ he=>aV he fun _ e=>e▸rfl
 | Mult=>exact cL (C:=fun _=>d.isList=false) he fun _ he=>aV he fun _ e=>e▸rfl
 | _=>exact ak he
theorem binT_plain{op:Operator}{x:List D}{b d:D}(he:binT op x b=some d):d.isList=false:=by
 cases op with
 | Add=>exact mP (C:=fun _=>d.isList=false) he fun _ he=>aV he fun _ e=>e▸rfl
 | _=>exact ak he
theorem be{α:Type}{M:Model}{c:Sem α}{Q Q':α→Shared→Prop}(h:wpAny M A c Q E s)(k:∀ v s',Q v s'→Q' v s'):wpAny M A c Q' E s:=wpAny_mono h k fun _ _ e=>e
theorem bin_snd{op:Operator}{x y:Value}{a b d:D}(hx:Rep w.params s.heap H x a)(hy:Rep w.params s.heap H y b)(hH:Ex s.heap H)(he:du op a b=some d) :
  wpAny (model prog w) A (binaryOp op x y) (bI w s H d d.isList) E s:=by
 cases a with
 | int i=>exact cL (C:=fun b=>Rep w.params s.heap H y b→_) he (fun j he hy=>be (hx.intE fun _=>hy.intE fun _=>binI_snd he) fun _ _ q=>q.pf (binI_plain he)) hy
 | str x=>exact be (hx.strE fun _=>binS_snd hy he) fun _ _ q=>q.pf (binS_plain he)
 | tup as=>exact be (binT_snd hx hy hH he) fun _ _ q=>q.pf (binT_plain he)
 | list as=>exact binL_snd hx hy hH he
 | _=>exact ak he
end
end Mine
namespace Mine
open PySem PySem.SeqAt

section
variable {prog:Program} {w:World} {A:Around} {E:Value→Shared→Prop} {s:Shared} {H H':Addr→Prop}
theorem eqS_inv{C:D→D→Bool→Prop}{a b:D}{k:Bool}(he:eqS a b=some k)(hb:∀ x y,C (.bool x) (.bool y) (x == y))(hii:∀ x y,C (.int x) (.int y) (x == y))(his:∀ x y,C (.int x) (.str y) false)(hsi:∀ x y,C (.str x) (.int y) false)(hss:∀ x y,C (.str x) (.str y) (x == y)):C a b k:=by
 cases a with
 | bool x=>exact onB_inv (C:=fun b=>C (.bool x) b k) he fun y e=>Option.some.inj e▸hb x y
 | int x=>exact pP (C:=fun b=>C (.int x) b k) he (fun y e=>Option.some.inj e▸hii x y) fun y e=>Option.some.inj e▸his x y
 | str x=>exact pP (C:=fun b=>C (.str x) b k) he (fun y e=>Option.some.inj e▸hsi x y) fun y e=>Option.some.inj e▸hss x y
 | _=>exact ak he
structure Eq3(x y:Value)(k:Bool):Prop where
 e:∀ A s,EqAt A s x y k
 r:∀ A s,RcAt A s x y k
 n:∀ A s,RcNeAt A s x y (!k)
theorem ng{P:Params}{h:Heap}{x y:Value}{a b:D}{k:Bool}(hx:Rep P h H x a)(hy:Rep P h H' y b)(he:eqS a b=some k):Eq3 x y k:=
 eqS_inv (C:=fun a b k=>Rep P h H x a→Rep P h H' y b→Eq3 x y k) he
  (fun _ _ hx hy=>hx.boolE (hy.boolE ⟨fun _ _=>EqAt.bool_bool _ _,fun _ _=>RcAt.bool_bool _ _,fun _ _=>RcNeAt.bool_bool _ _⟩))
  (fun _ _ hx hy=>hx.intE fun _=>hy.intE fun _=>⟨fun _ _=>EqAt.int_int _ _ _ _,fun _ _=>RcAt.int_int _ _ _ _,fun _ _=>RcNeAt.int_int _ _ _ _⟩)
  (fun _ _ hx hy=>hx.intE fun _=>hy.strE fun _=>⟨fun _ _=>EqAt.int_str _ _ _ _,fun _ _=>RcAt.int_str _ _ _ _,fun _ _=>RcNeAt.int_str _ _ _ _⟩)
  (fun _ _ hx hy=>hx.strE fun _=>hy.intE fun _=>⟨fun _ _=>EqAt.str_int _ _ _ _,fun _ _=>RcAt.str_int _ _ _ _,fun _ _=>RcNeAt.str_int _ _ _ _⟩)
  (fun _ _ hx hy=>hx.strE fun _=>hy.strE fun _=>⟨fun _ _=>EqAt.str_str _ _ _ _,fun _ _=>RcAt.str_str _ _ _ _,fun _ _=>RcNeAt.str_str _ _ _ _⟩) hx hy
theorem aR{h:Heap}{a:Addr}{vs:Array Value}{n:Nat}(ho:h.get? a=some (eG vs n)):h.IsList a vs:=⟨_,ho,rfl,n,rfl⟩
theorem cO{h:Heap}{a:Addr}{vs:Array Value}{n:Nat}(ho:h.get? a=some (cV vs n)):h.IsTuple a vs:=⟨_,ho,rfl,n,rfl⟩
theorem dP{h:Heap}{a:Addr}{vs:Array Value}{n:Nat}(ho:h.get? a=some (cV vs n)):PyProof.Rows.IsTup h a vs:=⟨_,ho,rfl,n,rfl⟩
structure Rc2(A:Around)(s:Shared)(x y:Value)(k:Bool):Prop where
 r:RcAt A s x y k
 n:RcNeAt A s x y (!k)
theorem Eq3.rc{x y:Value}{k:Bool}(q:Eq3 x y k):Rc2 A s x y k:=⟨q.r A s,q.n A s⟩
structure Eq2(prog:Program)(w:World)(A:Around)(E:Value→Shared→Prop)(s:Shared)(H:Addr→Prop)(x y:Value)(k:Bool):Prop where
 e:wpAny (model prog w) A (compareOp .Eq x y) (aZ w s H (.bool k)) E s
 n:wpAny (model prog w) A (compareOp .NotEq x y) (aZ w s H (.bool (!k))) E s
theorem fK{b:Bool}:aZ w s H (.bool b) (.bool b) s:=⟨Kp.refl _,rfl⟩
theorem Rc2.two{x y:Value}{k:Bool}(q:Rc2 A s x y k):Eq2 prog w A E s H x y k:=⟨q.r prog w E _ fK,q.n prog w E _ fK⟩
noncomputable def lJ(xs ys:List Value)(e:Nat→Bool):Prop:=∀ j (h1:j<xs.length) (h2:j<ys.length) A s,EqAt A s xs[j] ys[j] (e j)
theorem jp{P:Params}{h:Heap}{xs ys:List Value}{ds es:List D}{k:Bool}(hx:aq P h H xs ds)(hy:aq P h H' ys es)(hl:ds.length=es.length)(he:gf ds es=some k) :
  ∃ e:Nat→Bool,(List.range ds.length).all e=k∧lJ xs ys e:=by
 induction ds generalizing xs ys es k with
 | nil=>
  cases es with
  | nil=>exact⟨fun _=>true,Option.some.inj he,fun j h1=>by rw[show xs=[] from hx] at h1;exact absurd h1 (Nat.not_lt_zero _)⟩
  | cons=>cases hl
 | cons d ds ih=>
  cases es with
  | nil=>cases hl
  | cons e es=>
   refine fM he fun b1 h1 he=>bh he fun b2 h2 he=>dg.rec (motive:=fun xs _=>∃ e:Nat→Bool,(List.range (d::ds).length).all e=k∧lJ xs ys e) (fun hx hxs=>dg.rec (motive:=fun ys _=>∃ e:Nat→Bool,(List.range (d::ds).length).all e=k∧lJ _ ys e) (fun hy hys=>?_) hy) hx
   refine (ih hxs hys (Nat.succ.inj hl) h2).elim fun e q=>⟨fun j=>Nat.casesOn j b1 e,?_,fun j h1' h2' A s=>?_⟩
   ·rw[List.length_cons,List.range_succ_eq_map,List.all_cons,List.all_map]
    exact (congrArg (b1&&·) q.1).trans he
   ·cases j with
    | zero=>exact (ng hx hy h1).e A s
    | succ j=>exact q.2 j (Nat.lt_of_succ_lt_succ h1') (Nat.lt_of_succ_lt_succ h2') A s
theorem lJ.arr{v1 v2:Array Value}{e:Nat→Bool}(q:lJ v1.toList v2.toList e){A:Around}{s:Shared}(j:Nat)(q1:j<v1.size)(q2:j<v2.size):EqAt A s v1[j] v2[j] (e j):=q j q1 q2 A s
theorem eqL_snd{l1 l2:Addr}{v1 v2:Array Value}{n1 n2:Nat}{d1 d2:List D}{k:Bool}(h1:s.heap.get? l1=some (eG v1 n1))(h2:s.heap.get? l2=some (eG v2 n2))(r1:aq w.params s.heap H v1.toList d1)(r2:aq w.params s.heap H' v2.toList d2)
  (hu:A.units<cLine) (he:(if d1.length=d2.length then gf d1 d2 else some false)=some k):Rc2 A s (.ref l1) (.ref l2) k:=
 b0 he (fun hl he=>(jp r1 r2 hl he).elim fun e q=>
   have hs:v1.size=v2.size:=r1.size.trans (hl.trans r2.size.symm)
   have ek:(List.range v1.size).all e=k:=r1.size.symm▸q.1
   ek▸⟨RcAt.lists (aR h1) (aR h2) hs hu q.2.arr,RcNeAt.lists (aR h1) (aR h2) hs hu q.2.arr⟩)
  fun hl he=>
   have hne:(v1.size != v2.size)=true:=bne_iff_ne.mpr fun e=>hl (r1.size.symm.trans (e.trans r2.size))
   Option.some.inj he▸⟨RcAt.lists_lengths (aR h1) (aR h2) hne hu,RcNeAt.lists_lengths (aR h1) (aR h2) hne hu⟩
theorem ow{l1 l2:Addr}{v1 v2:Array Value}{n1 n2:Nat}{k:Bool}{e:Nat→Bool}(h1:s.heap.get? l1=some (cV v1 n1))(h2:s.heap.get? l2=some (cV v2 n2))(hu:A.units<cLine)(q:∀ j (q1:j<v1.size) (q2:j<v2.size),EqAt A.in1 s v1[j] v2[j] (e j))(ek:((List.range (min v1.size v2.size)).all e&&v1.size == v2.size)=k):Rc2 A s (.ref l1) (.ref l2) k:=
 ek▸⟨RcAt.tuples (cO h1) (cO h2) hu q,RcNeAt.tuples (cO h1) (cO h2) hu q⟩
theorem eqT_snd{l1 l2:Addr}{v1 v2:Array Value}{n1 n2:Nat}{d1 d2:List D}{k:Bool}(h1:s.heap.get? l1=some (cV v1 n1))(h2:s.heap.get? l2=some (cV v2 n2))(r1:aq w.params s.heap H v1.toList d1)(r2:aq w.params s.heap H' v2.toList d2)
  (hu:A.units<cLine) (hl:d1.length=d2.length) (he:gf d1 d2=some k):Rc2 A s (.ref l1) (.ref l2) k:=
 (jp r1 r2 hl he).elim fun e q=>ow h1 h2 hu q.2.arr (by rw[r1.size,r2.size,← hl,Nat.min_self,q.1,beq_self_eq_true,Bool.and_true])
theorem eqT_nil{l1 l2:Addr}{v1 v2:Array Value}{n1 n2:Nat}{d1 d2:List D}(h1:s.heap.get? l1=some (cV v1 n1))(h2:s.heap.get? l2=some (cV v2 n2))(r1:aq w.params s.heap H v1.toList d1)(r2:aq w.params s.heap H' v2.toList d2)
  (hu:A.units<cLine) (hl:¬ d1.length=d2.length) (h0:d2.length=0):Rc2 A s (.ref l1) (.ref l2) false:=
 ow (e:=fun _=>true) h1 h2 hu (fun j q1 q2=>absurd q2 (by rw[r2.size,h0];exact Nat.not_lt_zero _)) (by rw[r1.size,r2.size,beq_eq_false_iff_ne.mpr hl,Bool.and_false])
theorem eqD_snd{x y:Value}{a b:D}{k:Bool}(hx:Rep w.params s.heap H x a)(hy:Rep w.params s.heap H' y b)(hu:A.units<cLine)(he:eqD a b=some k):Rc2 A s x y k:=by
 cases a with
 | tup ds=>exact mP (C:=fun b=>Rep w.params s.heap H' y b→Rc2 A s x y k) he (fun es he hy=>hx.tupE fun _ _ _ h1 _ _ r1=>hy.tupE fun _ _ _ h2 _ _ r2=>b0 he (eqT_snd h1 h2 r1 r2 hu) fun hl he=>aV he fun h0 e=>e▸eqT_nil h1 h2 r1 r2 hu hl h0) hy
 | list ds=>exact pO (C:=fun b=>Rep w.params s.heap H' y b→Rc2 A s x y k) he (fun es he hy=>hx.listE fun _ _ _ h1 _ _ r1=>hy.listE fun _ _ _ h2 _ _ r2=>eqL_snd h1 h2 r1 r2 hu he) hy
 | _=>exact (ng hx hy he).rc
@[elab_as_elim] theorem iR{y:Value}{h:Heap}{ks vs:List D}{C:Value→Prop}(hy:Rep w.params h H y (.dict ks vs))(hk:ks.all D.isCell=true)(k:∀ a es n (cs:List CK),ks=cs.map aX→h.get? a=some (jR es n)→h.DictOf (bM prog w) a (cs.zip (es.toList.map (·.val)))→aq w.params h H (es.toList.map (·.val)) vs→(a == sysModules)=false→cs.length=(es.toList.map (·.val)).length→cs.Nodup→C (.ref a)):C y:=
 (ly hk).elim fun cs e=>lQ.rec (motive:=fun v _=>C v) (fun ho hn hl h1 h2 hh hk hd hs=>k _ _ _ cs e ho (li ho (e▸h1) (e▸hh) (e▸hd)) h2 hs ((List.length_map (as:=cs) aX).symm.trans ((e▸h1.length.symm:(cs.map aX).length=_).trans (by rw[List.length_map,List.length_map]))) ((List.pairwise_map.mp (e▸hd)).imp fun h e=>h (congrArg aX e))) hy
@[elab_as_elim] theorem oz{P:Params}{h:Heap}{y:Value}{ks vs:List D}{C:Value→Prop}(hy:Rep P h H y (.dict ks vs))(hk:ks.all D.isTK=true)(k:∀ a es n (cs:List (List CK)),ks=cs.map dq→h.get? a=some (jR es n)→aq P h H (es.toList.map (·.key)) (cs.map dq)→aq P h H (es.toList.map (·.val)) vs →
  es.toList.map (·.hash)=(cs.map dq).map (eS P)→(cs.map dq).Nodup→(a == sysModules)=false→C (.ref a)):C y:=
 (oY hk).elim fun cs e=>lQ.rec (motive:=fun v _=>C v) (fun ho hn hl h1 h2 hh hk hd hs=>k _ _ _ cs e ho (e▸h1) h2 (e▸hh) (e▸hd) hs) hy
theorem rX{xs:List (List CK×Addr×Value)}{cs:List (List CK)}(h:xs.map (·.1)=cs):xs.map kD=cs.map dq:=by
 rw[← h,List.map_map];rfl
theorem notIn_of_in{M:Model}{x c:Value}{Q' Q:Value→Shared→Prop}(h:wpAny M A (compareOp .In x c) Q' E s)(hQ:∀ b s',Q' (.bool b) s'→Q (.bool (!b)) s'):wpAny M A (compareOp .NotIn x c) Q E s:=by
 intro Γ p hΓ
 have h0:=h Γ p hΓ
 change Sem.wp _ Γ (Sem.bind (contains c x) fun r=>Sem.pure (Value.bool r)) _ _ p s at h0
 show Sem.wp _ Γ (Sem.bind (contains c x) fun r=>Sem.pure (Value.bool (!r))) _ _ p s
 rw[Sem.wp_bind] at h0 ⊢
 exact Sem.wp_mono _ Γ _ (fun r p' s' q=>hQ r s' q) (fun _ _ _ q=>q) p s h0
theorem ji{k:D}{ks:List D}{C:Prop}(h:cB k ks=true)(h1:k.isCell=true→ks.all D.isCell=true→C)(h2:k.isTK=true→ks.all D.isTK=true→C):C:=(Bool.or_eq_true_iff.mp h).elim (fun h=>bN h h1) fun h=>bN h h2
theorem in_dict{x y:Value}{k:D}{ks vs:List D}(hx:Rep w.params s.heap H x k)(hy:Rep w.params s.heap H y (.dict ks vs))(hu:A.units+1<cLine)(hc:cB k ks=true) :
  wpAny (model prog w) A (compareOp .In x y) (aZ w s H (.bool (ks.any fun x=>aQ x k))) E s:=by
 refine ji hc (fun h1 h2=>(fk h1).elim fun c e=>?_) ?_
 ·subst e
  exact iR (prog:=prog) hy h2 fun a es n cs e ho hD hv hs hl _=>wpAny_in_of (knd:=bM prog w) (jb hx) hs hD.mapOf (by rw[any_valueAt hl,e];exact bO)
 ·refine fun h1 h2=>(nA h1).elim fun c e=>?_
  subst e
  refine oz hy h2 fun a es n cs e ho hk hv hh hd hs=>?_
  obtain⟨b,rfl,ib⟩:=mM (prog:=prog) hx
  obtain⟨xs,hm,e1,_,_⟩:=jr (prog:=prog) ho hk hh hd
  refine wpAny_in_heap (knd:=TKd prog w) hu ib hs hm ?_
  rw[mB xs,rX e1,e];exact bO
theorem cellEq_snd{P:Params}{h:Heap}{x y:Value}{a b:D}(hx:Rep P h H x a)(hy:Rep P h H' y b)(ha:a.isCell=true)(hb:b.isCell=true):∀ A s,EqAt A s x y (ce a b):=by
 obtain⟨c,rfl⟩:=fk ha
 obtain⟨c',rfl⟩:=fk hb
 exact (ng hx hy (by cases c <;> cases c' <;> rfl)).e
noncomputable def ew:Value→D
 | .int i _=>.int i
 | .str x _=>.str x
 | _=>.none
theorem jx{P:Params}{h:Heap}{v:Value}{d:D}(r:Rep P h H v d)(hc:d.isCell=true):ew v=d:=by
 obtain⟨c,rfl⟩:=fk hc
 cases c
 ·exact Rep.intE (C:=fun v=>ew v=_) r fun _=>rfl
 ·exact Rep.strE (C:=fun v=>ew v=_) r fun _=>rfl
theorem eqv_any{P:Params}{h:Heap}{b:D}{vs:List Value}{ds:List D}(r:aq P h H vs ds)(hc:ds.all D.isCell=true):vs.any (fun v=>ce (ew v) b)=ds.any fun x=>ce x b:=by
 induction ds generalizing vs with
 | nil=>rw[show vs=[] from r];rfl
 | cons d ds ih=>exact dg.rec (motive:=fun vs _=>vs.any (fun v=>ce (ew v) b)=(d::ds).any fun x=>ce x b) (fun hv hr=>bN hc fun h1 h2=>by rw[List.any_cons,List.any_cons,ih hr h2,jx hv h1]) r
theorem mem_eqv{P:Params}{h:Heap}{x:Value}{k:D}(hx:Rep P h H x k)(hk:k.isCell=true){A:Around}{s:Shared}{vs:List Value}{ds:List D}(r:aq P h H vs ds)(hc:ds.all D.isCell=true):∀ v∈vs,EqAt A s v x (ce (ew v) k):=by
 induction ds generalizing vs with
 | nil=>rw[show vs=[] from r];exact fun _ hm=>nomatch hm
 | cons d ds ih=>exact dg.rec (motive:=fun vs _=>∀ v∈vs,EqAt A s v x (ce (ew v) k)) (fun hv hr v hm=>bN hc fun h1 h2=>(List.mem_cons.mp hm).elim (fun e=>e▸(jx hv h1).symm▸cellEq_snd hv hx h1 hk A s) (ih hr h2 v)) r
theorem in_tup{x y:Value}{k:D}{ds:List D}(hx:Rep w.params s.heap H x k)(hy:Rep w.params s.heap H y (.tup ds))(hc:(k.isCell&&ds.all D.isCell)=true) :
  wpAny (model prog w) A (compareOp .In x y) (aZ w s H (.bool (ds.any fun x=>ce x k))) E s:=
 bN hc fun h1 h2=>hy.tupE fun a vs n ho hn hl hr=>in_tupleAt (fun v=>ce (ew v) k) (cO ho) (fun v hv=>mem_eqv hx h1 hr h2 v (Array.mem_toList_iff.mpr hv)) (by rw[← Array.any_toList,eqv_any hr h2];exact fK)
theorem pU{x y:Value}{a b:D}{k:Bool}(hx:Rep w.params s.heap H x a)(hy:Rep w.params s.heap H y b)(hu:A.units+1<cLine)(he:kH a b=some k) :
  wpAny (model prog w) A (compareOp .In x y) (aZ w s H (.bool k)) E s:=by
 cases b with
 | tup ds=>exact aV he fun hc e=>e▸in_tup hx hy hc
 | dict ks vs=>exact aV he fun hc e=>e▸in_dict hx hy hu hc
 | _=>exact ak he
theorem ord_snd{op:CmpOp}{x y:Value}{a b d:D}(hx:Rep w.params s.heap H x a)(hy:Rep w.params s.heap H y b)(he:ordD op a b=some d):wpAny (model prog w) A (compareOp op x y) (aZ w s H d) E s:=by
 cases a with
 | int i=>
  refine cL (C:=fun b=>Rep w.params s.heap H y b→_) he (fun j he hy=>hx.intE fun _=>hy.intE fun _=>?_) hy
  cases op with
  | Lt=>exact Option.some.inj he▸PyProof.Rows.lt_int fK
  | LtE=>exact Option.some.inj he▸PyProof.Rows.le_int fK
  | Gt=>exact Option.some.inj he▸PyProof.Rows.gt_int fK
  | GtE=>exact Option.some.inj he▸PyProof.Rows.ge_int fK
  | _=>exact ak he
 | str x=>
  refine mQ (C:=fun b=>Rep w.params s.heap H y b→_) he (fun j he hy=>hx.strE fun _=>hy.strE fun _=>?_) hy
  cases op with
  | Lt=>exact Option.some.inj he▸PyProof.Rows.lt_str fK
  | _=>exact ak he
 | _=>exact ak he
theorem jw:∀ {cs:List CK} {v2:List Value} {j:Nat} {c:CK} {y:Value},cs.Nodup→cs[j]?=some c→v2[j]?=some y→valueAt (cs.zip v2) c=some y
 | [],_,j,_,_,_,h,_=>by simp at h
 | _::_,[],j,_,_,_,_,h=>by simp at h
 | c'::cs,y'::v2,0,c,y,_,h1,h2=>by
  cases h1;cases h2
  simp[valueAt]
 | c'::cs,y'::v2,j+1,c,y,hn,h1,h2=>by
  rw[List.nodup_cons] at hn
  have h1:cs[j]?=some c:=h1
  have hne:c'≠c:=fun e=>hn.1 (e▸List.mem_of_getElem? h1)
  have ih:=jw (v2:=v2) hn.2 h1 h2
  unfold valueAt at ih ⊢
  rw[List.zip_cons_cons,List.find?_cons_of_neg (by simpa using hne)]
  exact ih
theorem qv{kb:List (CK×Value)}:∀ {cs:List CK} {v1 v2:List Value} {e:Nat→Bool},cs.length=v1.length→cs.length=v2.length→(∀ (j:Nat) (c:CK) (y:Value),cs[j]?=some c→v2[j]?=some y→valueAt kb c=some y) →
  (∀ j (h1:j<v1.length) (h2:j<v2.length),EqAt A s v1[j] v2[j] (e j))→PySem.W.KeqHits A s kb (cs.zip v1) ((List.range cs.length).all e)
 | [],_,_,_,_,_,_,_=>.nil
 | _::_,[],_,_,h,_,_,_=>by cases h
 | _::_,_::_,[],_,_,h,_,_=>by cases h
 | c::cs,v::v1,y::v2,e,h1,h2,hv,he=>by
  have q:(List.range (c::cs).length).all e=(e 0&&(List.range cs.length).all (fun j=>e (j+1))):=by
   rw[List.length_cons,List.range_succ_eq_map,List.all_cons,List.all_map];rfl
  rw[q]
  exact .hit (hv 0 c y rfl rfl) (he 0 (Nat.zero_lt_succ _) (Nat.zero_lt_succ _)) (qv (Nat.succ.inj h1) (Nat.succ.inj h2) (fun j c' y' a b=>hv (j+1) c' y' a b) fun j a b=>he (j+1) (Nat.succ_lt_succ a) (Nat.succ_lt_succ b))
theorem lz:∀ {cs cs':List CK} {ks:List D},aO (cs.map aX) ks=true→ks=cs.map aX
 | [],_,[],_=>rfl
 | [],_,_::_,h=>by cases h
 | _::_,_,[],h=>by cases h
 | c::cs,cs',k::ks,h=>by
  have h:(ce (aX c) k&&aO (cs.map aX) ks)=true:=h
  rw[Bool.and_eq_true] at h
  rw[lz (cs':=cs') h.2,List.map_cons]
  congr 1
  have h1:=h.1
  cases c <;> cases k <;> first | (cases h1;done) | (have h1:(_ == _)=true:=h1;rw[eq_of_beq h1];rfl)
theorem ofCK_maps{l l':List CK}(h:l.map aX=l'.map aX):l=l':=by
 induction l generalizing l' with
 | nil=>cases l' with
  | nil=>rfl
  | cons=>cases h
 | cons c l ih=>cases l' with
  | nil=>cases h
  | cons c' l'=>exact congr (congrArg List.cons (kE (List.cons.inj h).1)) (ih (List.cons.inj h).2)
theorem eqDict_snd{x y:Value}{ks vs ks' vs':List D}{k:Bool}(hx:Rep w.params s.heap H x (.dict ks vs))(hy:Rep w.params s.heap H y (.dict ks' vs'))(hu:A.units<cLine)(hk:ks.all D.isCell=true)(hkk:aO ks ks'=true)(hl:vs.length=vs'.length)(he:gf vs vs'=some k):Eq2 prog w A E s H x y k:=by
 refine iR (prog:=prog) hx hk fun a es n cs e h1 da h5 h9 h10 hn=>?_
 subst e
 have e:=lz (cs':=cs) hkk
 subst e
 refine iR (prog:=prog) hy hk fun b es' n' cs2 e g1 db g5 g9 g10 _=>?_
 have hcs:=ofCK_maps e
 subst hcs
 refine (jp h5 g5 hl he).elim fun e q=>?_
 have hits:PySem.W.KeqHits A.in1 s (cs.zip (es'.toList.map (·.val))) (cs.zip (es.toList.map (·.val))) k:=by
  have q':=qv (A:=A.in1) (s:=s) (kb:=cs.zip (es'.toList.map (·.val))) (e:=e) h10 g10 (fun j c y a b=>jw hn a b) fun j a b=>q.2 j a b A.in1 s
  rw[h10,h5.length,q.1] at q'
  exact q'
 have hlen:((cs.zip (es.toList.map (·.val))).length == (cs.zip (es'.toList.map (·.val))).length&&k)=k:=by
  rw[List.length_zip,List.length_zip,← h10,← g10,beq_self_eq_true,Bool.true_and]
 exact⟨PySem.W.keq_eq h9 g9 da db hu (fun _=>hits) (by rw[hlen];exact fK),PySem.W.keq_ne h9 g9 da db hu (fun _=>hits) (by rw[hlen];exact fK)⟩
theorem qF{x y:Value}{a b:D}{k:Bool}(hx:Rep w.params s.heap H x a)(hy:Rep w.params s.heap H y b)(hu:A.units<cLine)(he:eqX a b=some k):Eq2 prog w A E s H x y k:=by
 cases a with
 | dict ks vs=>
  cases b with
  | dict ks' vs'=>exact bQ he fun hc he=>fF hc fun h1 h2 h3=>eqDict_snd hx hy hu h1 h2 (eq_of_beq h3) he
  | _=>exact ak he
 | _=>exact (eqD_snd hx hy hu he).two
theorem qJ{op:CmpOp}{x y:Value}{a b d:D}(hx:Rep w.params s.heap H x a)(hy:Rep w.params s.heap H y b)(hu:A.units+1<cLine)(he:dZ op a b=some d) :
  wpAny (model prog w) A (compareOp op x y) (aZ w s H d) E s:=by
 cases op with
 | Eq=>exact bh he fun k hk e=>e▸(qF hx hy (Nat.lt_of_succ_lt hu) hk).e
 | NotEq=>exact bh he fun k hk e=>e▸(qF hx hy (Nat.lt_of_succ_lt hu) hk).n
 | In=>exact bh he fun k hk e=>e▸pU hx hy hu hk
 | NotIn=>exact bh he fun k hk e=>e▸notIn_of_in (pU hx hy hu hk) fun b s' q=>⟨q.k,by cases q.r;rfl⟩
 | _=>exact ord_snd hx hy he

theorem mU{n:Nat}(h:n≤big):(n:Int)<2 ^ 63:=Int.lt_of_le_of_lt (Int.ofNat_le.mpr h) (by decide)
theorem ox{P:Params}{h:Heap}{vs:Array Value}{ds:List D}(r:aq P h H vs.toList ds):vs.isEmpty=ds.isEmpty:=by
 rw[Bool.eq_iff_iff,Array.isEmpty_iff,List.isEmpty_iff,← Array.size_eq_zero_iff,← List.length_eq_zero_iff,r.size]

theorem eP{x:Value}{a:D}{t:Bool}(hx:Rep w.params s.heap H x a)(he:br a=some t) :
  wpAny (model prog w) A (truthy x) (dh s t) E s:=by
 cases a with
 | none=>exact hx.noneE (PyProof.Rows.truthy_none ⟨Kp.refl _,Option.some.inj he⟩)
 | bool b=>exact hx.boolE (wpAny_truthy_bool ⟨Kp.refl _,Option.some.inj he⟩)
 | int i=>exact hx.intE fun _=>PyProof.Rows.truthy_int ⟨Kp.refl _,Option.some.inj he⟩
 | tup ds=>exact hx.tupE fun a vs n ho _ hl hr=>PyProof.Rows.truthy_tuple (dP ho) (hr.size.symm▸mU hl) ⟨Kp.tok _ _,(congrArg _ (ox hr)).trans (Option.some.inj he)⟩
 | list ds=>exact hx.listE fun a vs n ho _ hl hr=>wpAny_truthy_list (aR ho) (hr.size.symm▸mU hl) ⟨Kp.tok _ _,(congrArg _ (ox hr)).trans (Option.some.inj he)⟩
 | _=>exact ak he

theorem qq{k:Int}{n j:Nat}{C:Prop}(h:idx k n=some j)(k1:0≤k→k<n→k.toNat=j→C)(k2:-(n:Int)≤k→k<0→(k+n).toNat=j→C):C:=
 b0 h (fun hc e=>k1 hc.1 hc.2 (Option.some.inj e)) fun _ h=>aV h fun hc e=>k2 hc.1 hc.2 e
theorem m0{k:Int}{n j:Nat}(h:idx k n=some j):seqIndex? k n=some j∧-(n:Int)≤k∧k<n:=by
 unfold seqIndex?
 refine qq h (fun h1 h2 e=>?_) fun h1 h2 e=>?_
 ·subst e
  have e:¬ k<0:=Int.not_lt.mpr h1
  simp only[e,if_false]
  simp[h1,h2];omega
 ·subst e
  simp only[h2,if_true]
  have h3:0≤k+n:=by omega
  have h4:k+n<n:=by omega
  simp[h3,h4];omega
noncomputable def sC(s:Shared)(x:Value):Prop:=∃ T id,s.TypeIs x T∧typeLookup (.type T) "__getitem__"=pure (some (.builtin id))
theorem get_str{x:Str}{t u:Tok}{k:Int}(hc:0≤k∧k<x.length∧x.length≤big):wpAny (model prog w) A (getItem (.str x t) (.int k u)) (aZ w s H (.str (bC x k.toNat))) E s:=by
 refine PyProof.Rows.getItem_str (c:=x.cps.getD k.toNat 0) ?_ ?_ l7
 ·have:=mU hc.2.2
  simp;omega
 ·have h1:idx k x.length=some k.toNat:=if_pos ⟨hc.1,hc.2.1⟩
  rw[(m0 h1).1]
  have h2:k.toNat<x.cps.size:=(Int.toNat_lt hc.1).mpr hc.2.1
  simp[Array.getD,h2]
theorem get_seq{l:Addr}{vs:Array Value}{n j:Nat}{ds:List D}{k:Int}{u:Tok}{v:Value}{d:D}(ho:s.heap.get? l=some (eG vs n))(hl:ds.length≤big)(hr:aq w.params s.heap H vs.toList ds)(hj:idx k ds.length=some j)(hv:vs.toList[j]?=some v)(r:Rep w.params s.heap H v d) :
  wpAny (model prog w) A (getItem (.ref l) (.int k u)) (aZ w s H d) E s:=by
 have hb:=mU hl
 have hv:vs[j]?=some v:=Array.getElem?_toList.symm.trans hv
 refine qq hj (fun h1 h2 e=>?_) fun h1 h2 e=>?_
 ·exact wpAny_getItem_list (aR ho) h1 (Int.lt_trans h2 hb) (e▸hv) ⟨Kp.refl _,r⟩
 ·exact wpAny_getItem_list_neg (aR ho) h2 (hr.size.symm▸h1) (by omega) (hr.size.symm▸e▸hv) ⟨Kp.refl _,r⟩
theorem getItem_snd{x i:Value}{a b d:D}(hu:A.units+1<cLine)(hx:Rep w.params s.heap H x a)(hi:Rep w.params s.heap H i b)(he:aT a b=some d) :
  wpAny (model prog w) A (getItem x i) (aZ w s H d) E s∧sC s x:=by
 cases a with
 | str x=>exact cL (C:=fun b=>Rep w.params s.heap H i b→_) he (fun k he hi=>aV he fun hc e=>e▸hx.strE fun _=>hi.intE fun _=>⟨get_str hc,"str",_,typeIs_str _ _ _,F.slot_str_getitem.lookup⟩) hi
 | tup ds=>exact cL (C:=fun b=>Rep w.params s.heap H i b→_) he (fun k he hi=>fM he fun j hj he=>hx.tupE fun a vs n ho hn hl hr=>hi.intE fun _=>(hr.get j he).elim fun v q=>
   have h:=m0 hj
   have hb:=mU hl
   ⟨PyProof.Rows.getItem_tuple (dP ho) (Int.le_trans (by omega) h.2.1) (Int.lt_trans h.2.2 hb) (hr.size.symm▸h.1) (Array.getElem?_toList.symm.trans q.1) ⟨Kp.refl _,q.2⟩,"tuple",_,(dP ho).typeIs,F.slot_tuple_getitem.lookup⟩) hi
 | list ds=>exact cL (C:=fun b=>Rep w.params s.heap H i b→_) he (fun k he hi=>fM he fun j hj he=>hx.listE fun a vs n ho hn hl hr=>hi.intE fun _=>(hr.get j he).elim fun v q=>
   ⟨get_seq ho hl hr hj q.1 q.2,"list",_,(aR ho).typeIs,F.slot_list_getitem.lookup⟩) hi
 | dict ks vs=>
  refine bQ he fun hc he=>ji hc (fun h1 h2=>(fk h1).elim fun c e=>?_) ?_
  ·subst e
   exact iR (prog:=prog) hx h2 fun a es n cs e ho hD hv hs hl _=>(dget_valueAt hv (e▸he)).elim fun v q=>⟨wpAny_getItem_of (knd:=bM prog w) (jb hi) hD.mapOf q.1 ⟨Kp.tok _ _,q.2⟩,"dict",_,hD.mapOf.typeIs,slot_dict_getitem.lookup⟩
  ·refine fun h1 h2=>(nA h1).elim fun c e=>?_
   subst e
   refine oz hx h2 fun a es n cs e ho hk hv hh hd hs=>?_
   obtain⟨b,rfl,ib⟩:=mM (prog:=prog) hi
   obtain⟨xs,hm,e1,_,e3⟩:=jr (prog:=prog) ho hk hh hd
   rw[e,← rX e1] at he
   obtain⟨p,hp,rp⟩:=dget_atKey (e3▸hv) he
   exact⟨wpAny_getItem_heap (knd:=TKd prog w) hu ib hm hp ⟨Kp.tok _ _,rp⟩,"dict",_,hm.typeIs,slot_dict_getitem.lookup⟩
 | _=>exact ak he
end
end Mine
namespace Mine
open PySem PySem.SeqAt

section
variable {prog:Program} {w:World} {A:Around} {E:Value→Shared→Prop} {s:Shared} {H H':Addr→Prop}

theorem mo{T:String}{C:String→Prop}(h:T="str"∨T="bool"∨T="int"∨T="tuple"∨T="list")(h1:C "str")(h2:C "bool")(h3:C "int")(h4:C "tuple")(h5:C "list"):C T:=
 h.elim (fun e=>e▸h1) fun h=>h.elim (fun e=>e▸h2) fun h=>h.elim (fun e=>e▸h3) fun h=>h.elim (fun e=>e▸h4) fun e=>e▸h5
theorem isi_snd{x:Value}{a:D}{T:String}{t:Bool}(hx:Rep w.params s.heap H x a)(he:kT a T=some t) :
  wpAny (model prog w) A (call (.builtin "isinstance") [x,.type T]) (aZ w s H (.bool t)) E s:=by
 unfold kT at he
 refine bQ he fun hT he=>?_
 cases a with
 | bool b=>exact Option.some.inj he▸hx.boolE (mo (C:=fun T=>wpAny (model prog w) A (call (.builtin "isinstance") [.bool b,.type T]) (aZ w s H (.bool (T == "int"||T == "bool"))) E s) hT (IsiPair.bool_str bO) (IsiPair.bool_bool fK) (IsiPair.bool_int fK) (IsiPair.bool_tuple bO) (IsiPair.bool_list bO))
 | int i=>exact Option.some.inj he▸hx.intE fun u=>mo (C:=fun T=>wpAny (model prog w) A (call (.builtin "isinstance") [.int i u,.type T]) (aZ w s H (.bool (T == "int"))) E s) hT (IsiPair.int_str bO) (IsiPair.int_bool bO) (IsiPair.int_int fK) (IsiPair.int_tuple bO) (IsiPair.int_list bO)
 | str x=>exact Option.some.inj he▸hx.strE fun u=>mo (C:=fun T=>wpAny (model prog w) A (call (.builtin "isinstance") [.str x u,.type T]) (aZ w s H (.bool (T == "str"))) E s) hT (IsiPair.str_str fK) (IsiPair.str_bool bO) (IsiPair.str_int bO) (IsiPair.str_tuple bO) (IsiPair.str_list bO)
 | tup ds=>exact Option.some.inj he▸hx.tupE fun a vs n ho _ _ _=>mo (C:=fun T=>wpAny (model prog w) A (call (.builtin "isinstance") [.ref a,.type T]) (aZ w s H (.bool (T == "tuple"))) E s) hT (IsiPair.tuple_str ho rfl bO) (IsiPair.tuple_bool ho rfl bO) (IsiPair.tuple_int ho rfl bO) (IsiPair.tuple_tuple ho rfl fK) (IsiPair.tuple_list ho rfl bO)
 | list ds=>exact Option.some.inj he▸hx.listE fun a vs n ho _ _ _=>mo (C:=fun T=>wpAny (model prog w) A (call (.builtin "isinstance") [.ref a,.type T]) (aZ w s H (.bool (T == "list"))) E s) hT (IsiPair.list_str ho rfl bO) (IsiPair.list_bool ho rfl bO) (IsiPair.list_int ho rfl bO) (IsiPair.list_tuple ho rfl bO) (IsiPair.list_list ho rfl fK)
 | _=>exact ak he

noncomputable def sq:List String:=["len","isinstance","sum","max","min","sorted"]
noncomputable def cJ(f:String):Value:=cond (sq.contains f) (.builtin f) (.type f)

theorem natAbs_log2{i:Int}(h:-mJ<i∧i<mJ):i.natAbs.log2<1920:=by
 have h2:=no (Int.natCast_pow 10 100) h
 by_cases h3:i.natAbs=0
 ·rw[h3];decide
 ·exact (Nat.log2_lt h3).mpr (Nat.lt_trans h2 (by decide +kernel))

theorem len_snd{x:Value}{a d:D}(hx:Rep w.params s.heap H x a)(he:lenD a=some d):wpAny (model prog w) A (call (.builtin "len") [x]) (aZ w s H d) E s:=by
 cases a with
 | str x=>exact aV he fun hc e=>e▸hx.strE fun _=>PyProof.Rows.len_str (Int.not_le.mpr (mU hc)) fw
 | tup ds=>exact Option.some.inj he▸hx.tupE fun a vs n ho _ hl hr=>hr.size▸PyProof.Rows.len_tuple (dP ho) (hr.size.symm▸mU hl) fw
 | list ds=>exact Option.some.inj he▸hx.listE fun a vs n ho _ hl hr=>hr.size▸PyProof.Rows.len_list (aR ho) (hr.size.symm▸mU hl) fw
 | _=>exact ak he
theorem pV(s:Shared)(o:Obj)(t:Nat)(d:Drawn):bj s { s with heap:=s.heap.push o,toks:=t,drawn:=d }:=.mk _ _ _ fun _ _ e=>Heap.gt_push_of_some _ e
theorem bltI_snd{f:String}{i:Int}{t:Tok}{d:D}(hH:Ex s.heap H)(he:bltI f i=some d):wpAny (model prog w) A (call (cJ f) [.int i t]) (aZ w s H d) E s:=
 b0 he (fun hf he=>aV he fun hc e=>hf▸e▸call_range_1 ⟨pV _ _ _ _,.mk (IsRange.new _ _ _ _ _ _ _) hH.fresh ⟨hc.2.1,hc.2.2,hc.1⟩⟩)
  fun _ he=>bQ he fun hf he=>aV he fun hc e=>hf▸e▸P.str_of_int (natAbs_log2 hc) l7
theorem bltI2_snd{f:String}{i j:Int}{t u:Tok}{d:D}(hh:A.handled=none)(hH:Ex s.heap H)(he:bltI2 f i j=some d):wpAny (model prog w) A (call (cJ f) [.int i t,.int j u]) (aZ w s H d) E s:=by
 refine b0 he (fun hf he=>aV he fun hc e=>hf▸e▸call_range_2 ⟨pV _ _ _ _,.mk (IsRange.new _ _ _ _ _ _ _) hH.fresh ⟨hc.2.1,hc.2.2,hc.1⟩⟩)
  fun _ he=>b0 he (fun hf he=>hf▸Option.some.inj he▸max_two_ints hh fun h' tk hk=>?_) fun _ he=>aV he fun hf e=>hf▸e▸min_two_ints hh fun h' tk hk=>?_
 ·split <;> exact⟨.mk h' tk _ (Heap.gt_up hk),.mk _⟩
 ·split <;> exact⟨.mk h' tk _ (Heap.gt_up hk),.mk _⟩
theorem ints_rep{P:Params}{h:Heap}{vs:List Value}{ds:List D}{k:Int}(r:aq P h H vs ds)(e:kr ds=some k):∃ xs:List (Int×Tok),vs=xs.map (fun p=>.int p.1 p.2)∧(xs.map (·.1)).sum=k:=by
 induction ds generalizing vs k with
 | nil=>exact⟨[],r,Option.some.inj e⟩
 | cons d ds ih=>
  refine dg.rec (motive:=fun vs _=>∃ xs:List (Int×Tok),vs=xs.map (fun p=>.int p.1 p.2)∧(xs.map (·.1)).sum=k) (fun {v vs} hv hr=>?_) r
  cases d with
  | int i=>exact Rep.intE (C:=fun v=>∃ xs:List (Int×Tok),v::vs=xs.map (fun p=>.int p.1 p.2)∧(xs.map (·.1)).sum=k) hv fun t=>bh e fun k' e' q=>(ih hr e').elim fun xs z=>⟨(i,t)::xs,congrArg _ z.1,by rw[List.map_cons,List.sum_cons,z.2];exact q⟩
  | _=>exact ak e
theorem preSum_sum(xs:List (Int×Tok)):preSum (numAt xs.toArray) xs.toArray.size=(xs.map (·.1)).sum:=by
 rw[preSum_eq,List.take_of_length_le (by simp)]
theorem sum_snd{a:Addr}{vs:Array Value}{n:Nat}{ds:List D}{k:Int}(hh:A.handled=none)(ho:s.heap.get? a=some (eG vs n))(hr:aq w.params s.heap H vs.toList ds)(he:kr ds=some k):wpAny (model prog w) A (call (.builtin "sum") [.ref a]) (aZ w s H (.int k)) E s:=by
 refine (ints_rep hr he).elim fun xs q=>?_
 have e3:vs=intItems xs.toArray:=by
  apply Array.toList_inj.mp
  rw[q.1];simp[intItems]
 refine sum_intListG (xs:=xs.toArray) hh (e3▸aR ho) fun h' tk t' hk=>?_
 rw[preSum_sum,q.2]
 exact⟨.mk h' tk _ (Heap.gt_up hk),.mk _⟩
theorem tupL_snd{x:Value}{ds:List D}(hx:Rep w.params s.heap H x (.list ds))(hH:Ex s.heap H):wpAny (model prog w) A (call (.type "tuple") [x]) (aZ w s H (.tup ds)) E s:=
 hx.listE fun a vs n ho hn hl hr=>call_tuple_list (aR ho) (fun h' hk=>have hk:=Heap.gt_up hk;⟨.mk _ _ _ fun _ _ q=>Heap.gt_push_of_some _ (hk _ _ q),.mk (Heap.get?_push_size _ rfl) (hH.keeps hk).fresh hl (hr.keeps fun _ _ q=>Heap.gt_push_of_some _ (hk _ _ q))⟩) (hr.size.symm▸hl)
theorem blt1_snd{f:String}{x:Value}{a d:D}(hh:A.handled=none)(hx:Rep w.params s.heap H x a)(hH:Ex s.heap H)(he:eZ f [a]=some d):wpAny (model prog w) A (call (cJ f) [x]) (aZ w s H d) E s:=by
 refine b0 (c:=f="len") he (fun hf he=>hf▸len_snd hx he) fun _ he=>?_
 cases a with
 | int i=>exact hx.intE fun _=>bltI_snd hH he
 | bool b=>exact aV he fun hf e=>hf▸e▸hx.boolE (call_int_bool fw)
 | str x=>exact aV he fun hf e=>hf▸e▸hx.strE fun _=>P.str_of_str ⟨Kp.refl _,.mk _⟩
 | list ds=>exact b0 he (fun hf e=>hf▸Option.some.inj e▸tupL_snd hx hH) fun _ he=>bQ he fun hf he=>bh he fun k hk e=>hf▸e▸hx.listE fun a vs n ho hn hl hr=>sum_snd hh ho hr hk
 | _=>exact ak he
theorem blt_snd{f:String}{xs:List Value}{as:List D}{d:D}(hh:A.handled=none)(hx:aq w.params s.heap H xs as)(hH:Ex s.heap H)(he:eZ f as=some d) :
  wpAny (model prog w) A (call (cJ f) xs) (aZ w s H d) E s:=by
 cases as with
 | nil=>exact ak he
 | cons a as=>exact dg.rec (motive:=fun xs _=>wpAny (model prog w) A (call (cJ f) xs) (aZ w s H d) E s) (fun {v vs} h1 h2=>by
   cases as with
   | nil=>rw[show vs=[] from h2];exact blt1_snd hh h1 hH he
   | cons b as=>exact dg.rec (motive:=fun vs _=>wpAny (model prog w) A (call (cJ f) (v::vs)) (aZ w s H d) E s) (fun {u us} h4 h3=>by
     cases as with
     | nil=>rw[show us=[] from h3];exact cL (C:=fun a=>Rep w.params s.heap H v a→_) he (fun i he h1=>cL (C:=fun b=>Rep w.params s.heap H u b→_) he (fun j he h4=>h1.intE fun _=>h4.intE fun _=>bltI2_snd hh hH he) h4) h1
     | cons=>exact ak he) h2) hx
theorem reps_keys{P:Params}{h:Heap}{vs:List Value}{cs:List CK}(hl:vs.length=cs.length)(hv:∀ (j:Nat) (v:Value),vs[j]?=some v→∃ k,cs[j]?=some k∧CK.is k v=true):aq P h H vs (cs.map aX):=by
 induction cs generalizing vs with
 | nil=>exact List.eq_nil_of_length_eq_zero hl
 | cons c cs ih=>cases vs with
  | nil=>cases hl
  | cons v vs=>exact .mk ((hv 0 v rfl).elim fun k q=>sg (Option.some.inj q.1▸q.2)) (ih (Nat.succ.inj hl) fun j v' e=>hv (j+1) v' e)
theorem lst_snd{x:Value}{a:D}{ds:List D}(hh:A.handled=none)(hx:Rep w.params s.heap H x a)(hH:Ex s.heap H)(he:n0 a=some ds) :
  wpAny (model prog w) A (call (.type "list") [x]) (bI w s H (.list ds) true) E s:=by
 cases a with
 | tup es=>exact Option.some.inj he▸hx.tupE fun a vs n ho hn hl hr=>call_list_seq _ (.inr rfl) ho rfl rfl (fun h' c' hk hD=>gB hH hl hr (Heap.gt_up hk) hD) (hr.size.symm▸hl)
 | list es=>exact Option.some.inj he▸hx.listE fun a vs n ho hn hl hr=>call_list_seq _ (.inl rfl) ho rfl rfl (fun h' c' hk hD=>gB hH hl hr (Heap.gt_up hk) hD) (hr.size.symm▸hl)
 | dict ks vs=>
  refine aV he fun hc e=>e▸?_
  have hlk:ks.length≤big:=lQ.rec (motive:=fun _ _=>ks.length≤big) (fun _ _ hl _ _ _ _ _ _=>hl) hx
  refine iR (prog:=prog) hx hc fun a es n cs ek ho hD hv hs hl _=>?_
  obtain⟨ep,hm⟩:=hD.dictAt
  have el:(cs.zip (es.toList.map (·.val))).length=cs.length:=by rw[List.length_zip,← hl,Nat.min_self]
  have ekl:ks.length=cs.length:=by rw[ek,List.length_map]
  refine PySem.W.kdl_call (PySem.W.kdl_dict hs) hh hm (by rw[el,← ekl];exact Nat.le_trans hlk (by decide)) fun h' tk acc' c' hk hD hacc=>?_
  exact gB hH hlk (ek▸reps_keys (by rw[Array.length_toList,hacc.1,el]) fun j v e=>(hacc.2 j v (by rw[← Array.getElem?_toList];exact e)).elim fun k q=>q.elim fun x q=>⟨k,(List.getElem?_zip_eq_some.mp q.1).1,q.2⟩) (Heap.gt_up hk) hD
 | _=>exact ak he
end
end Mine
namespace Mine
open PySem PySem.SeqAt
section
variable {prog:Program} {w:World} {A:Around} {E:Value→Shared→Prop} {s:Shared}
theorem iter_keys{d:Addr}{es:Array DictEntry}{ep:Nat}{Q:Value→Shared→Prop}(hd:(d == sysModules)=false)(ho:s.heap.get? d=some (jR es ep))
  (hQ:Q (.ref s.heap.objs.size) { s with heap:=s.heap.push { cls:=.type "dict_keyiterator",data:=.fields #[.ref d,.int 0 0,.int es.size 0,.int ep 0] } }):wpAny (model prog w) A (pyIter (.ref d)) Q E s:=by
 have hT:s.TypeIs (.ref d) "dict":=⟨_,ho,rfl⟩
 refine wpAny_pyIter_slot hT F.slot_dict_iter (wpAny_call_entry F.slot_dict_iter hT F.entry_dict_iter ?_ (F.args_dict_iter_1 _))
 unfold Builtin.«dict.__iter__» Builtin.Dict.dictSlotNone Builtin.Dict.showsAll
 refine wpAny_bind (wpAny_bind (wpAny_notOrdered_dict hT (wpAny_pure ?_)))
 refine wpAny_bind (wpAny_pure ?_)
 dsimp only
 rw[if_neg (by rw[hd];exact Bool.false_ne_true)]
 refine wpAny_bind (wpAny_pure (wpAny_bind (wpAny_dictEntries ho rfl (wpAny_bind (wpAny_dictEpoch ho rfl ?_)))))
 exact wpAny_bind (wpAny_newObj_type (wpAny_pure ⟨_,rfl,"dict_keyiterator",_,⟨_,Heap.get?_push_size _ rfl,rfl⟩,F.slot_dict_keyiterator_next.lookup,hQ⟩))
theorem mf{it d:Addr}{i ep:Nat}{es:Array DictEntry}{Q:Option Value→Shared→Prop}(hh:A.handled=none)(hit:s.heap.IsKeyIter it d i es.size ep)(hod:s.heap.get? d=some (jR es ep))
  (h1:∀ (hi:i<es.size) h',h'.IsKeyIter it d (i+1) es.size ep→Heap.SameBut it s.heap h'→Q (some es[i].key) { s with heap:=h' })
  (h2:es.size≤i→∀ h',Heap.ExtBut it s.heap h'→Q none { s with heap:=h' }):wpAny (model prog w) A (pyNext (.ref it)) Q E s:=by
 obtain⟨o,ho,hc,hd⟩:=id hit
 unfold pyNext
 refine wpAny_bind (wpAny_attempt (wpAny_callSpecial?_slot (name:=Str.ofString "__next__") hit.typeIs F.slot_dict_keyiterator_next
  (wpAny_call_entry F.slot_dict_keyiterator_next hit.typeIs F.entry_dict_keyiterator_next ?_ (F.args_dict_keyiterator_next_1 _))))
 refine wpAny_bind (wpAny_pure (wpAny_bind (wpAny_bind ?_)))
 first | refine wpAny_bind (wpAny_typeNameOfWhole_keyiter hit.typeIs (wpAny_pure ?_)) | refine wpAny_bind (wpAny_typeNameOf_keyiter hit.typeIs (wpAny_pure ?_))
 refine wpAny_bind (wpAny_fieldsOf ho hd ?_)
 have hown:Builtin.Dict_items.ownsTuple "dict_keyiterator"=false:=by decide
 simp only[hown,Bool.false_eq_true,if_false]
 show wpAny _ _ (if (Value.ref d == Value.none)=true then _ else _) _ _ s
 rw[if_neg (show ¬ ((Value.ref d == Value.none)=true) from Bool.false_ne_true)]
 refine wpAny_bind (wpAny_pure (wpAny_bind (wpAny_dictEntries hod rfl ?_)))
 rw[if_neg (by simp)]
 refine wpAny_bind (wpAny_pure (wpAny_bind (wpAny_dictEpoch hod rfl ?_)))
 rw[if_neg (by simp)]
 refine wpAny_pure ?_
 by_cases hlt:i<es.size
 ·simp only[show ¬ ((i:Int)<0) from by omega,if_false,Int.toNat_natCast,Array.getElem?_eq_getElem hlt]
  refine wpAny_bind ?_
  first | refine wpAny_bind (wpAny_typeNameOfWhole_keyiter hit.typeIs (wpAny_pure ?_)) | refine wpAny_bind (wpAny_typeNameOf_keyiter hit.typeIs (wpAny_pure ?_))
  refine wpAny_bind (wpAny_isOneOf_keyiter hit.typeIs ?_)
  show wpAny _ _ (setField (.ref it) 1 (rawInt ((i:Int)+1)) >>= _) _ _ s
  refine wpAny_bind (wpAny_setField ho hd (by simp) ?_)
  have hit':(s.heap.update it (Obj.mapFields (·.setIfInBounds 1 (rawInt ((i:Int)+1))))).IsKeyIter it d (i+1) es.size ep:=
   ⟨_,Heap.get?_update_self _ ho (Obj.isFreed_of_fields (Obj.data_mapFields hd _)),(Obj.cls_mapFields ..).trans hc,by rw[Obj.data_mapFields hd];simp[rawInt]⟩
  refine wpAny_bind (wpAny_holding ?_)
  refine wpAny_bind (wpAny_isOneOf_keyiter (s:={ s with heap:=s.heap.update it (Obj.mapFields (·.setIfInBounds 1 (rawInt ((i:Int)+1)))) }) hit'.typeIs ?_)
  show wpAny _ _ (pure es[i].key) _ _ _
  exact wpAny_pure (wpAny_pure ⟨_,rfl,wpAny_pure (h1 hlt _ hit' (Heap.SameBut.update ..))⟩)
 ·have hge:es.size≤i:=by omega
  simp only[show ¬ ((i:Int)<0) from by omega,if_false,Int.toNat_natCast,Array.getElem?_eq_none hge]
  refine wpAny_bind ?_
  first | refine wpAny_bind (wpAny_typeNameOfWhole_keyiter hit.typeIs (wpAny_pure ?_)) | refine wpAny_bind (wpAny_typeNameOf_keyiter hit.typeIs (wpAny_pure ?_))
  show wpAny _ _ (setField (.ref it) 0 .none >>= _) _ _ s
  refine wpAny_bind (wpAny_setField ho hd (by simp) ?_)
  show wpAny _ _ (newExc (.type "StopIteration") [] >>= _) _ _ _
  refine wpAny_bind ?_
  simp only[newExc,newTuple]
  refine wpAny_bind (wpAny_newObj_type ?_ (by size_fits))
  refine wpAny_bind (m:=firstArgMember _ _) (wpAny_of_eq (a:=Value.none) (by first | rfl | (simp only[firstArgMember];rfl)) ?_)
  refine wpAny_newObj_type ?_ (by size_fits)
  simp only[raiseNew]
  refine wpAny_bind (wpAny_handled ?_)
  rw[show A.in1.handled=none from hh]
  refine wpAny_bind (wpAny_pure (wpAny_throw ?_))
  refine wpAny_bind (wpAny_isInstance (T:="StopIteration") (b:=true) ⟨_,Heap.get?_push_size _ rfl,rfl⟩ isSubtype_stop ?_)
  exact wpAny_pure (h2 hge _ (((Heap.SameBut.update ..).extBut.push _).push _))
theorem walks_keys(hh:A.handled=none)(I d:Addr)(hne:d≠I)(es:Array DictEntry)(ep:Nat) :
  Walks prog w A I [I,d] [I] es.size (fun i v=>(es.toList.map (·.key))[i]?=some v) (fun i h=>h.IsKeyIter I d i es.size ep∧h.get? d=some (jR es ep)) where
 sub:=fun b hb=>by simp at hb;simp[hb]
 frame:=fun _ _ _ st hk=>⟨st.1.at fun o e=>hk I (by simp) o e,hk d (by simp) _ st.2⟩
 item:=fun i s Q E hi st hQ=>mf hh st.1 st.2 (fun _ h' hit' hs'=>hQ _ h' s.toks (by simp[hi]) ⟨hit',(hs'.2 d hne).trans st.2⟩ fun b o hb e=>hs'.extBut b o (fun h=>hb (by simp[h])) e) fun h=>absurd hi (by omega)
 done:=fun s Q E st hQ=>mf hh st.1 st.2 (fun hi=>absurd hi (Nat.lt_irrefl _)) fun _ h' he'=>hQ h' s.toks fun b o hb e=>he' b o (fun h=>hb (by simp[h])) e
 self:=fun _ _ _ _ st hQ=>wpAny_pyIter_keyiter st.1 hQ
end
end Mine
namespace Mine
open PySem PySem.SeqAt

section
variable {prog:Program} {w:World} {A:Around} {E:Value→Shared→Prop} {s:Shared} {H H':Addr→Prop}

inductive mF(prog:Program)(w:World)(A:Around)(h:Heap)(H:Addr→Prop)(its:List D)(I:Addr)(h₂:Heap):Prop
 | mk {fp P St} (W:Walks prog w A I fp [I] its.length P St) (st:St 0 h₂) (fpo:∀ b∈fp,b=I∨(¬ H b∧∃ o,gat h b=some o)) (item:∀ i v,i<its.length→P i v→∃ d,its[i]?=some d∧Rep w.params h H v d) (live:∀ i h,St i h→∃ o,gat h I=some o) (tab:∀ b∈fp,∀ i h o,St i h→h.get? b=some o→a8 o=false)
structure IterAt(prog:Program)(w:World)(A:Around)(s₁:Shared)(H:Addr→Prop)(its:List D)(I:Addr)(s₂:Shared):Prop where
 keeps:bj s₁ s₂
 fresh:gat s₁.heap I=none
 ex:∃ o,gat s₂.heap I=some o
 walk:mF prog w A s₁.heap H its I s₂.heap
inductive lI(prog:Program)(w:World)(A:Around)(s:Shared)(H:Addr→Prop)(its:List D):Value→Shared→Prop
 | mk {I s₂} (q:IterAt prog w A s H its I s₂):lI prog w A s H its (.ref I) s₂

theorem cQ{I:Addr}{fp ch:List Addr}{n:Nat}{P:Nat→Value→Prop}{St:Nat→Heap→Prop}(W:Walks prog w A I fp ch n P St)(hT:∀ b∈fp,∀ i h o,St i h→h.get? b=some o→a8 o=false)
  (i:Nat) (h h':Heap) (st:St i h) (hk:∀ b∈fp,∀ o,gat h b=some o→gat h' b=some o):St i h':=
 W.frame i h h' st fun b hb o e=>Heap.of_gt (hk b hb o (Heap.gt_of e (hT b hb i h o st e))) (hT b hb i h o st e)
theorem gu{I:Addr}{fp:List Addr}{n:Nat}{P:Nat→Value→Prop}{St:Nat→Heap→Prop}(W:Walks prog w A I fp [I] n P St)(hT:∀ b∈fp,∀ i h o,St i h→h.get? b=some o→a8 o=false)
  {i:Nat} {h h':Heap} (st:St i h) (hk:∀ b o,b ∉ [I]→h.get? b=some o→h'.get? b=some o):∀ b o,b ∉ [I]→gat h b=some o→gat h' b=some o:=
 Heap.gt_lift (fun b o e ht q=>by rw[hT b (W.sub b q) i h o st e] at ht;cases ht) hk

theorem d4{α:Type}{a b x:α}{C:Prop}(h:x∈[a,b])(h1:x=a→C)(h2:x=b→C):C:=(List.mem_cons.mp h).elim h1 fun h=>h2 (List.mem_singleton.mp h)
theorem cS{o:Obj}{T:String}(h:o.cls=.type T)(hT:T≠"code"):a8 o=false:=notTab_cls (by rw[h];nofun) fun e=>hT (Value.type.inj (h.symm.trans e))
theorem ed{h:Heap}{a:Addr}{o o':Obj}(e:h.get? a=some o)(e':h.get? a=some o')(ht:a8 o=false):a8 o'=false:=Option.some.inj (e.symm.trans e')▸ht
theorem p5{P:Params}{h:Heap}{vs:Array Value}{ds:List D}(hr:aq P h H vs.toList ds){i:Nat}{v:Value}(hi:i<ds.length)(hv:vs[i]?=some v):∃ d,ds[i]?=some d∧Rep P h H v d:=
 (hr.get i (List.getElem?_eq_getElem hi)).elim fun v' q=>⟨_,List.getElem?_eq_getElem hi,Option.some.inj (q.1.symm.trans (Array.getElem?_toList.trans hv))▸q.2⟩
theorem n6{T T':String}{a I:Addr}{mkO:Array Value→Nat→Obj}{vs:Array Value}{n:Nat}{ds:List D}{h h₂:Heap}{P:Nat→Value→Prop}{St:Nat→Heap→Prop}(W:Walks prog w A I [I,a] [I] vs.size P St)(st:St 0 h₂)(hr:aq w.params h H vs.toList ds)(ho:h.get? a=some (mkO vs n))(ht:a8 (mkO vs n)=false)(hn:¬ H a)
  (hP:∀ i v,P i v→vs[i]?=some v) (h1:∀ i h,St i h→∃ o,h.get? I=some o∧o.cls=.type T) (h2:∀ i h,St i h→∃ o,h.get? a=some o∧o.cls=.type T') (hT:T≠"code") (hT':T'≠"code"):mF prog w A h H ds I h₂:=
 ⟨hr.size▸W,st,fun b hb=>d4 hb .inl fun e=>.inr (e▸⟨hn,_,Heap.gt_of ho ht⟩),fun i v hi hv=>p5 hr hi (hP i v hv),fun i h st=>(h1 i h st).elim fun o q=>⟨o,Heap.gt_of q.1 (cS q.2 hT)⟩,
  fun b hb i h o st e=>d4 hb (fun q=>(h1 i h st).elim fun o' z=>ed (q▸z.1) e (cS z.2 hT)) fun q=>(h2 i h st).elim fun o' z=>ed (q▸z.1) e (cS z.2 hT')⟩
theorem iter_rng{lo hi:Int}{x:Value}(hx:Rep w.params s.heap H x (.rng lo hi))(hh:A.handled=none):wpAny (model prog w) A (pyIter x) (lI prog w A s H ((List.range (hi - lo).toNat).map fun (i:Nat)=>D.int (lo+(i:Int)))) E s:=
 RRng.rec (motive:=fun x _=>wpAny (model prog w) A (pyIter x) (lI prog w A s H ((List.range (hi - lo).toNat).map fun (i:Nat)=>D.int (lo+(i:Int)))) E s) (fun {a t u v} hr hn hl=>by
  have hsm:Builtin.Range.small lo hi 1=true:=by
   unfold big at hl;exact small_one (by omega) (by omega) (by omega) (by omega)
  have hsz:Builtin.Range.rangeSize lo hi 1=((hi - lo).toNat:Int):=by
   rw[rangeSize_one];split <;> omega
  have hlen:((List.range (hi - lo).toNat).map fun (i:Nat)=>D.int (lo+(i:Int))).length=(hi - lo).toNat:=by rw[List.length_map,List.length_range]
  refine wpAny_pyIter_range hr hsm ⟨Kp.push _ _,b9 _,⟨_,Heap.gt_push_size _ rfl⟩,hlen.symm▸Walks.range hh s.heap.objs.size lo 1 (hi - lo).toNat,?ga,fun b hb=>.inl (List.mem_singleton.mp hb),fun i v hi q=>q.elim fun t e=>⟨.int (lo+i),?gb,?gc⟩,fun i h e=>⟨_,Heap.gt_of e⟩,fun b hb i h o e1 e=>?gd⟩
  case ga=>
   show Heap.get? _ _=_
   rw[Heap.get?_push_size _ rfl,hsz]
   simp[rawInt]
  case gb=>
   rw[hlen] at hi
   rw[List.getElem?_map,List.getElem?_range hi];rfl
  case gc=>
   rw[e,Int.mul_one]
   exact .mk _
  case gd=>
   rw[List.mem_singleton.mp hb] at e
   exact ed e1 e rfl) hx
theorem kR{x:Value}{d:D}{its:List D}(hx:Rep w.params s.heap H x d)(hh:A.handled=none)(he:d.items=some its) :
  wpAny (model prog w) A (pyIter x) (lI prog w A s H its) E s:=by
 cases d with
 | tup ds=>exact Option.some.inj he▸hx.tupE fun a vs n ho hn hl hr=>wpAny_pyIter_tuple (cO ho) ⟨Kp.push _ _,b9 _,⟨_,Heap.gt_push_size _ rfl⟩,n6 (T:="tuple_iterator") (T':="tuple") (mkO:=cV) (Walks.tuple hh s.heap.objs.size a (Nat.ne_of_lt (Heap.lt_size ho)) vs) ⟨⟨_,Heap.get?_push_size _ rfl,rfl,rfl⟩,(cO ho).push _⟩ hr ho rfl hn (fun _ _ h=>h)
   (fun i h st=>st.1.elim fun o q=>⟨o,q.1,q.2.1⟩) (fun i h st=>st.2.elim fun o q=>⟨o,q.1,q.2.1⟩) (by decide) (by decide)⟩
 | list ds=>exact Option.some.inj he▸hx.listE fun a vs n ho hn hl hr=>wpAny_pyIter_list (aR ho) ⟨Kp.push _ _,b9 _,⟨_,Heap.gt_push_size _ rfl⟩,n6 (T:="list_iterator") (T':="list") (mkO:=eG) (Walks.list hh s.heap.objs.size a (Nat.ne_of_lt (Heap.lt_size ho)) vs) ⟨⟨_,Heap.get?_push_size _ rfl,rfl,rfl⟩,(aR ho).push _⟩ hr ho rfl hn (fun _ _ h=>h)
   (fun i h st=>st.1.elim fun o q=>⟨o,q.1,q.2.1⟩) (fun i h st=>st.2.elim fun o q=>⟨o,q.1,q.2.1⟩) (by decide) (by decide)⟩
 | dict ks vs=>
  refine Option.some.inj he▸lQ.rec (motive:=fun x _=>wpAny (model prog w) A (pyIter x) (lI prog w A s H ks) E s) (fun {a es n} ho hn hl h1 h2 hh' hk hd hs=>?_) hx
  have e:es.size=ks.length:=by have:=h1.length;rwa [List.length_map,Array.length_toList] at this
  refine iter_keys hs ho ⟨Kp.push _ _,b9 _,⟨_,Heap.gt_push_size _ rfl⟩,e▸walks_keys hh s.heap.objs.size a (Nat.ne_of_lt (Heap.lt_size ho)) es n,⟨⟨_,Heap.get?_push_size _ rfl,rfl,by rw[← e];rfl⟩,Heap.get?_push_of_some _ ho⟩,
   fun b hb=>d4 hb .inl fun e=>.inr (e▸⟨hn,_,Heap.gt_of ho⟩),fun i v hi hv=>(h1.get i (List.getElem?_eq_getElem hi)).elim fun v' q=>⟨_,List.getElem?_eq_getElem hi,Option.some.inj (q.1.symm.trans (show (es.toList.map (·.key))[i]?=some v from hv))▸q.2⟩,
   fun i h st=>st.1.elim fun o q=>⟨o,Heap.gt_of q.1 (cS q.2.1 (by decide))⟩,fun b hb i h o st e=>d4 hb (fun q=>st.1.elim fun o' z=>ed (q▸z.1) e (cS z.2.1 (by decide))) fun q=>ed (q▸st.2) e rfl⟩
 | rng lo hi=>exact Option.some.inj he▸iter_rng hx hh
 | _=>exact ak he
end
end Mine
namespace Mine
open PySem PySem.SeqAt

structure AOk(A:Around)(n:Nat):Prop where
 handled:A.handled=none
 depth:A.depth+2 * n+20<recursionLimit
 units:A.units+13 * n+100<cLine
structure oR(A A':Around):Prop where
 handled:A'.handled=A.handled
 depth:A'.depth≤A.depth+1
 units:A'.units≤A.units+10
structure np(A:Around):Prop where
 units:A.units+20<cLine
 depth:A.depth+2<recursionLimit
theorem np.u1{A:Around}(r:np A):A.units+1<cLine:=Nat.lt_of_le_of_lt (Nat.add_le_add_left (by decide) _) r.units
theorem oR.refl(A:Around):oR A A:=⟨rfl,Nat.le_succ _,Nat.le_add_right _ _⟩

structure a7(h:Heap)(env:Env)(m:Str→Option Value):Prop where
 kind:env.scope.kind=.function
 glob:env.globals=mainGlobals
 blt:env.builtins=builtinsNs
 loc:∃ ml,h.Ns env.locals ml∧∀ x,env.kindOf x=some .local→ml x=m x
 cell:∀ x,env.kindOf x=some .cell∨env.kindOf x=some .free→∃ c,env.cells.lookup x=some c∧h.IsCell c (m x)
 inj:∀ x y c,env.cells.lookup x=some c→env.cells.lookup y=some c→x=y
 off:∀ x c,env.cells.lookup x=some c→c≠env.locals
 ex:∀ x c,env.cells.lookup x=some c→∃ o,gat h c=some o
 lam:jf env.kindOf=true→env.code=.ref oc∧env.qual=lamP

theorem Ns.keepAt{h h':Heap}{a:Addr}{m:Str→Option Value}(hn:h.Ns a m)(hk:∀ o,gat h a=some o→gat h' a=some o):h'.Ns a m:=
 let ⟨o,es,ep,ho,hd,r⟩:=hn
 have ht:a8 o=false:=bT (by rw[hd];nofun)
 ⟨o,es,ep,Heap.of_gt (hk _ (Heap.gt_of ho ht)) ht,hd,r⟩
theorem Cell.keepAt{h h':Heap}{a:Addr}{v:Option Value}(hn:h.IsCell a v)(hk:∀ o,gat h a=some o→gat h' a=some o):h'.IsCell a v:=
 let ⟨o,ho,hd⟩:=hn
 have ht:a8 o=false:=bT (by rw[hd];nofun)
 ⟨o,Heap.of_gt (hk _ (Heap.gt_of ho ht)) ht,hd⟩

theorem a7.keeps{h h':Heap}{env:Env}{m:Str→Option Value}(R:a7 h env m)(hk:KH h h'):a7 h' env m where
 kind:=R.kind
 glob:=R.glob
 blt:=R.blt
 loc:=let ⟨ml,h1,h2⟩:=R.loc;⟨ml,Ns.keepAt h1 (hk _),h2⟩
 cell:=fun x hx=>let ⟨c,h1,h2⟩:=R.cell x hx;⟨c,h1,Cell.keepAt h2 (hk _)⟩
 inj:=R.inj
 off:=R.off
 ex:=fun x c hc=>let ⟨o,ho⟩:=R.ex x c hc;⟨o,hk _ _ ho⟩
 lam:=R.lam

theorem a7.keepsAt{h h':Heap}{env:Env}{m:Str→Option Value}(R:a7 h env m)(hk:∀ a o,(a=env.locals∨∃ x,env.cells.lookup x=some a)→gat h a=some o→gat h' a=some o):a7 h' env m where
 kind:=R.kind
 glob:=R.glob
 blt:=R.blt
 loc:=let ⟨ml,h1,h2⟩:=R.loc;⟨ml,Ns.keepAt h1 fun o e=>hk _ o (.inl rfl) e,h2⟩
 cell:=fun x hx=>let ⟨c,h1,h2⟩:=R.cell x hx;⟨c,h1,Cell.keepAt h2 fun o e=>hk _ o (.inr ⟨x,h1⟩) e⟩
 inj:=R.inj
 off:=R.off
 ex:=fun x c hc=>let ⟨o,ho⟩:=R.ex x c hc;⟨o,hk _ _ (.inr ⟨x,hc⟩) ho⟩
 lam:=R.lam

section
variable {M:Model} {A:Around} {E:Value→Shared→Prop} {s:Shared}

theorem ei{env:Env}{m:Str→Option Value}{x:Str}{v:Value}{pos:Pos}{Q:Value→Shared→Prop}(R:a7 s.heap env m)(hx:eA env.kindOf x=true)(hv:m x=some v)(h:Q v s) :
  wpAny M A (eval (.Name x pos) env) Q E s:=by
 unfold eA at hx
 simp only[Bool.and_eq_true,Bool.or_eq_true,beq_iff_eq,bne_iff_ne] at hx
 obtain⟨⟨⟨hk,hd⟩,hc⟩,_⟩:=hx
 have hd':(x == ("__debug__":Str))=false:=by simpa using hd
 have hc':(x == ("__classdict__":Str))=false:=by simpa using hc
 refine wpAny_Name ?_ hd'
 rcases hk with (hk | hk) | hk
 ·obtain⟨ml,h1,h2⟩:=R.loc
  exact wpAny_loadName_local R.kind hk h1 ((h2 x hk).trans hv) h
 ·obtain⟨c,h1,h2⟩:=R.cell x (.inl hk)
  exact wpAny_loadName_cell R.kind hk h1 (hv▸h2) h
 ·obtain⟨c,h1,h2⟩:=R.cell x (.inr hk)
  exact wpAny_loadName_free R.kind hk h1 (hv▸h2) h hc'

noncomputable def upd(m:Str→Option Value)(x:Str)(v:Value):Str→Option Value:=fun y=>if y=x then some v else m y

theorem gx{env:Env}{m:Str→Option Value}{x:Str}{v:Value}{Q:Unit→Shared→Prop}(R:a7 s.heap env m)(hx:env.kindOf x=some .local∨env.kindOf x=some .cell)
  (h:∀ h' tk dw a,a7 h' env (upd m x v)→(a=env.locals∨env.cells.lookup x=some a)→Heap.SB a s.heap h'→Q () { s with heap:=h',toks:=tk,drawn:=dw }) :
  wpAny M A (storeName env x v) Q E s:=by
 rcases hx with hk | hk
 ·obtain⟨ml,h1,h2⟩:=R.loc
  refine wpAny_storeName_local hk h1 (fun h' hn hs0=>have hs:Heap.SB env.locals s.heap h':=⟨hs0,d6 h1,d6 hn⟩;h h' _ s.drawn env.locals ⟨R.kind,R.glob,R.blt,⟨_,hn,fun y hy=>?_⟩,fun y hy=>?_,R.inj,R.off,fun y c hc=>let ⟨o,ho⟩:=R.ex y c hc;⟨o,(hs.g c (R.off y c hc)).trans ho⟩,R.lam⟩ (.inl rfl) hs) (by rw[R.kind];rfl)
  ·unfold upd;by_cases e:y=x
   ·simp[e]
   ·simp[e,h2 y hy]
  ·obtain⟨c,h3,h4⟩:=R.cell y hy
   have hne:y≠x:=by rintro rfl;rw[hk] at hy;simp at hy
   refine⟨c,h3,?_⟩
   unfold upd;rw[if_neg hne]
   exact h4.sameBut hs.s (R.off y c h3)
 ·obtain⟨c,h3,h4⟩:=R.cell x (.inl hk)
  refine wpAny_storeName_cell R.kind hk h3 h4 fun h' hc hs0=>have hs:Heap.SB c s.heap h':=⟨hs0,fN h4,fN hc⟩;h h' s.toks s.drawn c ⟨R.kind,R.glob,R.blt,?_,fun y hy=>?_,R.inj,R.off,fun y c' hc'=>?_,R.lam⟩ (.inr h3) hs
  ·obtain⟨ml,h1,h2⟩:=R.loc
   refine⟨ml,h1.sameBut hs.s (fun e=>R.off x c h3 e.symm),fun y hy=>?_⟩
   have hne:y≠x:=by rintro rfl;rw[hk] at hy;simp at hy
   unfold upd;rw[if_neg hne];exact h2 y hy
  ·obtain⟨c',h5,h6⟩:=R.cell y hy
   by_cases e:y=x
   ·subst e
    rw[h3] at h5;cases h5
    exact⟨c,h3,by simpa [upd] using hc⟩
   ·refine⟨c',h5,?_⟩
    unfold upd;rw[if_neg e]
    exact h6.sameBut hs.s fun q=>e (R.inj y x c' h5 (q▸h3))
  ·by_cases e:c'=c
   ·obtain⟨o,ho⟩:=j9 hc;exact⟨_,e▸ho⟩
   ·obtain⟨o,ho⟩:=R.ex y c' hc';exact⟨o,(hs.g c' e).trans ho⟩

noncomputable def et(cells:List (Str×Addr)):List (Str×NameKind)→List (Str×Addr)→List (Str×Addr)
 | [],acc=>acc
 | (n,k)::r,acc=>if k == .free then (match cells.lookup n with | some c=>et cells r ((n,c)::acc) | none=>et cells r acc) else et cells r acc

theorem ip{env:Env}(f:Str×NameKind→List (Str×Addr)→Sem (ForInStep (List (Str×Addr))))
  (hf:∀ n k cs,f (n,k) cs=if k == .free then (do let c ← cellOf env n;pure (.yield ((n,c)::cs))) else pure (.yield cs)) :
  ∀ (names:List (Str×NameKind)) (acc:List (Str×Addr)),(∀ p∈names,p.2=.free→∃ c,env.cells.lookup p.1=some c)→forIn names acc f=pure (et env.cells names acc)
 | [],acc,_=>rfl
 | (n,k)::r,acc,h=>by
  have hr:∀ p∈r,p.2=.free→∃ c,env.cells.lookup p.1=some c:=fun p hp=>h p (List.mem_cons_of_mem _ hp)
  rw[List.forIn_cons,hf]
  unfold et
  by_cases hk:(k == NameKind.free)=true
  ·obtain⟨c,hc⟩:=h (n,k) List.mem_cons_self (by simpa using hk)
   rw[if_pos hk,if_pos hk]
   unfold cellOf
   simp only at hc
   rw[hc]
   simp only[pure_bind]
   exact ip f hf r _ hr
  ·rw[if_neg hk,if_neg hk,pure_bind]
   exact ip f hf r _ hr

theorem gT{env:Env}{scope:Scope}(h:∀ p∈scope.names,p.2=.free→∃ c,env.cells.lookup p.1=some c):closureFor scope env=pure (et env.cells scope.names []):=by
 unfold closureFor
 simp only[]
 rw[ip (env:=env) _ (fun n k cs=>by
  by_cases hk:(k == NameKind.free)=true <;> simp[hk]) scope.names [] h]
 rfl

theorem aM{α:Type}(x n:Str)(c:α)(l:List (Str×α)):((n,c)::l).lookup x=if x=n then some c else l.lookup x:=by
 rw[List.lookup_cons]
 by_cases h:x=n
 ·simp[h]
 ·have:(x == n)=false:=by simpa using h
  simp[h,this]

theorem en{cells:List (Str×Addr)}:∀ (names:List (Str×NameKind)) (acc:List (Str×Addr)),(∀ x c,acc.lookup x=some c→cells.lookup x=some c) →
  ∀ x c,(et cells names acc).lookup x=some c→cells.lookup x=some c
 | [],acc,h=>h
 | (n,k)::r,acc,h=>by
  unfold et
  split
  ·cases hc:cells.lookup n with
   | none=>exact en r acc h
   | some c=>
    refine en r _ fun x c' e=>?_
    rw[aM] at e
    split at e
    ·rename_i q;cases e;rw[q];exact hc
    ·exact h x c' e
  ·exact en r acc h

theorem iS{cells:List (Str×Addr)}:∀ (names:List (Str×NameKind)) (acc:List (Str×Addr)) (x:Str) (c:Addr),(et cells names acc).lookup x=some c→(x,NameKind.free)∈names∨acc.lookup x=some c
 | [],acc,x,c,h=>.inr h
 | (n,k)::r,acc,x,c,h=>by
  unfold et at h
  split at h
  ·rename_i hk
   have hk':k=.free:=by simpa using hk
   subst hk'
   cases hc:cells.lookup n with
   | none=>rw[hc] at h;exact (iS r acc x c h).imp (.tail _) id
   | some c'=>
    rw[hc] at h
    rcases iS r _ x c h with e | e
    ·exact .inl (.tail _ e)
    ·rw[aM] at e
     split at e
     ·rename_i q;exact .inl (q▸.head _)
     ·exact .inr e
  ·exact (iS r acc x c h).imp (.tail _) id

theorem eV{cells:List (Str×Addr)}{x:Str}{c:Addr}(hx:cells.lookup x=some c):∀ (names:List (Str×NameKind)) (acc:List (Str×Addr)),
  ((x,NameKind.free)∈names∨acc.lookup x=some c)→(et cells names acc).lookup x=some c
 | [],acc,h=>h.elim (fun e=>nomatch e) id
 | (n,k)::r,acc,h=>by
  unfold et
  split
  ·cases hc:cells.lookup n with
   | none=>
    refine eV hx r acc (h.imp (fun e=>?_) id)
    rcases List.mem_cons.mp e with e | e
    ·cases e;rw[hx] at hc;cases hc
    ·exact e
   | some c'=>
    refine eV hx r _ ?_
    rcases h with e | e
    ·rcases List.mem_cons.mp e with e | e
     ·cases e;rw[hx] at hc;cases hc
      exact .inr (by rw[aM,if_pos rfl])
     ·exact .inl e
    ·rw[aM]
     split
     ·rename_i q;rw[← q,hx] at hc;cases hc;exact .inr rfl
     ·exact .inr e
  ·rename_i hk
   refine eV hx r acc (h.imp (fun e=>?_) id)
   rcases List.mem_cons.mp e with e | e
   ·cases e;simp at hk
   ·exact e

theorem bq:∀ (names:List (Str×NameKind)) (n:Nat) (acc:List (Str×Addr)),cellsFrom n names acc=cellsFrom n names []++acc
 | [],_,_=>rfl
 | (x,k)::r,n,acc=>by
  unfold cellsFrom
  split
  ·rw[bq r (n+1) ((x,n)::acc),bq r (n+1) [(x,n)]];simp
  ·exact bq r n acc

theorem eL:∀ (names:List (Str×NameKind)) (n:Nat) (x:Str) (c:Addr),(x,c)∈cellsFrom n names []→(x,NameKind.cell)∈names∧n≤c
 | [],_,_,_,h=>nomatch h
 | (y,k)::r,n,x,c,h=>by
  unfold cellsFrom at h
  split at h
  ·rename_i hk
   rw[bq] at h
   rcases List.mem_append.mp h with h | h
   ·obtain⟨h1,h2⟩:=eL r (n+1) x c h
    exact⟨.tail _ h1,by omega⟩
   ·simp only[List.mem_cons,List.not_mem_nil,or_false,Prod.mk.injEq] at h
    obtain⟨rfl,rfl⟩:=h
    have:k=.cell:=by simpa using hk
    subst this
    exact⟨.head _,Nat.le_refl _⟩
  ·obtain⟨h1,h2⟩:=eL r n x c h
   exact⟨.tail _ h1,h2⟩

theorem dM:∀ (names:List (Str×NameKind)) (n:Nat) (x:Str),(x,NameKind.cell)∈names→∃ c,(x,c)∈cellsFrom n names []
 | (y,k)::r,n,x,h=>by
  unfold cellsFrom
  rcases List.mem_cons.mp h with e | e
  ·cases e
   simp only[beq_self_eq_true,if_true]
   rw[bq]
   exact⟨n,List.mem_append_right _ (List.mem_singleton.mpr rfl)⟩
  ·split
   ·obtain⟨c,hc⟩:=dM r (n+1) x e
    rw[bq]
    exact⟨c,List.mem_append_left _ hc⟩
   ·exact dM r n x e

theorem cN{α:Type}:∀ {l:List (Str×α)} {x:Str} {c:α},(x,c)∈l→∃ c',l.lookup x=some c'
 | (y,d)::r,x,c,h=>by
  rw[aM]
  split
  ·exact⟨_,rfl⟩
  ·rename_i hne
   rcases List.mem_cons.mp h with e | e
   ·cases e;exact absurd rfl hne
   ·exact cN e

theorem fg{α:Type}(x:Str):∀ (l l':List (Str×α)),(l++l').lookup x=(l.lookup x).or (l'.lookup x)
 | [],l'=>by simp
 | (y,c)::r,l'=>by
  rw[List.cons_append,aM,aM,fg x r l']
  split <;> simp
end
end Mine
namespace Mine
open PySem PySem.SeqAt

theorem kJ{α β:Type}(g:Str→α→β)(x:Str):∀ (l:List (Str×α)),(l.map fun p=>(p.1,g p.1 p.2)).lookup x=(l.lookup x).map (g x)
 | []=>rfl
 | (y,c)::r=>by
  rw[List.map_cons,aM,aM,kJ g x r]
  split
  ·rename_i h;subst h;rfl
  ·rfl

theorem iJ(k:KD)(scope:Scope)(x:Str):cY k scope x=(scope.names.lookup x).map fun q=>if q == .free&&k x == some .cell then .cell else q:=by
 unfold cY
 rw[← kJ (fun n q=>if q == NameKind.free&&k n == some .cell then NameKind.cell else q) x scope.names]
 congr 1
 refine List.map_congr_left fun p _=>?_
 by_cases h:(p.2 == NameKind.free&&k p.1 == some .cell)=true
 ·simp[h]
 ·simp[h]

theorem fc{env:Env}{scope:Scope}(hk:env.scope.kind=.function):(fun x=>(relabel scope env).names.lookup x)=cY env.kindOf scope:=by
 funext x
 unfold relabel cY
 simp only[hk]
 congr 1
 refine List.map_congr_left fun p _=>?_
 obtain⟨a,b⟩:=p
 simp

section
variable {M:Model} {A:Around} {E:Value→Shared→Prop} {s:Shared}
theorem newEnvA{scope:Scope}{globals:Addr}{cl:List (Str×Addr)}{qual:Str}{env:Env}{Q:Env→Shared→Prop}
  (h:Q { scope,locals:=s.heap.objs.size,globals,cells:=cellsFrom (s.heap.objs.size+1) scope.names cl,qual,func:=none,code:=env.code,frame:=env.frame,builtins:=env.builtins }
   {s with heap:=pushCells (s.heap.push { cls:=.type "dict",data:=.dict #[] }) scope.names }) :
  wpAny M A (newFunctionEnv scope globals cl [] qual none .none (some env)) Q E s:=by
 simp only[newFunctionEnv,Option.isSome_some,if_true]
 refine wpAny_bind (wpAny_alloc ?_)
 refine wpAny_bind (wpAny_layCells _ (fun name kind cells=>by cases hkc:kind == NameKind.cell <;> simp[hkc]) _ _ _ _ ?_)
 rw[show ({ s with heap:=s.heap.push { cls:=.type "dict",data:=.dict #[] } }:Shared).heap.objs.size=s.heap.objs.size+1 from Heap.size_push ..]
 exact wpAny_pure h
end

theorem jM(h:Heap)(scope:Scope)(o:Obj) :
  CellsOk (pushCells (h.push o) scope.names) (h.objs.size+1) (cellsFrom (h.objs.size+1) scope.names []):=by
 have ok:=cellsFrom_ok scope.names (h.push o) (h.objs.size+1) [] ⟨fun _ _ hm=>(nomatch hm),List.Pairwise.nil⟩ (by rw[Heap.size_push];exact Nat.le_refl _)
 rwa [Heap.size_push] at ok

theorem ie{l:List (Str×NameKind)}(hn:(l.map (·.1)).Nodup){x:Str}{k:NameKind}(h:(x,k)∈l):l.lookup x=some k:=by
 induction l with
 | nil=>nomatch h
 | cons q l ih=>
  have hn:=List.nodup_cons.mp hn
  refine (aM x q.1 q.2 l).trans ((List.mem_cons.mp h).elim (fun e=>by rw[← e,if_pos rfl]) fun e=>?_)
  rw[if_neg (show ¬ x=q.1 from fun z=>hn.1 (show q.1∈l.map (·.1) from z▸List.mem_map_of_mem (f:=(·.1)) e))]
  exact ih hn.2 e
theorem dF{names:List (Str×NameKind)}{cells:List (Str×Addr)}{n:Nat}{x:Str}{c:Addr}(hn:(names.map (·.1)).Nodup)(hc:(cellsFrom n names (et cells names [])).lookup x=some c):(x,c)∈cellsFrom n names []∨(names.lookup x=some .free∧cells.lookup x=some c):=by
 rw[bq,fg] at hc
 cases hq:(cellsFrom n names []).lookup x with
 | some c'=>rw[hq] at hc;exact .inl (Option.some.inj hc▸mem_of_lookup hq)
 | none=>
  rw[hq,Option.none_or] at hc
  exact .inr ⟨ie hn ((iS names [] _ _ hc).elim id fun q=>ak q),en names [] (fun _ _ e=>ak e) x c hc⟩
theorem fL{k:KD}{scope:Scope}{x:Str}{C:Prop}(h:fe k scope x=true)(c:scope.kind=.function→(scope.names.map (·.1)).Nodup→(scope.names.lookup x=some .local∨scope.names.lookup x=some .cell)→(∀ p∈scope.names,p.2=.free→k p.1=some .cell∨k p.1=some .free)→(∀ p∈scope.names,((p.2=.free∨p.2=.globalImplicit)∨p.1=x)∨p.1=Str.ofString ".0")→jf (cY k scope)=false→C):C:=by
 refine and6 h fun h1 h2 h3 h4 h5 h6=>c (eq_of_beq h1) (of_decide_eq_true h2) ((Bool.or_eq_true_iff.mp h3).imp eq_of_beq eq_of_beq) (fun p hp e=>?_) (fun p hp=>?_) (by simpa using h6)
 ·have q:=List.all_eq_true.mp h4 p hp
  rw[e,bne_self_eq_false,Bool.false_or] at q
  exact (Bool.or_eq_true_iff.mp q).imp eq_of_beq eq_of_beq
 ·have q:=List.all_eq_true.mp h5 p hp
  simpa only [Bool.or_eq_true,beq_iff_eq] using q
theorem own_none{names:List (Str×NameKind)}{n:Nat}{x:Str}(hn:(names.map (·.1)).Nodup)(hx:names.lookup x=some .free):(cellsFrom n names []).lookup x=none:=by
 cases hc:(cellsFrom n names []).lookup x with
 | none=>rfl
 | some c=>exact nomatch hx.symm.trans (ie hn (eL _ _ _ _ (mem_of_lookup hc)).1)
theorem kindC_free{k:KD}{scope:Scope}{x:Str}(h:scope.names.lookup x=some .free):cY k scope x≠some .local:=by
 rw[iJ,h]
 show some (if _ then _ else _)≠_
 split <;> nofun
theorem kindC_inv{k:KD}{scope:Scope}{x:Str}(h:cY k scope x=some .cell∨cY k scope x=some .free):scope.names.lookup x=some .free∨scope.names.lookup x=some .cell:=by
 rw[iJ] at h
 cases hq:scope.names.lookup x with
 | none=>rw[hq] at h;exact h.elim (fun h=>nomatch h) fun h=>nomatch h
 | some q=>
  rw[hq] at h
  have h:some (if (q == .free&&k x == some .cell)=true then NameKind.cell else q)=some .cell∨some (if (q == .free&&k x == some .cell)=true then NameKind.cell else q)=some .free:=h
  by_cases hc:(q == .free&&k x == some .cell)=true
  ·exact .inl (congrArg some (eq_of_beq (Bool.and_eq_true_iff.mp hc).1))
  ·rw[if_neg hc] at h;exact h.symm
theorem compEnv_rep{h:Heap}{env:Env}{m:Str→Option Value}{scope:Scope}{y:Str}(R:a7 h env m)(hok:fe env.kindOf scope y=true) :
  a7 (pushCells (h.push { cls:=.type "dict",data:=.dict #[] }) scope.names)
   {scope:=relabel scope env,locals:=h.objs.size,globals:=env.globals,cells:=cellsFrom (h.objs.size+1) scope.names (et env.cells scope.names []),qual:=env.qual,func:=none,code:=env.code,frame:=env.frame,builtins:=env.builtins }
   (fun x=>if scope.names.lookup x=some .free then m x else none):=by
 refine fL hok fun hkind hnd hy hfree _ hord=>?_
 have ok:=jM h scope { cls:=.type "dict",data:=.dict #[] }
 have keep:KH h (pushCells (h.push { cls:=.type "dict",data:=.dict #[] }) scope.names):=fun b o e=>Heap.gt_up (pushCells_keeps _ _) b o (Heap.gt_push_of_some _ e)
 have hk:∀ x k,(relabel scope env).names.lookup x=k→cY env.kindOf scope x=k:=fun x k e=>(congrFun (fc (scope:=scope) R.kind) x).symm.trans e
 have out_lt:∀ x c,env.cells.lookup x=some c→@LT.lt Nat _ c h.objs.size:=fun x c hc=>(R.ex x c hc).elim fun o ho=>Heap.gt_lt ho
 have own_ge:∀ x c,(x,c)∈cellsFrom (h.objs.size+1) scope.names []→@LT.lt Nat _ h.objs.size c:=fun x c hc=>(ok.empty x c hc).2
 have apart:∀ {x z c} {C:Prop},(x,c)∈cellsFrom (h.objs.size+1) scope.names []→env.cells.lookup z=some c→C:=fun h1 h2=>absurd (Nat.lt_trans (own_ge _ _ h1) (out_lt _ _ h2)) (Nat.lt_irrefl _)
 refine⟨hkind,R.glob,R.blt,⟨fun _=>none,(Heap.Ns.new h (.type "dict")).keeps (pushCells_keeps _ _),fun x hx=>?_⟩,fun x hx=>?_,fun x z c h1 h2=>?_,fun x c h1 e=>?_,fun x c h1=>?_,fun ho=>?_⟩
 ·exact (if_neg fun e=>kindC_free e (hk x _ hx)).symm
 ·refine (kindC_inv (hx.imp (hk x _) (hk x _))).elim (fun e=>?_) fun e=>?_
  ·have hm:=mem_of_lookup e
   refine (R.cell x (hfree _ hm rfl)).elim fun c q=>⟨c,?_,?_⟩
   ·show (cellsFrom _ _ _).lookup x=some c
    rw[bq,fg,own_none hnd e]
    exact eV q.1 scope.names [] (.inl hm)
   ·rw[if_pos e];exact Cell.keepAt q.2 (keep _)
  ·refine (dM scope.names (h.objs.size+1) x (mem_of_lookup e)).elim fun c hc=>(cN hc).elim fun c' hc'=>⟨c',?_,?_⟩
   ·show (cellsFrom _ _ _).lookup x=some c'
    rw[bq,fg,hc'];rfl
   ·rw[if_neg (by rw[e];nofun)]
    exact (ok.empty x c' (mem_of_lookup hc')).1
 ·exact (dF hnd h1).elim (fun e1=>(dF hnd h2).elim (fun e2=>name_of_addr ok.apart e1 e2) fun e2=>apart e1 e2.2) fun e1=>(dF hnd h2).elim (fun e2=>apart e2 e1.2) fun e2=>R.inj x z c e1.2 e2.2
 ·exact (dF hnd h1).elim (fun e1=>Nat.lt_irrefl _ (e▸own_ge x c e1)) fun e1=>Nat.lt_irrefl _ (e▸out_lt x c e1.2)
 ·exact (dF hnd h1).elim (fun e1=>j9 (ok.empty x c e1).1) fun e1=>(R.ex x c e1.2).elim fun o ho=>⟨o,keep _ _ ho⟩
 ·have ho:jf (fun x=>(relabel scope env).names.lookup x)=true:=ho
  rw[fc R.kind,hord] at ho;cases ho
end Mine
namespace Mine
open PySem PySem.SeqAt

theorem dE(f:D→Option (Option D))(x:D)(l:List D):bk f (x::l)=(f x).bind fun o=>(bk f l).map fun ds=>match o with | Option.none=>ds | some d=>d::ds:=by
 show (match f x with | Option.none=>Option.none | some o=>match bk f l with | Option.none=>Option.none | some ds=>_)=_
 cases f x with
 | none=>rfl
 | some o=>cases bk f l <;> rfl
theorem compM_snoc(f:D→Option (Option D))(l:List D)(x:D):bk f (l++[x])=(bk f l).bind fun ds=>(f x).map fun o=>match o with | Option.none=>ds | some d=>ds++[d]:=by
 induction l with
 | nil=>
  rw[List.nil_append,dE]
  cases f x with
  | none=>rfl
  | some o=>cases o <;> rfl
 | cons y l ih=>
  rw[List.cons_append,dE,dE,ih]
  cases f y with
  | none=>rfl
  | some o=>
   cases bk f l with
   | none=>rfl
   | some ds=>
    cases f x with
    | none=>rfl
    | some o'=>cases o' <;> cases o <;> rfl
theorem compM_pre{f:D→Option (Option D)}{a b:List D}{out:List D}(h:bk f (a++b)=some out):∃ o,bk f a=some o:=by
 induction a generalizing out with
 | nil=>exact⟨[],rfl⟩
 | cons x a ih=>
  rw[List.cons_append,dE] at h
  rw[dE]
  exact fM h fun o hx h=>bh h fun ds hab _=>(ih hab).elim fun o' e=>by rw[hx,e];exact⟨_,rfl⟩
theorem mu{f:D→Option (Option D)}{a:List D}{out:List D}(h:bk f a=some out):out.length≤a.length:=by
 induction a generalizing out with
 | nil=>cases h;exact Nat.le_refl _
 | cons x a ih=>
  rw[dE] at h
  refine fM h fun o hx h=>bh h fun ds hab e=>?_
  subst e
  cases o with
  | none=>exact Nat.le_succ_of_le (ih hab)
  | some d=>exact Nat.succ_le_succ (ih hab)
theorem compM_next{f:D→Option (Option D)}{done rest out o:List D}{d:D}(h:bk f (done++d::rest)=some out)(ho:bk f done=some o):∃ r,f d=some r∧bk f (done++[d])=some (match r with | some x=>o++[x] | Option.none=>o):=by
 rw[show done++d::rest=(done++[d])++rest from List.append_cons ..] at h
 refine (compM_pre h).elim fun o' e=>?_
 rw[compM_snoc,ho] at e ⊢
 refine bh e fun r hr _=>⟨r,hr,?_⟩
 rw[hr]
 cases r <;> rfl
theorem gQ{e:Expr}{env:Env}(h:dC e=true):∀ x,foldedSetIterable e env x=pure x:=by
 intro x
 cases e with
 | Set=>cases h
 | _=>rfl
theorem iE{e:Expr}{op:CmpOp}(h:dC e=true):behindInMarks op e=false:=by
 cases e with
 | Set=>cases h
 | _=>rfl
noncomputable abbrev Mv(c:Addr)(h h':Heap):Prop:=∀ b o,b≠c→gat h b=some o→gat h' b=some o
section
variable {P:Params} {h1 h h':Heap} {H F:Addr→Prop} {c I L:Addr}
theorem pT(Ff:∀ b,F b→gat h1 b=none)(Fc:F c)(k:KH h1 h)(m:Mv c h h'):KH h1 h':=fun b o e=>m b o (fun q=>bD e (q▸Ff c Fc)) (k b o e)
theorem mT(Fc:F c)(m:Mv c h h'){l:List Value}{ds:List D}(r:aq P h (fun b=>H b∨F b) l ds):aq P h' (fun b=>H b∨F b) l ds:=r.mono (fun b o hn e=>m b o (fun q=>hn (.inr (q▸Fc))) e) fun _ _ _ q=>q
noncomputable abbrev FX(F:Addr→Prop)(I:Addr)(h:Heap):Prop:=∀ b,F b→b≠I→∃ o,gat h b=some o
theorem rP(m:Mv c h h')(hc:c≠I→∃ o,gat h' c=some o)(fx:FX F I h):FX F I h':=fun b hb hI=>(Classical.em (b=c)).elim (fun e=>e▸hc (e▸hI)) fun e=>(fx b hb hI).elim fun o q=>⟨o,m b o e q⟩
theorem rO(m:Mv c h h')(hne:L≠c){ys:Array Value}(a:h.PlainList L ys):h'.PlainList L ys:=a.elim fun n e=>⟨n,Heap.of_gt (m L _ hne (Heap.gt_of e))⟩
theorem kh_mv(k:KH h h'):Mv c h h':=fun b o _ e=>k b o e
theorem rG(s:Heap.SB c h h'):Mv c h h':=fun b _ n e=>(s.g b n).trans e
end
section
variable {prog:Program} {w:World} {A:Around} {E:Value→Shared→Prop} {s:Shared} {H:Addr→Prop}

inductive oV(P:Params)(h1:Heap)(H F:Addr→Prop)(I L:Addr)(its:List D)(St:Nat→Heap→Prop)(f:D→Option (Option D))(cenv:Env)(m:Str→Option Value)(free:Str→Prop)(s:Shared)(k:Nat):Shared→Prop
 | mk {h tk dw done rest o ys mC} (dr:its=done++rest) (st:St done.length h) (acc:h.PlainList L ys) (out:bk f done=some o) (rep:aq P h (fun b=>H b∨F b) ys.toList o) (env:a7 h cenv mC) (fv:∀ x,free x→mC x=m x) (kh:KH h1 h)
  (fx:FX F I h) (kn:k=rest.length+1):oV P h1 H F I L its St f cenv m free s k { s with heap:=h,toks:=tk,drawn:=dw }
theorem wp_kp{α:Type}{M:Model}{c:Sem α}{b:α}{X:Shared→Prop}{Q:α→Shared→Prop}(hq:wpAny M A c (fun ok s'=>bj s s'∧ok=b∧X s') E s)(k:∀ h tk dw,KH s.heap h→X { s with heap:=h,toks:=tk,drawn:=dw }→Q b { s with heap:=h,toks:=tk,drawn:=dw }):wpAny M A c Q E s:=
 be hq fun ok s' q=>bj.rec (motive:=fun s' _=>X s'→Q ok s') (fun h tk dw hk x=>q.2.1▸k h tk dw hk x) q.1 q.2.2
theorem mH{M:Model}{c:Sem Value}{d:D}{Q:Value→Shared→Prop}(hq:wpAny M A c (aZ w s H d) E s)(k:∀ v h tk dw,KH s.heap h→Rep w.params h H v d→Q v { s with heap:=h,toks:=tk,drawn:=dw }):wpAny M A c Q E s:=
 be hq fun v s' q=>bj.rec (motive:=fun s' _=>Rep w.params s'.heap H v d→Q v s') (fun h tk dw hk x=>k v h tk dw hk x) q.k q.r
noncomputable def sF(prog:Program)(w:World)(A:Around)(s:Shared)(H:Addr→Prop)(its:List D)(f:D→Option (Option D))(m:Str→Option Value)(free:Str→Prop)(y:Str)(elt:Expr)(ifs:List Expr)(cenv:Env):Prop:=
 ∀ (s₂:Shared) (mC:Str→Option Value) (H₂:Addr→Prop) (v:Value) (dv:D) (r:Option D),dv∈its→f dv=some r→a7 s₂.heap cenv mC→mC y=some v→Rep w.params s₂.heap H₂ v dv →
  (∀ x,free x→mC x=m x)→Ex s₂.heap H₂→bj s s₂→nq s.heap H H₂→∀ E':Value→Shared→Prop,
  wpAny (model prog w) A (forIn ifs true fun c r=>if r=true then do let ok ← isTrue c cenv (eval c cenv);pure (ForInStep.yield ok) else pure (ForInStep.yield r))
   (fun ok s₃=>bj s₂ s₃∧ok=r.isSome∧∀ dr,r=some dr→wpAny (model prog w) A (eval elt cenv) (aZ w s₃ H₂ dr) E' s₃) E' s₂
structure sG(h1:Heap)(H F:Addr→Prop)(I L:Addr)(cenv:Env)(y:Str):Prop where
 FI:F I
 FL:F L
 FC:F cenv.locals
 Fy:∀ c,cenv.cells.lookup y=some c→F c
 nIL:I≠L
 nIC:I≠cenv.locals
 nLC:L≠cenv.locals
 ncell:∀ x c,cenv.cells.lookup x=some c→c≠L∧c≠I
 Ff:∀ b,F b→gat h1 b=none
 IC:@LE.le Nat _ I cenv.locals
 hH:Ex h1 H
theorem st_mv{h1 h h':Heap}{F:Addr→Prop}{I c:Addr}{its:List D}{fp:List Addr}{P:Nat→Value→Prop}{St:Nat→Heap→Prop}(W:Walks prog w A I fp [I] its.length P St)(hfp:∀ b∈fp,b=I∨(¬ H b∧∃ o,gat h1 b=some o))(hT:∀ b∈fp,∀ i h o,St i h→h.get? b=some o→a8 o=false)
  (Ff:∀ b,F b→gat h1 b=none) (Fc:F c) (hne:c≠I) (m:Mv c h h') {i:Nat} (st:St i h):St i h':=
 cQ W hT i h h' st fun b hb o e=>m b o (fun q=>(hfp b hb).elim (fun z=>hne (q▸z)) fun z=>z.2.elim fun o' e'=>bD e' (q▸Ff c Fc)) e
theorem comp_turn{cenv:Env}{m:Str→Option Value}{free:Str→Prop}{y:Str}{py:Pos}{elt:Expr}{ifs:List Expr}{its out:List D}{f:D→Option (Option D)}
  {I L:Addr} {fp:List Addr} {P:Nat→Value→Prop} {St:Nat→Heap→Prop} {F:Addr→Prop} {h1 h:Heap} {tk:Nat} {dw:Drawn} {NE:Value→Shared→Prop}
  (W:Walks prog w A I fp [I] its.length P St) (hfp:∀ b∈fp,b=I∨(¬ H b∧∃ o,gat h1 b=some o)) (hP:∀ i v,i<its.length→P i v→∃ d,its[i]?=some d∧Rep w.params h1 H v d)
  (hT:∀ b∈fp,∀ i h o,St i h→h.get? b=some o→a8 o=false) (hky:cenv.kindOf y=some .local∨cenv.kindOf y=some .cell) (hyf:¬ free y) (Z:sG h1 H F I L cenv y) (k01:KH s.heap h1)
  (hlen:its.length≤big) (hout:bk f its=some out) (helt:sF prog w A s H its f m free y elt ifs cenv)
  {done rest o:List D} {dv:D} {ys:Array Value} {mC:Str→Option Value} {k:Nat} (dr:its=done++dv::rest) (st:St done.length h) (acc:h.PlainList L ys) (ho:bk f done=some o) (rep:aq w.params h (fun b=>H b∨F b) ys.toList o) (env:a7 h cenv mC) (fv:∀ x,free x→mC x=m x) (kh:KH h1 h) (fx:FX F I h) (kn:k=(dv::rest).length+1)
  {R:Shared→Prop} :
  wpAny (model prog w) A (pyNext (.ref I)) (fun r s₁=>match r with
   | none=>R s₁
   | some v=>wpAny (model prog w) A (assign (.Name y py) cenv v) (fun _ s₂=>
     wpAny (model prog w) A (forIn ifs true fun c r=>if r=true then do let ok ← isTrue c cenv (eval c cenv);pure (ForInStep.yield ok) else pure (ForInStep.yield r)) (fun ok s₃=>
      if ok=true then wpAny (model prog w) A (eval elt cenv) (fun x s₄=>
       wpAny (model prog w) A (call (.builtin "list.append") [.ref L,x]) (fun _ s₅=>∃ m',m'<k∧oV w.params h1 H F I L its St f cenv m free s m' s₅) NE s₄) NE s₃
      else ∃ m',m'<k∧oV w.params h1 H F I L its St f cenv m free s m' s₃) NE s₂) NE s₁) NE { s with heap:=h,toks:=tk,drawn:=dw }:=by
 refine Z.rec fun FI FL FC Fy nIL nIC nLC ncell Ff IC hH=>?_
 clear Z
 have hlt:done.length<its.length:=by rw[dr,List.length_append];exact Nat.lt_add_of_pos_right (Nat.succ_pos _)
 refine W.item done.length _ _ _ hlt st fun v h₁ tk₁ hPv st₁ hk₁=>?_
 have m1:Mv I h h₁:=fun b o hb e=>gu W hT st hk₁ b o (fun q=>hb (List.mem_singleton.mp q)) e
 have nfr:∀ b,(b=cenv.locals∨∃ x,cenv.cells.lookup x=some b)→b≠I∧b≠L:=fun b hb=>hb.elim (fun e=>e▸⟨nIC.symm,nLC.symm⟩) fun q=>q.elim fun x e=>⟨(ncell x b e).2,(ncell x b e).1⟩
 refine wpAny_assign_Name (gx (s:={ s with heap:=h₁,toks:=tk₁,drawn:=dw }) (env.keepsAt fun a o' ha e=>m1 a o' (nfr a ha).1 e) hky fun h₂ tk₂ dw₂ a RC₂ ha hs₂=>?_)
 have na:=nfr a (ha.imp id fun e=>⟨y,e⟩)
 have Fa:F a:=ha.elim (fun e=>e▸FC) (Fy a)
 have m2:=rG hs₂
 have k2:KH h1 h₂:=pT Ff Fa (pT Ff FI kh m1) m2
 have st₂:St (done.length+1) h₂:=st_mv W hfp hT Ff Fa na.1 m2 st₁
 have fx₂:FX F I h₂:=rP m2 (fun _=>ha.elim (fun e=>RC₂.loc.elim fun _ q=>e▸om q.1) fun e=>RC₂.ex y a e) (rP m1 (fun q=>absurd rfl q) fx)
 have hmem:dv∈its:=by rw[dr];exact List.mem_append_right _ (.head _)
 have rep₂:=mT Fa m2 (mT FI m1 rep)
 have acc₂:=rO m2 na.2.symm (rO m1 nIL.symm acc)
 have fv₂:∀ x,free x→upd mC y v x=m x:=fun x hx=>(if_neg (show ¬ x=y from fun e=>hyf (e▸hx))).trans (fv x hx)
 have ex₂:Ex h₂ (fun b=>H b∨F b):=fun b hb=>hb.elim (fun q=>(hH b q).elim fun b' z=>z.elim fun o' z=>⟨b',o',z.1,k2 _ _ z.2⟩) fun q=>(Classical.em (b=I)).elim (fun e=>(fx₂ _ FC nIC.symm).elim fun o' z=>⟨_,o',e▸IC,z⟩) fun e=>(fx₂ b q e).elim fun o' z=>⟨b,o',Nat.le_refl _,z⟩
 have lss:nq h1 H fun b=>H b∨F b:=fun b o' e q=>q.elim id fun q=>bD e (Ff b q)
 have rv:Rep w.params h₂ (fun b=>H b∨F b) v dv:=(hP _ v hlt hPv).elim fun d q=>by
  have e:d=dv:=by
   have e1:=q.1
   rw[dr,List.getElem?_append_right (Nat.le_refl _),Nat.sub_self] at e1
   exact (Option.some.inj e1).symm
  exact e▸q.2.mono (fun b o' _ e=>k2 b o' e) lss
 have lt:rest.length+1<k:=by rw[kn];exact Nat.lt_succ_self _
 have dr':its=(done++[dv])++rest:=dr.trans (List.append_cons ..)
 have sl:(done++[dv]).length=done.length+1:=List.length_append
 rw[dr] at hout
 refine (compM_next hout ho).elim fun r q=>wp_kp (s:={ s with heap:=h₂,toks:=tk₂,drawn:=dw₂ }) (helt { s with heap:=h₂,toks:=tk₂,drawn:=dw₂ } (upd mC y v) (fun b=>H b∨F b) v dv r hmem q.1 RC₂ (if_pos rfl) rv fv₂ ex₂ (.mk h₂ tk₂ dw₂ fun b o' e=>k2 b o' (k01 b o' e)) (fun b o' e=>lss b o' (k01 b o' e)) _) fun h₃ tk₃ dw₃ k23 he3=>?_
 have m3:Mv L h₂ h₃:=kh_mv k23
 have st₃:St (done.length+1) h₃:=cQ W hT _ _ h₃ st₂ fun b _ o' e=>k23 b o' e
 cases r with
 | none=>exact⟨rest.length+1,lt,.mk dr' (sl▸st₃) (acc₂.elim fun n e=>⟨n,Heap.of_gt (k23 _ _ (Heap.gt_of e))⟩) q.2 (rep₂.keeps k23) (RC₂.keeps k23) fv₂ (fun b o' e=>k23 _ _ (k2 b o' e)) (fun b hb hbI=>(fx₂ b hb hbI).elim fun o' e=>⟨o',k23 _ _ e⟩) rfl⟩
 | some dr₀=>
  refine mH (s:={ s with heap:=h₃,toks:=tk₃,drawn:=dw₃ }) (he3 dr₀ rfl) fun x h₄ tk₄ dw₄ k34 rx=>?_
  have k24:KH h₂ h₄:=fun b o' e=>k34 b o' (k23 b o' e)
  have hacc₄:h₄.PlainList L ys:=acc₂.elim fun n e=>⟨n,Heap.of_gt (k24 _ _ (Heap.gt_of e))⟩
  refine wpAny_list_append_plain hacc₄ (fun h₅ hl₅ hs₅'=>?_) (by
   rw[rep.size]
   exact Nat.le_of_lt (Nat.lt_of_le_of_lt (mu ho) (Nat.lt_of_lt_of_le hlt hlen)))
  have m5:Mv L h₄ h₅:=rG ⟨hs₅',hacc₄.elim fun _ e=>bz e,hl₅.elim fun _ e=>bz e⟩
  refine⟨rest.length+1,lt,.mk dr' (sl▸st_mv W hfp hT Ff FL nIL.symm m5 (cQ W hT _ _ h₄ st₂ fun b _ o' e=>k24 b o' e)) hl₅ q.2 ?_ ((RC₂.keeps k24).keepsAt fun b o' hb e=>m5 b o' (nfr b hb).2 e) fv₂ (pT Ff FL (fun b o' e=>k24 b o' (k2 b o' e)) m5) (rP m5 (fun _=>hl₅.elim fun _ e=>⟨_,Heap.gt_of e⟩) fun b hb hbI=>(fx₂ b hb hbI).elim fun o' e=>⟨o',k24 _ _ e⟩) rfl⟩
  rw[Array.toList_push]
  exact mT FL m5 ((rep₂.keeps k24).append (.cons rx rfl))
theorem comp_loop{cenv:Env}{m mC0:Str→Option Value}{free:Str→Prop}{y:Str}{py pos:Pos}{it elt:Expr}{ifs:List Expr}{scope:Scope}{R:Result→Shared→Prop}{its out:List D}{f:D→Option (Option D)}
  {I L:Addr} {F:Addr→Prop} {h1 h4:Heap} {tk4:Nat} {dw4:Drawn}
  (IW:mF prog w A h1 H its I h4) (hky:cenv.kindOf y=some .local∨cenv.kindOf y=some .cell) (hyf:¬ free y) (Z:sG h1 H F I L cenv y)
  (hacc:h4.PlainList L #[]) (RC:a7 h4 cenv mC0) (hfv:∀ x,free x→mC0 x=m x) (Fx:FX F I h4) (k01:KH s.heap h1) (k14:KH h1 h4)
  (hlen:its.length≤big) (hout:bk f its=some out) (helt:sF prog w A s H its f m free y elt ifs cenv)
  (hR:∀ h' tk dw m',h'.Ns cenv.locals m'→fq w.params h' (fun b=>H b∨F b) L out→(KH s.heap h')→R (.ok .next) { s with heap:=h',toks:=tk,drawn:=dw }) :
  codeAny (model prog w) A (.compLoop (.ListComp elt [⟨.Name y py,it,ifs,0⟩] scope pos) 0 (.ref I) (.ref L) cenv) R { s with heap:=h4,toks:=tk4,drawn:=dw4 }:=by
 refine IW.rec fun {fp P St} W hst hfp hP _ hT=>?_
 refine codeAny_compLoop_tests (oV w.params h1 H F I L its St f cenv m free s) (fun k s' q=>?_) (its.length+1) (.mk (done:=[]) (rest:=its) (o:=[]) (ys:=#[]) rfl hst hacc rfl rfl RC hfv k14 Fx rfl)
 clear hst hacc RC hfv k14 Fx IW
 refine oV.rec (motive:=fun s' _=>wpAny (model prog w) A (pyNext (.ref I)) _ _ s') (fun {h tk dw done rest o ys mC} dr st acc ho rep env fv kh fx kn=>?_) q
 cases rest with
 | cons dv rest=>exact comp_turn W hfp hP hT hky hyf Z k01 hlen hout helt dr st acc ho rep env fv kh fx kn
 | nil=>
  rw[List.append_nil] at dr
  subst dr
  refine W.done _ _ _ st fun h' tk' hk'=>?_
  have m1:Mv I h h':=fun b o hb e=>gu W hT st hk' b o (fun q=>hb (List.mem_singleton.mp q)) e
  refine env.loc.elim fun ml hns=>hR h' tk' dw ml (Ns.keepAt hns.1 fun o e=>m1 _ o Z.nIC.symm e) ?_ fun b o e=>pT Z.Ff Z.FI kh m1 b o (k01 b o e)
  rw[hout] at ho
  cases ho
  exact (rO m1 Z.nIL.symm acc).elim fun n e=>⟨e,Nat.le_trans (mu hout) hlen,(mT Z.FI m1 rep).mono (fun _ _ _ e=>e) fun a o' _ q=>q.elim id fun q=>.inr (q▸Z.FL)⟩
theorem jY{M:Model}{c:Sem Value}{its:List D}{Q:Value→Shared→Prop}{sx:Shared}(hq:wpAny M A c (lI prog w A s H its) E sx)
  (k:∀ I h tk dw,KH s.heap h→gat s.heap I=none→(∃ o,gat h I=some o)→mF prog w A s.heap H its I h→Q (.ref I) { s with heap:=h,toks:=tk,drawn:=dw }):wpAny M A c Q E sx:=
 be hq fun v s' q=>q.rec fun {I s₂} q=>bj.rec (motive:=fun s' _=>(∃ o,gat s'.heap I=some o)→mF prog w A s.heap H its I s'.heap→Q (.ref I) s') (fun h tk dw hk x y=>k I h tk dw hk q.fresh x y) q.keeps q.ex q.walk
theorem comp_core{env:Env}{m:Str→Option Value}{scope:Scope}{y:Str}{py pos ppos:Pos}{it elt:Expr}{ifs:List Expr}{use:Option (Value→Sem Unit)}{Q:Value→Shared→Prop}{d:D}{its out:List D}{f:D→Option (Option D)}
  (R:a7 s.heap env m) (hok:fe env.kindOf scope y=true) (hset:dC it=true) (hh:A.handled=none) (hH:Ex s.heap H)
  (hit:wpAny (model prog w) A (eval it env) (aZ w s H d) E s) (hits:d.items=some its) (hlen:its.length≤big) (hout:bk f its=some out)
  (helt:∀ cenv:Env,cenv.kindOf=cY env.kindOf scope→sF prog w A s H its f m (fun x=>scope.names.lookup x=some .free) y elt ifs cenv)
  (hQ:∀ L C h' tk dw m',(∀ b o,gat s.heap b=some o→@LT.lt Nat _ b L)→gat s.heap C=none→L≠C→h'.Ns C m'→fq w.params h' (fun b=>H b∨b=C) L out→(KH s.heap h') →
   compPost (model prog w) A E use Q (.ref L) C (.ok .next) { s with heap:=h',toks:=tk,drawn:=dw }) :
  wpAny (model prog w) A (comprehension (.ListComp elt [⟨.Name y py,it,ifs,0⟩] scope pos) scope env ppos (newList []) false (eval it env) use) Q E s:=by
 refine fL hok fun hkind hnodup hy hfree _ _=>?_
 refine wpAny_comprehension_free (cl:=et env.cells scope.names []) rfl (gQ hset) (gT fun p hp hf=>(R.cell p.1 (hfree p hp hf)).elim fun c q=>⟨c,q.1⟩) hkind (fun x hx hl=>by rw[ie hnodup (k:=x.2) hx,hl]) ?_
 refine mH hit fun xv h1 tk1 dw1 k01 rep1=>jY (kR (s:={ s with heap:=h1,toks:=tk1,drawn:=dw1 }) (prog:=prog) (E:=E) rep1 hh hits) fun I h2 tk2 dw2 k12 fresh ex IW=>wpAny_newObj_type (newEnvA ?_)
 dsimp only at fresh IW k12 ⊢
 generalize hh3:h2.push { cls:=.type "list",dict:=none,data:=.seq ([]:List Value).toArray }=h3
 have k23:KH h2 h3:=fun b o e=>hh3▸Heap.gt_push_of_some _ e
 have R1:=R.keeps k01
 have RC:=compEnv_rep (y:=y) ((R1.keeps k12).keeps k23) hok
 have size3:@Eq Nat h3.objs.size (h2.objs.size+1):=by rw[← hh3,Heap.size_push]
 have hL3:h3.get? h2.objs.size=some (eG #[] 0):=by rw[← hh3];exact Heap.get?_push_size _ rfl
 clear hh3
 have I_lt:@LT.lt Nat _ I h2.objs.size:=ex.elim fun _ q=>Heap.gt_lt q
 have ok:=jM h3 scope { cls:=.type "dict",data:=.dict #[] }
 have k34:KH h3 (pushCells (h3.push { cls:=.type "dict",data:=.dict #[] }) scope.names):=fun b o e=>Heap.gt_up (pushCells_keeps _ _) b o (Heap.gt_push_of_some _ e)
 have lt1:∀ b o,gat h1 b=some o→@LT.lt Nat _ b h2.objs.size:=fun b o e=>Heap.gt_lt (k12 b o e)
 have own_ge:∀ x c,(x,c)∈cellsFrom (h3.objs.size+1) scope.names []→@LT.lt Nat _ h3.objs.size c:=fun x c hc=>(ok.empty x c hc).2
 have L_lt:@LT.lt Nat _ h2.objs.size h3.objs.size:=size3▸Nat.lt_succ_self _
 have nFr:∀ b o,gat h1 b=some o→b≠I:=fun b o e q=>bD e (q▸fresh)
 have Z:sG h1 H (fun b=>b=I∨b=h2.objs.size∨b=h3.objs.size∨∃ x,(x,b)∈cellsFrom (h3.objs.size+1) scope.names []) I h2.objs.size
   {scope:=relabel scope env,locals:=h3.objs.size,globals:=env.globals,cells:=cellsFrom (h3.objs.size+1) scope.names (et env.cells scope.names []),qual:=env.qual,func:=none,code:=env.code,frame:=env.frame,builtins:=env.builtins } y:=by
  refine⟨.inl rfl,.inr (.inl rfl),.inr (.inr (.inl rfl)),fun c hc=>?_,Nat.ne_of_lt I_lt,Nat.ne_of_lt (Nat.lt_trans I_lt L_lt),Nat.ne_of_lt L_lt,fun x c hc=>?_,fun b hb=>?_,Nat.le_of_lt (Nat.lt_trans I_lt L_lt),hH.keeps k01⟩
  ·exact (dF hnodup hc).elim (fun e=>.inr (.inr (.inr ⟨y,e⟩))) fun q=>absurd q.1 (hy.elim (fun e=>e▸nofun) fun e=>e▸nofun)
  ·exact (dF hnodup hc).elim (fun e=>⟨(Nat.ne_of_lt (Nat.lt_trans L_lt (own_ge x c e))).symm,(Nat.ne_of_lt (Nat.lt_trans (Nat.lt_trans I_lt L_lt) (own_ge x c e))).symm⟩) fun q=>(R1.ex x c q.2).elim fun o e=>⟨Nat.ne_of_lt (lt1 c o e),nFr c o e⟩
  ·cases e:gat h1 b with
   | none=>rfl
   | some o=>
    have l:=lt1 b o e
    exact hb.elim (fun q=>absurd q (nFr b o e)) fun hb=>hb.elim (fun q=>absurd (q▸l) (Nat.lt_irrefl _)) fun hb=>hb.elim (fun q=>absurd (Nat.lt_trans (q▸l) L_lt) (Nat.lt_irrefl _)) fun hb=>hb.elim fun x hx=>absurd (Nat.lt_trans (own_ge x b hx) (Nat.lt_trans l L_lt)) (Nat.lt_irrefl _)
 have hkC:(fun x=>(relabel scope env).names.lookup x)=cY env.kindOf scope:=fc R.kind
 have loop:∀ tk4 dw4,codeAny (model prog w) A (.compLoop (.ListComp elt [⟨.Name y py,it,ifs,0⟩] scope pos) 0 (.ref I) (.ref h2.objs.size)
   {scope:=relabel scope env,locals:=h3.objs.size,globals:=env.globals,cells:=cellsFrom (h3.objs.size+1) scope.names (et env.cells scope.names []),qual:=env.qual,func:=none,code:=env.code,frame:=env.frame,builtins:=env.builtins })
   (compPost (model prog w) A E use Q (.ref h2.objs.size) h3.objs.size) { s with heap:=pushCells (h3.push { cls:=.type "dict",data:=.dict #[] }) scope.names,toks:=tk4,drawn:=dw4 }:=fun tk4 dw4=>by
  refine comp_loop (s:=s) (H:=H) (m:=m) (free:=fun x=>scope.names.lookup x=some .free) (IW.rec fun W st a b c d=>⟨W,cQ W d _ _ _ st fun b _ o e=>k34 b o (k23 b o e),a,b,c,d⟩) ?_ (hy.elim (fun e=>e▸nofun) fun e=>e▸nofun) Z ⟨0,Heap.of_gt (k34 _ _ (Heap.gt_of hL3))⟩ RC (fun x hx=>if_pos hx) (fun b hb hbI=>?_) k01 (fun b o e=>k34 b o (k23 b o (k12 b o e))) hlen hout (helt _ hkC) fun h' tk dw m' hns hown hk=>?_
  ·show (fun x=>(relabel scope env).names.lookup x) y=_∨(fun x=>(relabel scope env).names.lookup x) y=_
   rw[hkC,iJ]
   exact hy.imp (fun e=>by rw[e];rfl) fun e=>by rw[e];rfl
  ·exact hb.elim (fun q=>absurd q hbI) fun hb=>hb.elim (fun q=>⟨_,q▸k34 _ _ (Heap.gt_of hL3)⟩) fun hb=>hb.elim (fun q=>RC.loc.elim fun _ e=>q▸om e.1) fun hb=>hb.elim fun x hx=>j9 (ok.empty x b hx).1
  ·exact hQ h2.objs.size h3.objs.size h' tk dw m' (fun b o e=>lt1 _ o (k01 _ o e)) (iF k01 (Z.Ff _ Z.FC)) (Nat.ne_of_lt L_lt) hns (hown.mono (fun _ e=>e) (fun _ _ _ e=>e) fun a o _ q=>.inl (q.imp id fun q=>.inr (.inr (.inl q)))) hk
 exact codeAny_compStart_list (loop _ _) (IW.rec fun W st a b c d=>W.self 0 _ _ _ (cQ W d _ _ _ st fun b _ o e=>k34 b o (k23 b o e)) (loop _ _))
end
end Mine
namespace Mine
open PySem PySem.SeqAt

noncomputable def cj:List String:=["len","isinstance","range","tuple","int","str","list","bool","set","sum","max","min","sorted","reversed"]

structure GOk(mg mb:Str→Option Value)(h:Heap):Prop where
 g:h.Ns mainGlobals mg
 b:h.Ns builtinsNs mb
 lim:h.NoLimit
 blt:∀ f∈cj,mg (Str.ofString f)=none∧mb (Str.ofString f)=some (cJ f)
 lam:h.IsCode oc tb #[]∧h.TableAt oc tb #[]∧h.BuiltinsAt mg tb

structure HOk(base h:Heap)(H:Addr→Prop):Prop where
 keep:KH base h
 ex:Ex h H
 off:∀ b o,gat base b=some o→¬ H b
theorem HOk.keeps{base h h':Heap}{H:Addr→Prop}(x:HOk base h H)(hk:KH h h'):HOk base h' H:=
 ⟨fun b o e=>hk b o (x.keep b o e),x.ex.keeps hk,x.off⟩

theorem NoLimit.keepG{h h':Heap}(x:h.NoLimit)(hk:KH h h'):h'.NoLimit:=let ⟨mc,h1,h2⟩:=x;⟨mc,Ns.keepAt h1 (hk _),h2⟩
structure dn(prog:Program)(w:World)(base:Heap)(mg:Str→Option Value)(cf:CF)(A:Around):Prop where
 call:∀ f ds d fr,cf.call f ds=some (d,fr)→∃ a o fd,mg (Str.ofString f)=some (.ref a)∧gat base a=some o∧o.data=.func fd ∧
  ∀ A',oR A A'→∀ (s:Shared) (H:Addr→Prop) (vs:List Value) (E:Value→Shared→Prop),HOk base s.heap H→aq w.params s.heap H vs ds →
   wpAny (model prog w) A' (PySem.call (.ref a) vs) (bI w s H d fr) E s
 glob:∀ x d,cf.glob x=some d→∃ v,mg (Str.ofString x)=some v∧Rep w.params base (fun _=>False) v d

noncomputable def CS0(prog:Program)(w:World)(base:Heap)(mg:Str→Option Value)(cf:CF)(A:Around):Prop:=∀ f ds d fr,cf.call f ds=some (d,fr)→∃ a o fd,mg (Str.ofString f)=some (.ref a)∧gat base a=some o∧o.data=.func fd ∧
  ∀ (s:Shared) (H:Addr→Prop) (vs:List Value) (E:Value→Shared→Prop),HOk base s.heap H→aq w.params s.heap H vs ds →
   wpAny (model prog w) A (PySem.call (.ref a) vs) (bI w s H d fr) E s
theorem dn.at{prog:Program}{w:World}{base:Heap}{mg:Str→Option Value}{cf:CF}{A A':Around}(C:dn prog w base mg cf A)(hN:oR A A'):CS0 prog w base mg cf A':=
 fun f ds d fr h=>(C.call f ds d fr h).elim fun a q=>q.elim fun o q=>q.elim fun fd q=>⟨a,o,fd,q.1,q.2.1,q.2.2.1,q.2.2.2 A' hN⟩
noncomputable def NV(P:Params)(k:KD)(ns:List String)(ρ:List (String×D))(m:Str→Option Value)(h:Heap)(H:Addr→Prop):Prop:=
 ∀ x∈ns,eA k (Str.ofString x)=true→∀ d,ρ.lookup x=some d→∃ v,m (Str.ofString x)=some v∧Rep P h H v d
structure Cc(w:World)(base:Heap)(s:Shared)(env:Env)(H:Addr→Prop)(ρ:List (String×D))(m:Str→Option Value)(ns:List String):Prop where
 R:a7 s.heap env m
 hw:HOk base s.heap H
 hn:NV w.params env.kindOf ns ρ m s.heap H

section
variable {prog:Program} {w:World} {A:Around} {s s':Shared} {base:Heap} {mg mb:Str→Option Value} {cf:CF} {env:Env} {H:Addr→Prop} {ρ:List (String×D)} {m:Str→Option Value} {ns ns':List String} {e:Expr} {E:Value→Shared→Prop} {a b:ME} {d:D} {C:Prop}
theorem Cc.k(c:Cc w base s env H ρ m ns)(k:bj s s'):Cc w base s' env H ρ m ns:=⟨c.R.keeps (Kp.heap k),c.hw.keeps (Kp.heap k),fun x hx hv d hd=>(c.hn x hx hv d hd).elim fun v q=>⟨v,q.1,q.2.keeps (Kp.heap k)⟩⟩
theorem Cc.sub(c:Cc w base s env H ρ m ns)(hs:∀ x∈ns',x∈ns):Cc w base s env H ρ m ns':=⟨c.R,c.hw,fun x hx=>c.hn x (hs x hx)⟩
theorem Cc.l(c:Cc w base s env H ρ m (ns++ns')):Cc w base s env H ρ m ns:=c.sub fun _=>List.mem_append_left _
theorem Cc.r(c:Cc w base s env H ρ m (ns++ns')):Cc w base s env H ρ m ns':=c.sub fun _=>List.mem_append_right _
theorem Cc.x(c:Cc w base s env H ρ m ns):Ex s.heap H:=c.hw.ex

noncomputable def SE(prog:Program)(w:World)(A:Around)(base:Heap)(cf:CF)(me:ME):Prop:=
 ∀ (s:Shared) (env:Env) (e:Expr) (H:Addr→Prop) (ρ:List (String×D)) (m:Str→Option Value) (d:D) (E:Value→Shared→Prop),aH env.kindOf e me=true→Cc w base s env H ρ m me.names→evE cf ρ me=some d→wpAny (model prog w) A (eval e env) (aZ w s H d) E s
inductive sw(w:World)(s:Shared)(H:Addr→Prop)(ds:List D)(vs:List Value)(s':Shared):Prop
 | mk (k:bj s s') (r:aq w.params s'.heap H vs ds)
noncomputable def SEs(prog:Program)(w:World)(A:Around)(base:Heap)(cf:CF)(ms:List ME):Prop:=
 ∀ (s:Shared) (env:Env) (es:List Expr) (H:Addr→Prop) (ρ:List (String×D)) (m:Str→Option Value) (ds:List D) (E:Value→Shared→Prop),bH env.kindOf es ms=true→Cc w base s env H ρ m (ff ms)→bF cf ρ ms=some ds →
  wpAny (model prog w) A (spliced (es.map fun e=>(false,eval e env))) (sw w s H ds) E s
noncomputable def ST(prog:Program)(w:World)(A:Around)(base:Heap)(cf:CF)(me:ME):Prop:=
 ∀ (s:Shared) (env:Env) (e:Expr) (H:Addr→Prop) (ρ:List (String×D)) (m:Str→Option Value) (d:D) (t:Bool) (E:Value→Shared→Prop),aH env.kindOf e me=true→Cc w base s env H ρ m me.names→evE cf ρ me=some d→br d=some t →
  wpAny (model prog w) A (isTrue e env (eval e env)) (dh s t) E s
noncomputable def SB(prog:Program)(w:World)(A:Around)(base:Heap)(cf:CF)(ms:List ME):Prop:=
 ∀ (s:Shared) (env:Env) (es:List Expr) (op:BoolOp) (pos:Pos) (H:Addr→Prop) (ρ:List (String×D)) (m:Str→Option Value) (d:D) (E:Value→Shared→Prop),bH env.kindOf es ms=true→Cc w base s env H ρ m (ff ms)→eC cf ρ op ms=some d →
  wpAny (model prog w) A (eval (.BoolOp op es pos) env) (aZ w s H d) E s∧∀ t whole,br d=some t→wpAny (model prog w) A (isTrue (.BoolOp op es pos) env whole) (dh s t) E s
noncomputable def SC(prog:Program)(w:World)(A:Around)(base:Heap)(cf:CF)(ms:List ME):Prop:=
 ∀ (s:Shared) (env:Env) (es:List Expr) (H:Addr→Prop) (ρ:List (String×D)) (m:Str→Option Value) (t:Bool) (E:Value→Shared→Prop),bH env.kindOf es ms=true→Cc w base s env H ρ m (ff ms)→jQ cf ρ ms=some t →
  wpAny (model prog w) A (forIn es true fun c r=>if r=true then do let ok ← isTrue c env (eval c env);pure (ForInStep.yield ok) else pure (ForInStep.yield r)) (dh s t) E s
noncomputable def SF(prog:Program)(w:World)(A:Around)(base:Heap)(cf:CF)(me:ME):Prop:=
 ∀ (s:Shared) (env:Env) (e:Expr) (H:Addr→Prop) (ρ:List (String×D)) (m:Str→Option Value) (d:D) (fr:Bool) (E:Value→Shared→Prop),aH env.kindOf e me=true→Cc w base s env H ρ m me.names→evF cf ρ me=some (d,fr)→wpAny (model prog w) A (eval e env) (bI w s H d fr) E s
theorem SE.go{Q:Value→Shared→Prop}(ha:SE prog w A base cf a)(hc:aH env.kindOf e a=true)(c:Cc w base s env H ρ m a.names)(he:evE cf ρ a=some d)(k:∀ v s₁,aZ w s H d v s₁→Q v s₁):wpAny (model prog w) A (eval e env) Q E s:=be (ha s env e H ρ m d E hc c he) k

theorem evi_bin{op:Operator}(h:evE cf ρ (.bin op a b)=some d)(k:∀ x y,evE cf ρ a=some x→evE cf ρ b=some y→du op x y=some d→C):C:=bi (a:=evE cf ρ a) (f:=fun x=>oE (evE cf ρ b) (du op x)) h fun x hx h=>bi h fun y hy h=>k x y hx hy h
theorem qD{op:CmpOp}(h:evE cf ρ (.cmp op a b)=some d)(k:∀ x y,evE cf ρ a=some x→evE cf ρ b=some y→dZ op x y=some d→C):C:=bi (a:=evE cf ρ a) (f:=fun x=>oE (evE cf ρ b) (dZ op x)) h fun x hx h=>bi h fun y hy h=>k x y hx hy h
theorem evi_sub(h:evE cf ρ (.sub a b)=some d)(k:∀ x y,evE cf ρ a=some x→evE cf ρ b=some y→aT x y=some d→C):C:=bi (a:=evE cf ρ a) (f:=fun x=>oE (evE cf ρ b) (aT x)) h fun x hx h=>bi h fun y hy h=>k x y hx hy h
theorem qC(h:evE cf ρ (.not a)=some d)(k:∀ x t,evE cf ρ a=some x→br x=some t→.bool (!t)=d→C):C:=bi (a:=evE cf ρ a) (f:=fun x=>(br x).map fun t=>D.bool (!t)) h fun x hx h=>bh h fun t ht e=>k x t hx ht e
theorem evi_neg(h:evE cf ρ (.neg a)=some d)(k:∀ i,evE cf ρ a=some (.int i)→.int (-i)=d→C):C:=bi (a:=evE cf ρ a) (f:=fun x=>onI x fun i=>some (D.int (-i))) h fun x hx h=>cL (C:=fun x=>evE cf ρ a=some x→C) h (fun i e hx=>k i hx (Option.some.inj e)) hx
theorem evi_tup{es:List ME}(h:evE cf ρ (.tup es)=some d)(k:∀ ds,bF cf ρ es=some ds→ds.length≤big→.tup ds=d→C):C:=dJ (a:=bF cf ρ es) (f:=fun ds=>if ds.length≤big then some (D.tup ds) else Option.none) h fun x hx h=>aV h fun hl e=>k x hx hl e
theorem evi_lst{es:List ME}(h:evE cf ρ (.lst es)=some d)(k:∀ ds,bF cf ρ es=some ds→ds.length≤big→.list ds=d→C):C:=dJ (a:=bF cf ρ es) (f:=fun ds=>if ds.length≤big then some (D.list ds) else Option.none) h fun x hx h=>aV h fun hl e=>k x hx hl e
theorem evi_sl{l u:ME}(h:evE cf ρ (.sl a l u)=some d)(k:∀ x y z,evE cf ρ a=some x→evE cf ρ l=some y→evE cf ρ u=some z→slD x y z=some d→C):C:=bi (a:=evE cf ρ a) (f:=fun x=>oE (evE cf ρ l) fun y=>oE (evE cf ρ u) fun z=>slD x y z) h fun x hx h=>bi h fun y hy h=>bi h fun z hz h=>k x y z hx hy hz h
theorem evi_isi{T:String}(h:evE cf ρ (.isi a T)=some d)(k:∀ x t,evE cf ρ a=some x→kT x T=some t→.bool t=d→C):C:=bi (a:=evE cf ρ a) (f:=fun x=>(kT x T).map D.bool) h fun x hx h=>bh h fun t ht e=>k x t hx ht e
theorem evi_lcp(h:evE cf ρ (.lcp a)=some d)(k:∀ x ds,evE cf ρ a=some x→n0 x=some ds→.list ds=d→C):C:=bi (a:=evE cf ρ a) (f:=fun x=>(n0 x).map D.list) h fun x hx h=>bh h fun t ht e=>k x t hx ht e
theorem evi_sset(h:evE cf ρ (.sset a)=some d)(k:∀ x,evE cf ρ a=some x→ku x=some d→C):C:=bi (a:=evE cf ρ a) (f:=ku) h k
theorem qE{f:String}{es:List ME}(h:evE cf ρ (.blt f es)=some d)(k:∀ ds,bF cf ρ es=some ds→eZ f ds=some d→C):C:=dJ (a:=bF cf ρ es) (f:=eZ f) h k
theorem evi_callF{f:String}{es:List ME}{r:D×Bool}(h:evF cf ρ (.call f es)=some r)(k:∀ ds,bF cf ρ es=some ds→cf.call f ds=some r→C):C:=dJ (a:=bF cf ρ es) (f:=cf.call f) h k
theorem evi_call{f:String}{es:List ME}(h:evE cf ρ (.call f es)=some d)(k:∀ ds r,bF cf ρ es=some ds→cf.call f ds=some r→r.1=d→C):C:=dJ (a:=bF cf ρ es) (f:=fun ds=>(cf.call f ds).map fun (r:D×Bool)=>r.1) h fun x hx h=>bh h fun r hr e=>k x r hx hr e
theorem ov{es:List ME}{ds:List D}(h:bF cf ρ (a::es)=some ds)(k:∀ x xs,evE cf ρ a=some x→bF cf ρ es=some xs→x::xs=ds→C):C:=bi (a:=evE cf ρ a) (f:=fun x=>oEs (bF cf ρ es) fun xs=>some (x::xs)) h fun x hx h=>dJ h fun y hy h=>k x y hx hy (Option.some.inj h)
noncomputable def nC(op:BoolOp):Bool:=match op with | .And=>false | .Or=>true
theorem evi_bop{op:BoolOp}{es:List ME}(h:eC cf ρ op (a::b::es)=some d)(k:∀ x t,evE cf ρ a=some x→br x=some t→(if t=nC op then some x else eC cf ρ op (b::es))=some d→C):C:=bi (a:=evE cf ρ a) (f:=fun x=>oT (br x) fun t=>if t=nC op then some x else eC cf ρ op (b::es)) h fun x hx h=>pg h fun y hy h=>k x y hx hy h
theorem evi_cs{es:List ME}{t:Bool}(h:jQ cf ρ (a::es)=some t)(k:∀ x u,evE cf ρ a=some x→br x=some u→(if u=true then jQ cf ρ es else some false)=some t→C):C:=bi (a:=evE cf ρ a) (f:=fun x=>oT (br x) fun u=>if u=true then jQ cf ρ es else some false) h fun x hx h=>pg h fun y hy h=>k x y hx hy h
theorem d5{fr:Bool}(h:evF cf ρ a=some (d,fr))(h0:j6 a=none)(k:evE cf ρ a=some d→frF a d=fr→C):C:=by
 unfold evF at h
 rw[h0] at h
 exact bh h fun d' e q=>k (e.trans (congrArg some (Prod.mk.inj q).1)) ((Prod.mk.inj q).1▸(Prod.mk.inj q).2)

theorem pc(x:String):SE prog w A base cf (.var x):=fun s env e H ρ m d E hc c he=>
 oU.rec (motive:=fun e _=>wpAny (model prog w) A (eval e env) (aZ w s H d) E s) (fun hv=>(c.hn x (.head _) hv d he).elim fun v q=>ei c.R hv q.1 ⟨Kp.refl _,q.2⟩) (fi hc)
theorem se_glob(G:GOk mg mb base)(C:dn prog w base mg cf A)(x:String):SE prog w A base cf (.glob x):=fun s env e H ρ m d E hc c he=>
 sz.rec (motive:=fun e _=>wpAny (model prog w) A (eval e env) (aZ w s H d) E s) (fun hg=>(C.glob x d he).elim fun v q=>Calls.Name_function_global c.R.kind (d8 hg).1 (Calls.loadGlobal_global (mg:=mg) (c.R.glob▸Ns.keepAt G.g (c.hw.keep _)) q.1 ⟨Kp.refl _,q.2.mono (fun a o _ e=>c.hw.keep a o e) fun a o e q=>absurd q (c.hw.off a o e)⟩) (by simpa using (d8 hg).2)) (oh hc)
theorem se_int(i:Int):SE prog w A base cf (.int i):=fun s env e H ρ m d E hc c he=>
 eM.rec (motive:=fun e _=>wpAny (model prog w) A (eval e env) (aZ w s H d) E s) (Option.some.inj he▸wpAny_Constant_int fw) (qi hc)
theorem se_str(i:String):SE prog w A base cf (.str i):=fun s env e H ρ m d E hc c he=>
 eM.rec (motive:=fun e _=>wpAny (model prog w) A (eval e env) (aZ w s H d) E s) (Option.some.inj he▸Calls.Constant_str l7) (p9 hc)
theorem se_bool(i:Bool):SE prog w A base cf (.bool i):=fun s env e H ρ m d E hc c he=>
 eM.rec (motive:=fun e _=>wpAny (model prog w) A (eval e env) (aZ w s H d) E s) (Option.some.inj he▸PyProof.Rows.Constant_bool fK) (oi hc)
theorem se_none:SE prog w A base cf .none:=fun s env e H ρ m d E hc c he=>
 eM.rec (motive:=fun e _=>wpAny (model prog w) A (eval e env) (aZ w s H d) E s) (Option.some.inj he▸PyProof.Rows.Constant_none ⟨Kp.refl _,rfl⟩) (og hc)

noncomputable def ME.plain:ME→Bool
 | .not _ | .bop _ _ | .cmp _ _ _=>false
 | _=>true
noncomputable def ME.isComp(e:ME):Bool:=decide (e.ctorIdx=16)
structure Looks(me:ME)(e:Expr):Prop where
 star:∀ es env,starEach (e::es) env=(false,eval e env)::starEach es env
 test:me.plain=true→∀ env whole,isTrue e env whole=(do let v ← whole;standAt e.pos;holding [v] (truthy v))
 swap:me.isComp=false→∀ t l env,swapsWith e t l env=pure false
theorem n3{k:KD}{e:Expr}{me:ME}(h:aH k e me=true):Looks me e:=by
 cases me with
 | var=>exact (fi h).rec fun _=>⟨fun _ _=>rfl,fun _ _ _=>rfl,fun _ _ _ _=>rfl⟩
 | glob=>exact (oh h).rec fun _=>⟨fun _ _=>rfl,fun _ _ _=>rfl,fun _ _ _ _=>rfl⟩
 | int=>exact (qi h).rec ⟨fun _ _=>rfl,fun _ _ _=>rfl,fun _ _ _ _=>rfl⟩
 | str=>exact (p9 h).rec ⟨fun _ _=>rfl,fun _ _ _=>rfl,fun _ _ _ _=>rfl⟩
 | bool=>exact (oi h).rec ⟨fun _ _=>rfl,fun _ _ _=>rfl,fun _ _ _ _=>rfl⟩
 | none=>exact (og h).rec ⟨fun _ _=>rfl,fun _ _ _=>rfl,fun _ _ _ _=>rfl⟩
 | bin=>exact (qo h).rec fun _ _=>⟨fun _ _=>rfl,fun _ _ _=>rfl,fun _ _ _ _=>rfl⟩
 | cmp=>exact (mY h).rec fun _ _ _=>⟨fun _ _=>rfl,nofun,fun _ _ _ _=>rfl⟩
 | bop=>exact (mZ h).rec fun _=>⟨fun _ _=>rfl,nofun,fun _ _ _ _=>rfl⟩
 | not=>exact (mX h).rec fun _=>⟨fun _ _=>rfl,nofun,fun _ _ _ _=>rfl⟩
 | neg=>exact (qd h).rec fun _=>⟨fun _ _=>rfl,fun _ _ _=>rfl,fun _ _ _ _=>rfl⟩
 | tup=>exact (p8 h).rec fun _=>⟨fun _ _=>rfl,fun _ _ _=>rfl,fun _ _ _ _=>rfl⟩
 | lst=>exact (qe h).rec fun _=>⟨fun _ _=>rfl,fun _ _ _=>rfl,fun _ _ _ _=>rfl⟩
 | dct=>exact (qj h).rec fun _ _=>⟨fun _ _=>rfl,fun _ _ _=>rfl,fun _ _ _ _=>rfl⟩
 | sub=>exact (j7 h).rec fun _ _ _=>⟨fun _ _=>rfl,fun _ _ _=>rfl,fun _ _ _ _=>rfl⟩
 | sl=>exact (r4 h).rec fun _ _ _=>⟨fun _ _=>rfl,fun _ _ _=>rfl,fun _ _ _ _=>rfl⟩
 | comp=>exact (kW h).rec fun _ _ _ _ _=>⟨fun _ _=>rfl,fun _ _ _=>rfl,nofun⟩
 | call=>exact (iL h).rec fun _ _=>⟨fun _ _=>rfl,fun _ _ _=>rfl,fun _ _ _ _=>rfl⟩
 | blt=>exact (qm h).rec fun _ _=>⟨fun _ _=>rfl,fun _ _ _=>rfl,fun _ _ _ _=>rfl⟩
 | isi=>exact (qh h).rec fun _ _ _=>⟨fun _ _=>rfl,fun _ _ _=>rfl,fun _ _ _ _=>rfl⟩
 | lcp=>exact (qf h).rec fun _ _=>⟨fun _ _=>rfl,fun _ _ _=>rfl,fun _ _ _ _=>rfl⟩
 | sset=>exact (od h).rec fun _ _=>⟨fun _ _=>rfl,fun _ _ _=>rfl,fun _ _ _ _=>rfl⟩
 | srt=>exact (qc h).rec fun _ _ _=>⟨fun _ _=>rfl,fun _ _ _=>rfl,fun _ _ _ _=>rfl⟩
theorem eW{k:KD}{es:List Expr}{ms:List ME}{C:List Expr→Prop}(h:bH k es (a::ms)=true)(c:∀ e es,aH k e a=true→bH k es ms=true→C (e::es)):C es:=by
 cases es with
 | nil=>cases h
 | cons e es=>exact bN h (c e es)
theorem lv{k:KD}{es:List Expr}{C:List Expr→Prop}(h:bH k es []=true)(c:C []):C es:=jO h c
theorem gy{k:KD}{e:Expr}{a:ME}(h:aH k e a=true){es:List Expr}{env:Env}:starEach (e::es) env=(false,eval e env)::starEach es env:=(n3 h).star es env
theorem ec{es:List Expr}{ms:List ME}{k:KD}(hc:bH k es ms=true)(env:Env):starEach es env=es.map fun e=>(false,eval e env):=by
 induction ms generalizing es with
 | nil=>exact lv (C:=fun es=>starEach es env=es.map fun e=>(false,eval e env)) hc rfl
 | cons a r ih=>exact eW (C:=fun es=>starEach es env=es.map fun e=>(false,eval e env)) hc fun e es h1 h2=>(gy h1).trans (congrArg _ (ih h2))
theorem e5(pos:Pos)(es:List Expr)(env:Env):backTo pos (es.map fun e=>(false,eval e env))=es.map fun e=>(false,eval e env):=List.map_map

theorem sf_bin{op:Operator}(ha:SE prog w A base cf a)(hb:SE prog w A base cf b):SF prog w A base cf (.bin op a b):=fun s env e H ρ m d fr E hc c he=>
 d5 he rfl fun he hf=>evi_bin he fun x y hx hy hd=>IBin.rec (motive:=fun e _=>wpAny (model prog w) A (eval e env) (bI w s H d fr) E s) (fun h1 h2=>wpAny_BinOp (ha.go h1 c.l hx fun v s₁ q₁=>hb.go h2 (c.r.k q₁.k) hy fun v₂ s₂ q₂=>
  have k:=Kp.trans q₁.k q₂.k
  be (bin_snd (q₁.r.keeps (Kp.heap q₂.k)) q₂.r (c.k k).x hd) fun v₃ s₃ q₃=>hf▸q₃.tr k)) (qo hc)
theorem rD{op:CmpOp}(hu:A.units+1<cLine)(ha:SE prog w A base cf a)(hb:SE prog w A base cf b):SE prog w A base cf (.cmp op a b):=fun s env e H ρ m d E hc c he=>
 qD he fun x y hx hy hd=>ICmp.rec (motive:=fun e _=>wpAny (model prog w) A (eval e env) (aZ w s H d) E s) (fun hs h1 h2=>wpAny_Compare1 (ha.go h1 c.l hx fun v s₁ q₁=>hb.go h2 (c.r.k q₁.k) hy fun v₂ s₂ q₂=>
  be (qJ (q₁.r.keeps (Kp.heap q₂.k)) q₂.r hu hd) fun v₃ s₃ q₃=>q₃.tr (Kp.trans q₁.k q₂.k)) (iE hs)) (mY hc)
theorem st_cmp{op:CmpOp}(hu:A.units+1<cLine)(ha:SE prog w A base cf a)(hb:SE prog w A base cf b):ST prog w A base cf (.cmp op a b):=fun s env e H ρ m d t E hc c he ht=>
 qD he fun x y hx hy hd=>ICmp.rec (motive:=fun e _=>wpAny (model prog w) A (isTrue e env (eval e env)) (dh s t) E s) (fun hs h1 h2=>wpAny_isTrue_Compare1 (ha.go h1 c.l hx fun v s₁ q₁=>hb.go h2 (c.r.k q₁.k) hy fun v₂ s₂ q₂=>
  be (qJ (q₁.r.keeps (Kp.heap q₂.k)) q₂.r hu hd) fun v₃ s₃ q₃=>be (eP q₃.r ht) fun v₄ s₄ q₄=>q₄.tr (Kp.trans (Kp.trans q₁.k q₂.k) q₃.k)) (iE hs)) (mY hc)
theorem rC(ha:SE prog w A base cf a):SE prog w A base cf (.not a):=fun s env e H ρ m d E hc c he=>
 qC he fun x t hx ht hd=>IUn.rec (motive:=fun e _=>wpAny (model prog w) A (eval e env) (aZ w s H d) E s) (fun h=>PyProof.Rows.UnaryOp_ (ha.go h c hx fun v s₁ q₁=>PyProof.Rows.not_of (be (eP q₁.r ht) fun b s₂ q₂=>⟨Kp.trans q₁.k q₂.k,hd▸q₂.e▸rfl⟩))) (mX hc)
theorem st_not(ha:ST prog w A base cf a):ST prog w A base cf (.not a):=fun s env e H ρ m d t E hc c he ht=>
 qC he fun x t' hx ht' hd=>IUn.rec (motive:=fun e _=>wpAny (model prog w) A (isTrue e env (eval e env)) (dh s t) E s) (fun h=>PyProof.Rows.isTrue_not (be (ha s env _ H ρ m x t' E h c hx ht') fun b s₂ q₂=>⟨q₂.k,(congrArg _ q₂.e).trans (Option.some.inj ((congrArg br hd).trans ht))⟩)) (mX hc)
theorem se_neg(ha:SE prog w A base cf a):SE prog w A base cf (.neg a):=fun s env e H ρ m d E hc c he=>
 evi_neg he fun i hx hd=>IUn.rec (motive:=fun e _=>wpAny (model prog w) A (eval e env) (aZ w s H d) E s) (fun h=>PyProof.Rows.UnaryOp_ (ha.go h c hx fun v s₁ q₁=>q₁.r.intE fun _=>PyProof.Rows.neg_int (hd▸fw.tr q₁.k))) (qd hc)
theorem pI:SEs prog w A base cf []:=fun s env es H ρ m ds E hc c he=>
 lv (C:=fun es=>wpAny (model prog w) A (spliced (es.map fun e=>(false,eval e env))) (sw w s H ds) E s) hc (Calls.spliced_nil ⟨Kp.refl _,Option.some.inj he▸rfl⟩)
theorem nM{r:List ME}(ha:SE prog w A base cf a)(hr:SEs prog w A base cf r):SEs prog w A base cf (a::r):=fun s env es H ρ m ds E hc c he=>
 ov he fun x xs hx hxs e=>eW (C:=fun es=>wpAny (model prog w) A (spliced (es.map fun e=>(false,eval e env))) (sw w s H ds) E s) hc fun e₁ es₁ h1 h2=>Calls.spliced_cons (ha.go h1 c.l hx fun v s₁ q₁=>be (hr s₁ env es₁ H ρ m xs E h2 (c.r.k q₁.k) hxs) fun vs s₂ q₂=>q₂.rec fun k r=>⟨Kp.trans q₁.k k,e▸.cons (q₁.r.keeps (Kp.heap k)) r⟩)
theorem se_tup{ms:List ME}(hr:SEs prog w A base cf ms):SE prog w A base cf (.tup ms):=fun s env e H ρ m d E hc c he=>
 evi_tup he fun ds hds hl hd=>ITup.rec (motive:=fun e _=>wpAny (model prog w) A (eval e env) (aZ w s H d) E s) (fun {vs n p} h=>PyProof.Rows.Tuple_ (by
  rw[ec h,e5]
  exact be (hr s env _ H ρ m ds E h c hds) fun vs s₁ q₁=>q₁.rec fun k r=>wpAny_newObj_type ⟨Kp.trans k (Kp.push _ _),hd▸hY (c.k k).x hl r⟩ (show vs.toArray.size≤sizeLine from Nat.le_trans (Nat.le_of_eq (List.size_toArray.trans r.length)) hl))) (p8 hc)
theorem sf_lst{ms:List ME}(hr:SEs prog w A base cf ms):SF prog w A base cf (.lst ms):=fun s env e H ρ m d fr E hc c he=>
 d5 he rfl fun he hf=>evi_lst he fun ds hds hl hd=>ILst.rec (motive:=fun e _=>wpAny (model prog w) A (eval e env) (bI w s H d fr) E s) (fun {vs p} h=>PyProof.Rows.List_ (by
  rw[ec h,e5]
  exact be (hr s env _ H ρ m ds E h c hds) fun vs s₁ q₁=>q₁.rec fun k r=>wpAny_newObj_type (hd▸hf▸(gB (vs:=vs.toArray) (c.k k).x hl r (fun _ _ e=>Heap.gt_push_of_some _ e) (Heap.get?_push_size _ rfl)).tr k) (show vs.toArray.size≤sizeLine from Nat.le_trans (Nat.le_of_eq (List.size_toArray.trans r.length)) hl))) (qe hc)
end
end Mine
namespace Mine
open PySem PySem.SeqAt

section
variable {prog:Program} {w:World} {A:Around} {s:Shared} {base:Heap} {mg mb:Str→Option Value} {cf:CF} {H:Addr→Prop} {E:Value→Shared→Prop} {a b:ME} {d:D}

theorem se_of_sf{me:ME}(h:SF prog w A base cf me)(hf:∀ ρ d,evE cf ρ me=some d→∃ fr,evF cf ρ me=some (d,fr)):SE prog w A base cf me:=fun s env e H ρ m d E hc c he=>
 (hf ρ d he).elim fun fr hfr=>be (h s env e H ρ m d fr E hc c hfr) fun _ _ q=>q.post
theorem subscripted_plain{sl:Expr}{o i:Value}(h:∀ a b c d,sl=.Slice a b c d→False):subscripted sl false o i=operate [o,i] (getItem o i):=by
 cases sl with
 | Slice a b c d=>exact (h a b c d rfl).elim
 | _=>rfl
theorem rB(hu:A.units+1<cLine)(ha:SE prog w A base cf a)(hb:SE prog w A base cf b):SE prog w A base cf (.sub a b):=fun s env e H ρ m d E hc c he=>
 evi_sub he fun x y hx hy hd=>ISub.rec (motive:=fun e _=>wpAny (model prog w) A (eval e env) (aZ w s H d) E s) (fun hns h1 h2=>PyProof.Rows.Subscript_ (ha.go h1 c.l hx fun v s₁ q₁=>hb.go h2 (c.r.k q₁.k) hy fun v₂ s₂ q₂=>
  have g:=getItem_snd hu (prog:=prog) (w:=w) (A:=A) (E:=E) (q₁.r.keeps (Kp.heap q₂.k)) q₂.r hd
  g.2.elim fun T q=>q.elim fun id q=>PyProof.Rows.tail_any q.1 q.2 (be g.1 fun v₃ s₃ q₃=>q₃.tr (Kp.trans q₁.k q₂.k)) (subscripted_plain hns))) (j7 hc)

theorem nS(ha:SE prog w A base cf a){s:Shared}{env:Env}{l:Option Expr}{H:Addr→Prop}{ρ:List (String×D)}{m:Str→Option Value}{d:D}{Q:Value→Shared→Prop}
  (hc:chkO env.kindOf l a=true) (c:Cc w base s env H ρ m a.names) (he:evE cf ρ a=some d) (k:∀ v s₁,aZ w s H d v s₁→Q v s₁):wpAny (model prog w) A (evalPart l env) Q E s:=by
 cases l with
 | none=>exact wpAny_pure (k _ _ ⟨Kp.refl _,isNone_inv (C:=fun a=>evE cf ρ a=some d→Rep w.params s.heap H .none d) hc (fun he=>Option.some.inj he▸rfl) he⟩)
 | some x=>exact ha.go hc c he k
theorem lX{α:Type}(l:List α)(a b:Nat):(l.drop (min a l.length)).take (min b l.length - min a l.length)=(l.take b).drop a:=by
 rw[List.drop_take]
 by_cases ha:a≤l.length
 ·rw[Nat.min_eq_left ha]
  by_cases hb:b≤l.length
  ·rw[Nat.min_eq_left hb]
  ·have hb:=Nat.le_of_not_le hb
   rw[Nat.min_eq_right hb,List.take_of_length_le (Nat.le_of_eq List.length_drop),List.take_of_length_le (by rw[List.length_drop];exact Nat.sub_le_sub_right hb a)]
 ·have ha:=Nat.le_of_not_le ha
  rw[Nat.min_eq_right ha,List.drop_of_length_le (Nat.le_refl _),List.drop_of_length_le ha,List.take_nil,List.take_nil]
structure iv(v:Value)(n dflt:Nat)(k:Option Int):Prop where
 p:IsPart v k
 e:(k=none∧n=dflt)∨k=some (n:Int)
theorem iD{P:Params}{h:Heap}{v:Value}{x:D}{n:Nat}(dflt:Nat)(rv:Rep P h H v x)(hv:bnd x dflt=some n):∃ k,iv v n dflt k:=by
 cases x with
 | none=>exact rv.noneE ⟨none,.none,.inl ⟨rfl,(Option.some.inj hv).symm⟩⟩
 | int i=>exact rv.intE fun t=>aV hv fun hi e=>⟨some i,.int _ _,.inr (by rw[← e,Int.toNat_of_nonneg hi])⟩
 | _=>exact ak hv
theorem iv.clip{v:Value}{n dflt k:Nat}{o:Option Int}(h:iv v k dflt o)(hd:dflt≤n):o.elim dflt (clipAt n)=min k n:=h.e.elim (fun q=>by rw[q.1,q.2,Nat.min_eq_left hd];rfl) fun q=>by rw[q];exact clipAt_nat n k
theorem sl_list{x:Value}{ds:List D}{vl vu:Value}{lo hi:D}(hH:Ex s.heap H)(rx:Rep w.params s.heap H x (.list ds))(rl:Rep w.params s.heap H vl lo)(ru:Rep w.params s.heap H vu hi)(he:slD (.list ds) lo hi=some d){a:Addr}
  (ho:s.heap.get? a=some { cls:=.type "slice",data:=.fields #[vl,vu,.none] }):wpAny (model prog w) A (getItem x (.ref a)) (bI w s H d d.isList) E s:=
 fM he fun a' h1 he=>bh he fun b' h2 e=>e▸rx.listE fun l vs n hx hno hle hr=>(iD 0 rl h1).elim fun ka pa=>(iD vs.size ru (hr.size.symm▸h2)).elim fun kb pb=>
  wpAny_getItem_list_slice (aR hx) ⟨_,ho,rfl,rfl⟩ pa.p pb.p .none nofun (gB hH (by rw[List.length_drop,List.length_take];exact Nat.le_trans (Nat.sub_le _ _) (Nat.le_trans (Nat.min_le_right _ _) hle)) (by
   rw[slicePick_plain,pa.clip (Nat.zero_le _),pb.clip (Nat.le_refl _)]
   exact (lX vs.toList a' b').symm▸(hr.take b').drop a') (fun _ _ e=>Heap.gt_push_of_some _ e) (Heap.get?_push_size _ rfl)) (hr.size.symm▸hle)
theorem nR{P:Params}{h:Heap}{v:Value}{d:D}{a:Option Int}(r:Rep P h H v d)(ha:bndS d=some a):∃ l:Option (Int×Tok),v=partValue l∧l.map (·.1)=a:=by
 cases d with
 | none=>exact r.noneE ⟨none,rfl,Option.some.inj ha⟩
 | int i=>exact r.intE fun t=>⟨some (i,t),rfl,Option.some.inj ha⟩
 | _=>exact ak ha
theorem sl_str{x:Str}{t:Tok}{vl vu:Value}{lo hi:D}(rl:Rep w.params s.heap H vl lo)(ru:Rep w.params s.heap H vu hi)(he:slD (.str x) lo hi=some d){a:Addr}
  (ho:s.heap.get? a=some { cls:=.type "slice",data:=.fields #[vl,vu,.none] }):wpAny (model prog w) A (getItem (.str x t) (.ref a)) (bI w s H d d.isList) E s:=
 bQ he fun hsz he=>fM he fun a' h1 he=>bh he fun b' h2 e=>(nR rl h1).elim fun l ql=>(nR ru h2).elim fun u qu=>by
  obtain⟨rfl,rfl⟩:=ql
  obtain⟨rfl,rfl⟩:=qu
  exact e▸wpAny_getItem_str_slice (st:=none) ⟨_,ho,rfl,rfl⟩ rfl (post_val_or_str ⟨Nat.le_trans (Txt.slice_le _ _ _) hsz,fun t' k=>l7.pf rfl⟩)
theorem gO{v:Value}{k:Option Int}{Q:Option Int→Shared→Prop}(hp:IsPart v k)(h:Q k s):wpAny (model prog w) A (Builtin.Slice.slicePartIndex v) Q E s:=by
 cases hp with
 | none=>exact PyProof.Rows.slicePart_none h
 | int i t=>exact PyProof.Rows.slicePart_int h
theorem adjust_nat{vl vu:Value}{ka kb:Option Int}{a b n:Nat}(ha:iv vl a 0 ka)(hb:iv vu b n kb):Builtin.Slice.sliceAdjust ka kb 1 (n:Int)=(((min a n:Nat):Int),((min b n:Nat):Int)):=by
 unfold Builtin.Slice.sliceAdjust
 have h1:¬ ((1:Int)<0):=by decide
 simp only[h1,if_false]
 congr 1
 ·rcases ha.e with⟨rfl,rfl⟩ | rfl
  ·show (0:Int)=_;omega
  ·show (if (a:Int)<0 then _ else _)=_
   rw[if_neg (by omega)];omega
 ·rcases hb.e with⟨rfl,rfl⟩ | rfl
  ·show (b:Int)=_;omega
  ·show (if (b:Int)<0 then _ else _)=_
   rw[if_neg (by omega)];omega
theorem places_nat(a b:Nat):Builtin.Slice.slicePlaces (a:Int) (b:Int) 1=b - a:=by
 unfold Builtin.Slice.slicePlaces
 have h1:(1:Int) > 0:=by decide
 simp only[h1,if_true,Int.ediv_one]
 split <;> omega
theorem pick_nat(xs:Array Value)(a k:Nat):((List.range k).filterMap fun (j:Nat)=>xs[((a:Int)+(j:Int) * 1).toNat]?)=(xs.toList.drop a).take k:=by
 have e:(fun (j:Nat)=>xs[((a:Int)+(j:Int) * 1).toNat]?)=fun j=>xs[a+j]?:=by
  funext j
  have:((a:Int)+(j:Int) * 1).toNat=a+j:=by omega
  rw[this]
 rw[e]
 have:=pick_run xs a k
 rw[List.filterMap_map] at this
 exact this
theorem sliceApplied_nat{sl:Addr}{vl vu:Value}{ka kb:Option Int}{a b n:Nat}{Q:Int×Int×Nat→Shared→Prop}(hs:s.heap.get? sl=some { cls:=.type "slice",data:=.fields #[vl,vu,.none] })(pa:iv vl a 0 ka)(pb:iv vu b n kb)(h:Q (((min a n:Nat):Int),1,min b n - min a n) s):wpAny (model prog w) A (Builtin.Slice.sliceApplied (.ref sl) (pure (n:Int))) Q E s:=by
 unfold Builtin.Slice.sliceApplied Builtin.Slice.sliceFields
 refine wpAny_bind (wpAny_bind (wpAny_field hs rfl (x:=vl) rfl (wpAny_bind (wpAny_field hs rfl (x:=vu) rfl (wpAny_bind (wpAny_field hs rfl (x:=.none) rfl (wpAny_pure ?_)))))))
 refine wpAny_bind (PyProof.Rows.slicePart_none ?_)
 show wpAny _ _ (if ((1:Int) == 0)=true then _ else _) _ _ s
 rw[if_neg (by decide)]
 refine wpAny_bind (gO pa.p (wpAny_bind (gO pb.p (wpAny_bind (wpAny_pure ?_)))))
 show wpAny _ _ (match Builtin.Slice.sliceAdjust ka kb 1 (n:Int) with | (lo,hi)=>pure (lo,(1:Int),Builtin.Slice.slicePlaces lo hi 1)) _ _ s
 rw[adjust_nat pa pb]
 show wpAny _ _ (pure (((min a n:Nat):Int),(1:Int),Builtin.Slice.slicePlaces ((min a n:Nat):Int) ((min b n:Nat):Int) 1)) _ _ s
 rw[places_nat]
 exact wpAny_pure h
theorem sl_tup{x:Value}{ds:List D}{vl vu:Value}{lo hi:D}(hH:Ex s.heap H)(rx:Rep w.params s.heap H x (.tup ds))(rl:Rep w.params s.heap H vl lo)(ru:Rep w.params s.heap H vu hi)(he:slD (.tup ds) lo hi=some d){sl:Addr}
  (ho:s.heap.get? sl=some { cls:=.type "slice",data:=.fields #[vl,vu,.none] }):wpAny (model prog w) A (getItem x (.ref sl)) (bI w s H d d.isList) E s:=by
 refine fM he fun a h1 he=>bh he fun b h2 e=>e▸rx.tupE fun t items n hx hno hle hr=>(iD 0 rl h1).elim fun ka pa=>(iD items.size ru (hr.size.symm▸h2)).elim fun kb pb=>?_
 have ht:=dP hx
 have hlen:((ds.take b).drop a).length≤big:=by rw[List.length_drop,List.length_take];exact Nat.le_trans (Nat.sub_le _ _) (Nat.le_trans (Nat.min_le_right _ _) hle)
 have hclip:aq w.params s.heap H ((items.toList.drop (min a items.size)).take (min b items.size - min a items.size)) ((ds.take b).drop a):=(lX items.toList a b).symm▸(hr.take b).drop a
 unfold getItem
 try with_reducible refine wpAny_holding ?_
 first | refine wpAny_bind (wpAny_pure ?_) | skip
 refine wpAny_bind (wpAny_sequenceKey ht.typeIs (by decide) ?_)
 refine wpAny_bind (wpAny_callSpecial?_slot (name:=Str.ofString "__getitem__") ht.typeIs PyProof.Rows.slot_tuple_getitem
  (wpAny_call_entry PyProof.Rows.slot_tuple_getitem ht.typeIs PyProof.Rows.entry_tuple_getitem ?_ (PyProof.Rows.args_tuple_getitem _ _)))
 show wpAny _ _ (Builtin.Tuple.tupleItemsOf (.ref t) >>= _) _ _ s
 refine wpAny_bind (PyProof.Rows.tupleItemsOf_ ht (wpAny_bind (wpAny_typeOf (show s.TypeIs (.ref sl) "slice" from⟨_,ho,rfl⟩) ?_)))
 rw[if_pos (by decide)]
 refine wpAny_bind (sliceApplied_nat ho pa pb ?_)
 show wpAny _ _ (if (((min a items.size:Nat):Int) == 0&&(1:Int) == 1&&(min b items.size - min a items.size) == items.size)=true then _ else _) _ _ s
 split
 ·rename_i hc
  refine fF hc fun c1 _ c2=>?_
  have e0:min a items.size=0:=Int.ofNat.inj (eq_of_beq c1)
  have e2:=eq_of_beq c2
  rw[e0,Nat.sub_zero] at e2
  rw[e0,Nat.sub_zero,e2,List.drop_zero,List.take_of_length_le (Nat.le_of_eq Array.length_toList)] at hclip
  refine wpAny_bind (m:=Builtin.Tuple.tupleIsExact _) (wpAny_bind (wpAny_typeOf ht.typeIs (wpAny_pure ?_)))
  rw[if_pos (by decide)]
  exact wpAny_bind (wpAny_rule (wpAny_pure ⟨_,rfl,wpAny_pure ⟨Kp.refl _,.mk hx hno hlen hclip,nofun⟩⟩))
 ·rw[pick_nat]
  exact wpAny_bind (m:=Builtin.Tuple.tupleExact _) (wpAny_newObj_type (wpAny_pure ⟨_,rfl,wpAny_pure ⟨Kp.push _ _,hY hH hlen hclip,nofun⟩⟩) (show ((items.toList.drop (min a items.size)).take (min b items.size - min a items.size)).toArray.size≤sizeLine from Nat.le_trans (Nat.le_of_eq (List.size_toArray.trans hclip.length)) (Nat.le_trans hlen (by decide))))
theorem slice_snd{v:Value}{x:D}{vl vu:Value}{lo hi:D}(hH:Ex s.heap H)(rx:Rep w.params s.heap H v x)(rl:Rep w.params s.heap H vl lo)(ru:Rep w.params s.heap H vu hi)(he:slD x lo hi=some d){a:Addr}
  (ho:s.heap.get? a=some { cls:=.type "slice",data:=.fields #[vl,vu,.none] }):wpAny (model prog w) A (getItem v (.ref a)) (bI w s H d d.isList) E s∧sC s v:=by
 cases x with
 | str x=>exact rx.strE fun t=>⟨sl_str rl ru he ho,"str",_,typeIs_str _ _ _,F.slot_str_getitem.lookup⟩
 | tup ds=>exact⟨sl_tup hH rx rl ru he ho,rx.tupE fun _ _ _ hx _ _ _=>⟨"tuple",_,(dP hx).typeIs,F.slot_tuple_getitem.lookup⟩⟩
 | list ds=>exact⟨sl_list hH rx rl ru he ho,rx.listE fun _ _ _ hx _ _ _=>⟨"list",_,(aR hx).typeIs,F.slot_list_getitem.lookup⟩⟩
 | _=>exact ak he
theorem sf_sl{lo hi:ME}(ha:SE prog w A base cf a)(hl:SE prog w A base cf lo)(hh:SE prog w A base cf hi):SF prog w A base cf (.sl a lo hi):=fun s env e H ρ m d fr E hc c he=>
 d5 he rfl fun he hf=>evi_sl he fun x y z hx hy hz hd=>ISl.rec (motive:=fun e _=>wpAny (model prog w) A (eval e env) (bI w s H d fr) E s) (fun h1 h2 h3=>PyProof.Rows.Subscript_ (ha.go h1 c.l.l hx fun v s₁ q₁=>wpAny_Slice (nS hl h2 (c.l.r.k q₁.k) hy fun vl s₂ q₂=>
  have k2:=Kp.trans q₁.k q₂.k
  nS hh h3 (c.r.k k2) hz fun vu s₃ q₃=>wpAny_pure (
   have kp:=Kp.push s₃ { cls:=.type "slice",data:=.fields #[vl,vu,.none] }
   have k3:=Kp.trans (Kp.trans k2 q₃.k) kp
   have g:=slice_snd (prog:=prog) (A:=A) (E:=E) (s:={ s₃ with heap:=s₃.heap.push { cls:=.type "slice",data:=.fields #[vl,vu,.none] } }) (c.k k3).x (q₁.r.keeps (Kp.heap (Kp.trans (Kp.trans q₂.k q₃.k) kp))) (q₂.r.keeps (Kp.heap (Kp.trans q₃.k kp))) (q₃.r.keeps (Kp.heap kp)) hd (Heap.get?_push_size s₃.heap rfl)
   g.2.elim fun T q=>q.elim fun id q=>PyProof.Rows.tail_any (ops:=[_,_]) q.1 q.2 (be g.1 fun _ _ q=>hf▸q.tr k3) rfl)))) (r4 hc)
end
end Mine
namespace Mine
open PySem PySem.SeqAt

section
variable {prog:Program} {w:World} {A:Around} {s:Shared} {base:Heap} {mg mb:Str→Option Value} {cf:CF}

theorem fj{f:Value}{es:List Expr}{ms:List ME}{env:Env}{pos:Pos}{Q:Args→Shared→Prop}{E:Value→Shared→Prop}(hc:bH env.kindOf es ms=true)
  (h:wpAny (model prog w) A (spliced (es.map fun e=>(false,eval e env))) (fun vs s'=>Q ⟨vs,[]⟩ s') E s) :
  wpAny (model prog w) A (evalArgs f true (backTo pos (starEach es env)) []) Q E s:=by
 rw[ec hc,e5]
 cases es with
 | nil=>
  unfold evalArgs
  show wpAny _ A (spliced [] >>= _) Q E s
  exact wpAny_bind (be h fun vs s' h'=>wpAny_bind (wpAny_pure (wpAny_holding (wpAny_bind (wpAny_pure (wpAny_bind (wpAny_pure (wpAny_pure h'))))))))
 | cons e es=>exact Calls.evalArgs_plain h

theorem any_false(es:List Expr)(env:Env):((es.map fun e=>(false,eval e env)).any (·.1))=false:=by
 induction es with
 | nil=>rfl
 | cons _ _ ih=>simpa using ih

theorem pH(G:GOk mg mb base)(C:CS0 prog w base mg cf A){f:String}{ms:List ME}(hr:SEs prog w A base cf ms):SF prog w A base cf (.call f ms):=fun s env e H ρ m d fr E hc c he=>
 evi_callF he fun ds hds hcl=>mG.rec (motive:=fun e _=>wpAny (model prog w) A (eval e env) (bI w s H d fr) E s) (fun {gp as pos} hg h=>(C f ds d fr hcl).elim fun a q=>q.elim fun o q=>q.elim fun fd q=>
  PyProof.Rows.Call_Name rfl (Calls.Name_function_global c.R.kind (d8 hg).1 (Calls.loadGlobal_global (mg:=mg) (c.R.glob▸Ns.keepAt G.g (c.hw.keep _)) q.1 (Calls.callWith_function (o:=o) (fd:=fd) (fj h (
   be (hr s env as H ρ m ds E h c hds) fun vs s₁ q₁=>q₁.rec fun k r=>⟨⟨Heap.of_gt ((c.k k).hw.keep _ _ q.2.1) (bT (by rw[q.2.2.1];nofun)),q.2.2.1⟩,be (q.2.2.2 s₁ H vs E (c.k k).hw r) fun v s₂ q₂=>q₂.tr k⟩)))) (by simpa using (d8 hg).2))) (iL hc)

theorem dO(G:GOk mg mb base){env:Env}{m:Str→Option Value}{H:Addr→Prop}{f:String}{p:Pos}{E:Value→Shared→Prop}{Q:Value→Shared→Prop}(hf:f∈cj)(R:a7 s.heap env m)(hw:HOk base s.heap H)
  (hg:bJ env.kindOf (Str.ofString f)=true) (h:Q (cJ f) s):wpAny (model prog w) A (eval (.Name (Str.ofString f) p) env) Q E s:=
 Calls.Name_function_global R.kind (d8 hg).1 (Calls.loadGlobal_builtin (mg:=mg) (mb:=mb) (R.glob▸Ns.keepAt G.g (hw.keep _)) (G.blt f hf).1 (R.blt▸Ns.keepAt G.b (hw.keep _)) (G.blt f hf).2 h) (by simpa using (d8 hg).2)
theorem bltVal_is(f:String):(∃ id,cJ f=.builtin id)∨∃ T,cJ f=.type T:=by
 unfold cJ
 cases sq.contains f with
 | true=>exact .inl ⟨_,rfl⟩
 | false=>exact .inr ⟨_,rfl⟩
theorem de{f:String}{pos:Pos}{es:List Expr}{ms:List ME}{env:Env}{Q:Value→Shared→Prop}{E:Value→Shared→Prop}(hc:bH env.kindOf es ms=true)
  (h:wpAny (model prog w) A (spliced (es.map fun e=>(false,eval e env))) (fun vs s'=>wpAny (model prog w) A (call (cJ f) vs) Q E s') E s) :
  wpAny (model prog w) A (callWith pos (cJ f) [] (backTo pos (starEach es env)) []) Q E s:=by
 have hp:(backTo pos (starEach es env)).any (·.1)=false:=by rw[ec hc,e5];exact any_false _ _
 rcases bltVal_is f with⟨id,e⟩ | ⟨T,e⟩
 ·rw[e] at h ⊢;exact Calls.callWith_builtin hp (fj hc h)
 ·rw[e] at h ⊢;exact PyProof.Rows.callWith_type hp (fj hc h)
theorem se_blt(G:GOk mg mb base)(hh:A.handled=none){f:String}{ms:List ME}(hf:f∈cj)(hr:SEs prog w A base cf ms):SE prog w A base cf (.blt f ms):=fun s env e H ρ m d E hc c he=>
 qE he fun ds hds hd=>mG.rec (motive:=fun e _=>wpAny (model prog w) A (eval e env) (aZ w s H d) E s) (fun {gp as pos} hg h=>PyProof.Rows.Call_Name rfl (dO G hf c.R c.hw hg (de h (
  be (hr s env as H ρ m ds E h c hds) fun vs s₁ q₁=>q₁.rec fun k r=>be (blt_snd hh r (c.k k).x hd) fun v s₂ q₂=>q₂.tr k)))) (qm hc)
theorem qY{k:KD}{x:Expr}{a:ME}(h:aH k x a=true):bH k [x] [a]=true:=Bool.and_eq_true_iff.mpr ⟨h,rfl⟩
theorem sf_lcp(G:GOk mg mb base)(hh:A.handled=none){a:ME}(ha:SE prog w A base cf a):SF prog w A base cf (.lcp a):=fun s env e H ρ m d fr E hc c he=>
 d5 he rfl fun he hf=>evi_lcp he fun x ds hx hds hd=>gt.rec (motive:=fun e _=>wpAny (model prog w) A (eval e env) (bI w s H d fr) E s) (fun hg h=>PyProof.Rows.Call_Name rfl (dO G (f:="list") (by decide) c.R c.hw hg (de (qY h) (Calls.spliced_cons (
  ha.go h c hx fun v s₁ q₁=>Calls.spliced_nil (be (lst_snd hh q₁.r (c.k q₁.k).x hds) fun v s₂ q₂=>hd▸hf▸q₂.tr q₁.k)))))) (qf hc)
theorem n8{d:D}{T:String}{t:Bool}(h:kT d T=some t):T∈cj∧cJ T=.type T:=
 bQ h fun hT _=>mo (C:=fun T=>T∈cj∧cJ T=.type T) hT ⟨by decide,rfl⟩ ⟨by decide,rfl⟩ ⟨by decide,rfl⟩ ⟨by decide,rfl⟩ ⟨by decide,rfl⟩
theorem se_isi(G:GOk mg mb base){a:ME}{T:String}(ha:SE prog w A base cf a):SE prog w A base cf (.isi a T):=fun s env e H ρ m d E hc c he=>
 evi_isi he fun x t hx ht hd=>IIsi.rec (motive:=fun e _=>wpAny (model prog w) A (eval e env) (aZ w s H d) E s) (fun {gp x tp pos} hg hg2 h=>PyProof.Rows.Call_Name (trees:=[(false,eval x env),(false,eval (.Name (Str.ofString T) tp) env)]) (by rw[gy h];rfl) (dO G (f:="isinstance") (by decide) c.R c.hw hg
  (Calls.callWith_builtin rfl (Calls.evalArgs_plain (Calls.spliced_cons (ha.go h c hx fun v s₁ q₁=>Calls.spliced_cons (dO G (n8 ht).1 (c.k q₁.k).R (c.k q₁.k).hw hg2 (Calls.spliced_nil ((n8 ht).2.symm▸be (isi_snd q₁.r ht) fun v s₂ q₂=>hd▸q₂.tr q₁.k))))))))) (qh hc)
end
end Mine
namespace Mine
open PySem PyProof.Rows

theorem mid_in{lo hi:Nat}(h:lo<hi):lo≤(lo+hi) / 2∧(lo+hi) / 2<hi:=
 ⟨(Nat.le_div_iff_mul_le (Nat.succ_pos 1)).mpr (Nat.mul_two lo▸Nat.add_le_add_left (Nat.le_of_lt h) lo),Nat.div_lt_of_lt_mul (Nat.two_mul hi▸Nat.add_lt_add_right h hi)⟩
theorem mid_less{lo hi m n x:Nat}(h1:lo≤m)(h2:m<hi)(h3:hi - lo≤n - x)(h4:x<n):hi - (m+1)≤n - (x+1)∧m - lo≤n - (x+1):=
 ⟨Nat.le_trans (Nat.sub_le_sub_left (Nat.succ_le_succ h1) hi) (Nat.pred_le_pred h3),Nat.le_pred_of_lt (Nat.lt_of_lt_of_le (Nat.sub_lt_sub_right h1 h2) h3)⟩
structure Wk(kl:Nat→Nat→Bool):Prop where
 irr:∀ p,kl p p=false
 tr:∀ {p q r},kl p q=true→kl q r=true→kl p r=true
 neg:∀ {p q r},kl p q=false→kl q r=false→kl p r=false

section
variable {kl:Nat→Nat→Bool}
structure Mg(R:Nat→Nat→Prop)(T G xs ys:List Nat):Prop where
 perm:(G++(xs++ys)).Perm T
 srt:G.Pairwise R
 le:∀ g∈G,∀ y,y∈xs∨y∈ys→R g y
variable {R:Nat→Nat→Prop} {T G xs ys:List Nat}
end
end Mine
namespace Mine
open PySem

noncomputable abbrev Ris(xs:Array Nat):Prop:=xs.toList.Pairwise (·<·)
theorem lE{xs:Array Nat}(hr:Ris xs)(j:Nat):∀ (fuel lo hi:Nat),hi - lo≤fuel→lo≤hi→hi≤xs.size→(∀ i (h:i<xs.size),i<lo→xs[i]<j)→(∀ i (h:i<xs.size),hi≤i→j≤xs[i]) →
  ∃ k,SetTable.below.go xs j fuel lo hi=k∧k≤xs.size∧(∀ i (h:i<xs.size),i<k→xs[i]<j)∧(∀ i (h:i<xs.size),k≤i→j≤xs[i])
 | 0,lo,hi,h1,h2,h3,h4,h5=>by
  have e:lo=hi:=Nat.le_antisymm h2 (Nat.le_of_sub_eq_zero (Nat.le_zero.mp h1))
  subst e;exact⟨lo,rfl,h3,h4,h5⟩
 | fuel+1,lo,hi,h1,h2,h3,h4,h5=>by
  have mono:∀ i i' (h:i<xs.size) (h':i'<xs.size),i<i'→xs[i]<xs[i']:=fun i i' h h' l=>by
   have:=List.pairwise_iff_getElem.mp hr i i' (by simpa using h) (by simpa using h') l
   simpa using this
  show ∃ k,(if lo<hi then (if xs.getD ((lo+hi) / 2) j<j then SetTable.below.go xs j fuel ((lo+hi) / 2+1) hi else SetTable.below.go xs j fuel lo ((lo+hi) / 2)) else lo)=k∧_
  by_cases hl:lo<hi
  ·rw[if_pos hl]
   have mi:=mid_in hl
   have hm:lo≤(lo+hi) / 2∧(lo+hi) / 2<hi∧hi - ((lo+hi) / 2+1)≤fuel∧(lo+hi) / 2 - lo≤fuel:=⟨mi.1,mi.2,mid_less (x:=0) mi.1 mi.2 h1 (Nat.succ_pos fuel)⟩
   clear mi
   generalize (lo+hi) / 2=m at hm ⊢
   have hms:m<xs.size:=Nat.lt_of_lt_of_le hm.2.1 h3
   have eg:xs.getD m j=xs[m]:=by rw[Array.getD_eq_getD_getElem?,getElem?_pos xs m hms];rfl
   rw[eg]
   by_cases hc:xs[m]<j
   ·rw[if_pos hc]
    refine lE hr j fuel (m+1) hi hm.2.2.1 hm.2.1 h3 (fun i h q=>?_) h5
    rcases Nat.lt_or_eq_of_le (Nat.le_of_lt_succ q) with q | rfl
    ·exact Nat.lt_trans (mono i m h hms q) hc
    ·exact hc
   ·rw[if_neg hc]
    refine lE hr j fuel lo m hm.2.2.2 hm.1 (Nat.le_of_lt hms) h4 fun i h q=>?_
    rcases Nat.lt_or_eq_of_le q with q | rfl
    ·exact Nat.le_of_lt (Nat.lt_of_le_of_lt (Nat.le_of_not_lt hc) (mono m i hms h q))
    ·exact Nat.le_of_not_lt hc
  ·rw[if_neg hl]
   have e:lo=hi:=Nat.le_antisymm h2 (Nat.le_of_not_lt hl)
   subst e;exact⟨lo,rfl,h3,h4,h5⟩
theorem oM{xs:Array Nat}(hr:Ris xs)(j:Nat):SetTable.below xs j≤xs.size∧(∀ i (h:i<xs.size),i<SetTable.below xs j→xs[i]<j)∧(∀ i (h:i<xs.size),SetTable.below xs j≤i→j≤xs[i]):=by
 obtain⟨k,e,h⟩:=lE hr j xs.size 0 xs.size (Nat.le_of_eq (Nat.sub_zero _)) (Nat.zero_le _) (Nat.le_refl _) (fun _ _ h=>absurd h (Nat.not_lt_zero _)) fun i h q=>absurd h (Nat.not_lt_of_le q)
 unfold SetTable.below
 rw[e];exact h

structure cU(bt:Bool)(t:SetTable):Prop where
 dum:t.dummies=#[]
 ris:Ris t.place
 led:t.led=!bt
theorem qx(j:Nat):SetTable.has #[] j=false:=rfl
theorem cU.put{bt:Bool}{t:SetTable}(h:cU bt t){j:Nat}(hs:t.slot j=.empty):cU bt (t.put j).1:=by
 have hb:=oM h.ris j
 have hne:t.place[SetTable.below t.place j]?≠some j:=fun e=>by
  unfold SetTable.slot at hs
  rw[if_pos (by rw[e];exact beq_self_eq_true _)] at hs;cases hs
 refine⟨?_,?_,h.led⟩
 ·show (if SetTable.has t.dummies j=true then _ else t.dummies)=#[]
  rw[h.dum,qx];rfl
 ·show (SetTable.insertAt t.place (SetTable.below t.place j) j).toList.Pairwise (·<·)
  rw[SetTable.toList_insertAt]
  generalize SetTable.below t.place j=k at hb hne
  have hris:t.place.toList.Pairwise (·<·):=h.ris
  have hsp:=List.pairwise_append.mp ((List.take_append_drop k t.place.toList).symm▸hris)
  have lo:∀ x∈t.place.toList.take k,x<j:=fun x hx=>by
   obtain⟨i,hi,rfl⟩:=List.getElem_of_mem hx
   have hi':i<k:=Nat.lt_of_lt_of_le hi (List.length_take_le _ _)
   have:=hb.2.1 i (Nat.lt_of_lt_of_le hi' hb.1) hi'
   rw[List.getElem_take];simpa using this
  have hi:∀ x∈t.place.toList.drop k,j<x:=fun x hx=>by
   obtain⟨i,hi,rfl⟩:=List.getElem_of_mem hx
   rw[List.length_drop] at hi
   have hi':k+i<t.place.size:=by simpa using Nat.add_lt_of_lt_sub' hi
   have hk:k<t.place.size:=Nat.lt_of_le_of_lt (Nat.le_add_right _ _) hi'
   have h0:=hb.2.2 k hk (Nat.le_refl _)
   have h1:t.place[k]≠j:=fun e=>hne (by rw[getElem?_pos _ k hk,e])
   have h2:t.place[k]≤t.place[k+i]:=by
    rcases Nat.eq_zero_or_pos i with rfl | q
    ·exact Nat.le_refl _
    ·have:=List.pairwise_iff_getElem.mp h.ris k (k+i) (by simpa using hk) (by simpa using hi') (Nat.lt_add_of_pos_right q)
     exact Nat.le_of_lt (by simpa using this)
   rw[List.getElem_drop]
   have:j<t.place[k+i]:=Nat.lt_of_lt_of_le (Nat.lt_of_le_of_ne h0 (Ne.symm h1)) h2
   simpa using this
  refine List.pairwise_append.mpr ⟨hsp.1,List.pairwise_cons.mpr ⟨hi,hsp.2.1⟩,fun x hx y hy=>?_⟩
  rcases List.mem_cons.mp hy with rfl | hy
  ·exact lo x hx
  ·exact hsp.2.2 x hx y hy
theorem ris_range(n:Nat):Ris (Array.range n):=by
 show (Array.range n).toList.Pairwise _
 rw[Array.toList_range];exact List.pairwise_lt_range
theorem cU.standIn{bt:Bool}{t:SetTable}(h:cU bt t)(n:Nat):cU bt (t.standIn n):=⟨rfl,ris_range n,h.led⟩
theorem cU.orStandIn{bt:Bool}{t:SetTable}(h:cU bt t)(n:Nat):cU bt (t.orStandIn n):=by
 unfold SetTable.orStandIn;split
 ·exact h
 ·exact h.standIn n
theorem nP{t:SetTable}(hd:t.dummies=#[]){f:Nat→Int}{h:Int}:∀ (fuel:Nat) (p:SetTable.Probe) {j:Nat} {d:Option Nat},p.dummy=none→SetTable.probe.go t f h fuel p=some (.empty j d)→t.slot j=.empty∧d=none
 | 0,p,j,d,hp,e=>by cases e
 | fuel+1,p,j,d,hp,e=>by
  have adv:∀ q:SetTable.Probe,q.dummy=none→(t.advance q).dummy=none:=fun q hq=>by unfold SetTable.advance;split <;> exact hq
  unfold SetTable.probe.go at e
  cases hs:t.slot p.j with
  | empty=>rw[hs] at e;cases e;exact⟨hs,hp⟩
  | dummy=>
   exfalso
   unfold SetTable.slot at hs
   rw[hd,qx] at hs
   dsimp only at hs
   split at hs <;> cases hs
  | live i=>
   rw[hs] at e
   dsimp only at e
   split at e
   ·cases e
   ·exact nP hd fuel _ (adv p hp) e
theorem free_ok{bt:Bool}{t:SetTable}(h:cU bt t){x:Int}{j:Nat}{b:Bool}(e:t.freeSlot x=some (j,b)):t.slot j=.empty:=by
 unfold SetTable.freeSlot at e
 split at e
 ·rename_i j' d hp
  have:=nP h.dum _ _ rfl hp
  rw[this.2] at e
  cases e;exact this.1
 ·cases e
theorem cU.layNew{bt:Bool}{t:SetTable}(h:cU bt t)(es:Array (Int×Value))(x:Int)(v:Value):cU bt (layNew t es x v).2.1:=by
 unfold PySem.layNew
 split
 ·rename_i slot wasDummy e
  exact (h.put (free_ok h e)).orStandIn _
 ·exact h.standIn _
theorem kK{g:Nat→Option Nat}:∀ l:List Nat,((l.filterMap fun j=>(g j).map (j,·)).map (·.1))=l.filter fun j=>(g j).isSome
 | []=>rfl
 | j::l=>by
  rw[List.filterMap_cons,List.filter_cons]
  cases e:g j with
  | none=>exact kK l
  | some y=>exact congrArg (j::·) (kK l)
theorem cU.relay{bt:Bool}{t:SetTable}(h:cU bt t)(es:Array (Int×Value))(n:Nat):cU bt (relayAll t es n).2.1:=by
 unfold relayAll
 split
 ·rename_i t' order e
  dsimp only
  split
  ·unfold SetTable.relaid SetTable.laid at e
   cases ho:SetTable.layClean (SetTable.sizeAbove n - 1) (es.map (·.1)) with
   | none=>rw[ho] at e;cases e
   | some owner=>
    rw[ho] at e
    have e':=(Prod.mk.inj (Option.some.inj e)).1
    rw[← e']
    refine⟨rfl,?_,h.led⟩
    show ((((List.range (SetTable.sizeAbove n - 1+1)).filterMap fun j=>(owner.getD j none).map (j,·)).map (·.1)).toArray).toList.Pairwise (·<·)
    rw[kK]
    exact List.pairwise_lt_range.sublist List.filter_sublist
  ·exact h.standIn _
 ·exact h.standIn _
end Mine
namespace Mine
open PySem

noncomputable abbrev fE(es:Array (Int×Value))(ep:Nat)(t:SetTable):Obj:={ cls:=.type "set",dict:=Option.none,data:=.set es ep t,slots:=#[] }
noncomputable def bl(es:Array (Int×Value)):List Int:=es.toList.map fun e=>PyProof.Rows.numOf e.2
structure iu(bt:Bool)(h:Heap)(a:Addr)(es:Array (Int×Value)):Prop where
 obj:∃ ep t,h.get? a=some (fE es ep t)∧t.fits es.size=true∧cU bt t
 el:∀ e∈es.toList,∃ k tok,e=(hashInt k,.int k tok)
 nod:(bl es).Nodup

section
variable {prog:Program} {w:World} {A:Around} {E:Value→Shared→Prop} {s:Shared} {bt:Bool} {a:Addr} {es:Array (Int×Value)}

theorem els_of(h:∀ e∈es.toList,∃ k tok,e=(hashInt k,.int k tok)):ElemsOf (intKind prog w) es.toList:=fun e he=>by
 obtain⟨k,tok,rfl⟩:=h e he
 exact⟨⟨k,dD k tok,rfl⟩,rfl⟩
theorem ix{es':Array (Int×Value)}{ep:Nat}{t t':SetTable}{Q:Unit→Shared→Prop}(ho:s.heap.get? a=some (fE es ep t))(hz:es'.size<scanBound)
  (h:∀ h',Heap.SameBut a s.heap h'→h'.get? a=some (fE es' (ep+1) t')→Q () { s with heap:=h' }):wpAny (model prog w) A (storeSet a es' t') Q E s:=by
 refine wpAny_storeSet_of ho rfl (h _ (Heap.SameBut.update _ _ _) ?_) (fits_of_scanBound hz)
 exact Heap.get?_update_self (Obj.putSet es' t') ho rfl

theorem wpAny_addI{k:Int}{tok:Tok}{Q:Bool→Shared→Prop}(hS:iu bt s.heap a es)(hroom:es.size+1<scanBound)
  (h:∀ h' es',Heap.SameBut a s.heap h'→iu bt h' a es'→(bl es').Perm (if k∈bl es then bl es else bl es++[k])→∀ b,Q b { s with heap:=h' }) :
  wpAny (model prog w) A (setAddHashed a (.int k tok) (hashInt k)) Q E s:=by
 obtain⟨⟨ep,t,ho,hf,hT⟩,hel,hnod⟩:=hS
 have hels:=els_of (prog:=prog) (w:=w) hel
 have hkey:(intKind prog w).is k (.int k tok)=true:=dD k tok
 unfold setAddHashed setAddHashedIn
 refine wpAny_holding (wpAny_bind (wpAny_setState_of ho rfl hf ?_))
 dsimp only
 rw[byScan_of (knd:=intKind prog w) rfl (Nat.lt_of_succ_lt hroom) hels,if_pos rfl]
 unfold setAddByScan
 refine wpAny_bind (wpAny_bind (wpAny_rule (wpAny_bind (wpAny_setScan_of hkey ho rfl hf hels ?_))))
 have hmem:∀ e∈es.toList,(intKind prog w).is k e.2=true→k∈bl es:=fun e he q=>by
  obtain⟨k',tok',rfl⟩:=hel e he
  have:=Value.isInt_inj (.int k' tok') k k' q (dD k' tok')
  subst this
  exact List.mem_map.mpr ⟨_,he,rfl⟩
 cases hr:List.findIdx? (fun e=>(intKind prog w).is k e.2) es.toList with
 | some j=>
  obtain⟨hj,hpj,_⟩:=List.findIdx?_eq_some_iff_getElem.mp hr
  have hin:=hmem _ (List.getElem_mem hj) hpj
  refine wpAny_pure (wpAny_pure ?_)
  exact h s.heap es (Heap.SameBut.refl a s.heap) ⟨⟨ep,t,ho,hf,hT⟩,hel,hnod⟩ (by rw[if_pos hin]) false
 | none=>
  have hnin:k ∉ bl es:=fun q=>by
   obtain⟨e,he,q⟩:=List.mem_map.mp q
   obtain⟨k',tok',rfl⟩:=hel e he
   have e':k'=k:=q
   subst e'
   have:=List.findIdx?_eq_none_iff.mp hr _ he
   rw[show (intKind prog w).is k' (.int k' tok')=true from dD k' tok'] at this;cases this
  rw[if_neg hnin] at h
  have hperm:=layNew_perm t es (hashInt k) (.int k tok)
  have hfits:=layNew_fits t es (hashInt k) (.int k tok)
  have hTn:=hT.layNew es (hashInt k) (.int k tok)
  dsimp only
  generalize layNew t es (hashInt k) (.int k tok)=L at hperm hfits hTn ⊢
  obtain⟨es1,t1,wasDummy,gave⟩:=L
  dsimp only at hperm hfits hTn ⊢
  rw[Array.toList_push] at hperm
  have hel1:∀ e∈es1.toList,∃ k tok,e=(hashInt k,.int k tok):=fun e he=>by
   rcases List.mem_append.mp (hperm.mem_iff.mp he) with he | he
   ·exact hel e he
   ·rw[List.mem_singleton.mp he];exact⟨k,tok,rfl⟩
  have hk1:(bl es1).Perm (bl es++[k]):=by
   have:=hperm.map fun (e:Int×Value)=>PyProof.Rows.numOf e.2
   rwa [List.map_append] at this
  have hsz1:es1.size<scanBound:=by
   have:=hperm.length_eq
   rw[List.length_append,Array.length_toList,Array.length_toList] at this
   rw[this];exact hroom
  have hnod1:∀ es2,(bl es2).Perm (bl es++[k])→(bl es2).Nodup:=fun es2 hp=>hp.nodup_iff.mpr (List.nodup_append.mpr ⟨hnod,List.nodup_cons.mpr ⟨List.not_mem_nil,List.nodup_nil⟩,fun x hx y hy e=>hnin (by
   rw[List.mem_singleton.mp hy] at e;exact e▸hx)⟩)
  have gw:∀ (b:Bool) {s₁:Shared} {Q':Unit→Shared→Prop},Q' () s₁→wpAny (model prog w) A (match b with | true=>rule "set.scan.the-table-gave-way" | false=>pure ()) Q' E s₁:=
   fun b s₁ Q' hq=>by cases b <;> first | exact wpAny_pure hq | exact wpAny_rule hq
  have fin:∀ t2:SetTable,t2.fits es1.size=true→cU bt t2→wpAny (model prog w) A (do
    storeSet a es1 t2
    if (!wasDummy&&t2.tooFull)=true then do
      (match (relayAll t2 es1 (SetTable.grown es1.size)).2.2 with | true=>rule "set.scan.the-table-gave-way" | false=>pure ())
      storeSet a (relayAll t2 es1 (SetTable.grown es1.size)).1 (relayAll t2 es1 (SetTable.grown es1.size)).2.1
      pure (some true)
     else pure (some true)) (fun r s'=>∃ h' es',s'={ s with heap:=h' }∧r=some true∧Heap.SameBut a s.heap h'∧iu bt h' a es'∧(bl es').Perm (bl es++[k])) E s:=fun t2 hf2 hT2=>by
   refine wpAny_bind (ix ho hsz1 fun h1 hs1 ho1=>?_)
   split
   ·have hp2:=relayAll_perm t2 es1 (SetTable.grown es1.size)
    have hf3:=relayAll_fits t2 es1 (SetTable.grown es1.size)
    have hT3:=hT2.relay es1 (SetTable.grown es1.size)
    generalize relayAll t2 es1 (SetTable.grown es1.size)=Rl at hp2 hf3 hT3 ⊢
    obtain⟨es2,t3,gave2⟩:=Rl
    dsimp only at hp2 hf3 hT3 ⊢
    have hk2:(bl es2).Perm (bl es++[k]):=(hp2.map fun (e:Int×Value)=>PyProof.Rows.numOf e.2).trans hk1
    have hsz2:es2.size<scanBound:=by
     have:=hp2.length_eq
     rw[Array.length_toList,Array.length_toList] at this
     rw[this];exact hsz1
    refine wpAny_bind (gw _ (wpAny_bind (ix (s:={ s with heap:=h1 }) ho1 hsz2 fun h2 hs2 ho2=>wpAny_pure ?_)))
    exact⟨h2,es2,rfl,rfl,hs1.trans hs2,⟨⟨_,t3,ho2,hf3,hT3⟩,fun e he=>hel1 e (hp2.mem_iff.mp he),hnod1 es2 hk2⟩,hk2⟩
   ·exact wpAny_pure ⟨h1,es1,rfl,rfl,hs1,⟨⟨_,t2,ho1,hf2,hT2⟩,hel1,hnod1 es1 hk1⟩,hk1⟩
  have done:∀ r s',(∃ h' es',s'={ s with heap:=h' }∧r=some true∧Heap.SameBut a s.heap h'∧iu bt h' a es'∧(bl es').Perm (bl es++[k])) →
    wpAny (model prog w) A (match r with | some added=>pure added | none=>setAddHashedIn a (.int k tok) (hashInt k) 99999) Q E s':=fun r s' q=>by
   obtain⟨h',es',rfl,rfl,q1,q2,q3⟩:=q
   exact wpAny_pure (h h' es' q1 q2 q3 true)
  refine wpAny_bind (gw _ ?_)
  split
  ·refine wpAny_bind ?_
   rw[hashByValue_scannable 8 rfl]
   exact wpAny_pure (wpAny_mono (fin _ hfits hTn) (fun r s' q=>done r s' q) fun _ _ e=>e)
  ·exact wpAny_bind (wpAny_pure (wpAny_mono (fin _ hfits hTn) (fun r s' q=>done r s' q) fun _ _ e=>e))
end
end Mine
namespace Mine
open PySem

noncomputable def cC(w:World):Bool:=w.params.followText "set-order"
section
variable {prog:Program} {w:World} {A:Around} {E:Value→Shared→Prop} {s:Shared}

theorem d3{Q:Bool→Shared→Prop}(h:Q (cC w) s):wpAny (model prog w) A setsByText Q E s:=by
 unfold setsByText
 exact wpAny_bind (wpAny_askSetting (wpAny_pure h))
theorem code_set_new'(a:Value){Q₁:Value→Shared→Prop}
  (h:Q₁ (.ref s.heap.objs.size) { s with heap:=s.heap.push (fE #[] 0 (.fresh 0 0 (!cC w))) }) :
  codeAny (model prog w) A (.call (.builtin "set.__new__") ⟨[.type "set",a],[]⟩) (wants Q₁ E) s:=by
 refine codeAny_of_tree ?_
 show wpAny _ A.in1 (do checkBuiltinCall "set.__new__" ⟨[.type "set",a],[]⟩;again (.builtin "set.__new__" ⟨[.type "set",a],[]⟩)) _ _ s
 refine wpAny_bind (wpAny_of_eq (F.newCall_set_1 a) (wpAny_pure ⟨plainId_quiet F.plain_set_new _,codeAny_builtin F.entry_set_new ?_⟩))
 rw[Around.under_plainId F.plain_set_new _]
 unfold Builtin.«set.__new__» Builtin.Frozenset.newClass
 have hsub:=sub_set_self
 obtain⟨hp,g,d,tk,os⟩:=s
 dsimp only
 wp_walk
 refine wpAny_askSetting (wpAny_pure ?_)
 dsimp only
 simp only[newObj]
 refine wpAny_bind (wpAny_alloc (wpAny_pure ?_))
 exact wpAny_pure h

theorem iu.move{bt:Bool}{h h':Heap}{a:Addr}{es:Array (Int×Value)}(S:iu bt h a es)(k:∀ o,h.get? a=some o→h'.get? a=some o):iu bt h' a es:=by
 obtain⟨ep,t,ho,hf,hT⟩:=S.obj
 exact⟨⟨ep,t,k _ ho,hf,hT⟩,S.el,S.nod⟩
theorem fill_loop{R:Result→Shared→Prop}{I:Addr}{fp wr:List Addr}{n:Nat}{P:Nat→Value→Prop}{St:Nat→Heap→Prop}(W:Walks prog w A.in1 I fp wr n P St)(S:Addr)(hSf:S ∉ fp){bt:Bool}
  {ns:List Int} (hval:∀ i v,P i v→∃ k t,ns[i]?=some k∧v=.int k t) (hn:ns.length=n) (hb:n+1<scanBound)
  (hR:∀ (h':Heap) (tk:Nat) es,(∀ b o,b ∉ S::wr→s.heap.get? b=some o→h'.get? b=some o)→iu bt h' S es→(∀ k,k∈bl es↔k∈ns)→R (.ok (.ret .none)) { s with heap:=h',toks:=tk }) :
  ∀ (k i:Nat) (h:Heap) (tk:Nat) (es:Array (Int×Value)),n - i=k→i≤n→St i h→(∀ b o,b ∉ S::wr→s.heap.get? b=some o→h.get? b=some o)→iu bt h S es→(∀ k,k∈bl es↔k∈ns.take i)→es.size≤i →
   codeAny (model prog w) A (.builtin "set.update.loop" ⟨[.ref S,.ref I],[]⟩) R { s with heap:=h,toks:=tk }:=by
 have hSw:S ∉ wr:=fun h=>hSf (W.sub _ h)
 intro k
 induction k with
 | zero=>
  intro i h tk es hk hi hst hkeep hS hm _
  have hin:i=n:=Nat.le_antisymm hi (Nat.le_of_sub_eq_zero hk)
  subst hin
  refine codeAny_builtin PyProof.Rows.F.entry_set_update_loop ?_
  rw[Around.under_plainId PyProof.Rows.F.plain_set_update_loop _]
  show wpAny _ A.in1 (pyNext (.ref I) >>= _) _ _ _
  refine wpAny_bind (W.done _ _ _ hst fun h' tk' hk'=>?_)
  show wpAny _ A.in1 (ret Value.none) _ _ _
  refine wpAny_pure (hR h' tk' es (fun b o hb e=>hk' b o (fun q=>hb (List.mem_cons_of_mem _ q)) (hkeep b o hb e)) (hS.move fun o e=>hk' S o hSw e) fun k=>?_)
  rw[hm k,← hn,List.take_length]
 | succ k ih=>
  intro i h tk es hk hi hst hkeep hS hm hsz
  have hlt:i<n:=Nat.lt_of_sub_pos (hk▸Nat.succ_pos k)
  refine codeAny_builtin PyProof.Rows.F.entry_set_update_loop ?_
  rw[Around.under_plainId PyProof.Rows.F.plain_set_update_loop _]
  show wpAny _ A.in1 (pyNext (.ref I) >>= _) _ _ _
  refine wpAny_bind (W.item i _ _ _ hlt hst fun v h₁ tk₁ hP hst₁ hk₁=>?_)
  obtain⟨z,t,hz,rfl⟩:=hval i v hP
  show wpAny _ A.in1 (holding [Value.int z t] (setAdd S (.int z t)) >>= _) _ _ _
  refine wpAny_bind (wpAny_holding ?_)
  unfold setAdd
  refine wpAny_holding (wpAny_bind ((intKind prog w).pyHash (k:=z) (dD z t) ?_))
  refine wpAny_addI (s:={ s with heap:=h₁,toks:=tk₁+1 }) (hS.move fun o e=>hk₁ S o hSw e) (Nat.lt_of_le_of_lt (Nat.succ_le_succ (Nat.le_trans hsz hi)) hb) fun h₂ es₂ hs₂ hS₂ hp₂ b=>?_
  refine wpAny_pure ⟨plainId_quiet PyProof.Rows.F.plain_set_update_loop _,ih (i+1) h₂ (tk₁+1) es₂ (by rw[Nat.sub_add_eq,hk];rfl) hlt (W.frame _ _ _ hst₁ fun b hb o e=>?_) (fun b o hb e=>?_) hS₂ (fun k'=>?_) ?_⟩
  ·rw[hs₂.2 b fun q=>hSf (q▸hb)];exact e
  ·rw[hs₂.2 b fun q=>hb (q▸List.mem_cons_self)]
   exact hk₁ b o (fun q=>hb (List.mem_cons_of_mem _ q)) (hkeep b o hb e)
  ·rw[hp₂.mem_iff,List.take_add_one,hz,Option.toList_some,List.mem_append,← hm k']
   split
   ·next q=>exact⟨.inl,fun q'=>q'.elim id fun q'=>(List.mem_singleton.mp q').symm▸q⟩
   ·rw[List.mem_append]
  ·have:=hp₂.length_eq
   unfold bl at this
   rw[List.length_map,Array.length_toList] at this
   rw[this]
   split
   ·rw[List.length_map,Array.length_toList];exact Nat.le_succ_of_le hsz
   ·rw[List.length_append,List.length_map,Array.length_toList];exact Nat.succ_le_succ hsz
end
end Mine
namespace Mine
open PySem
section
variable {prog:Program} {w:World} {A:Around} {E:Value→Shared→Prop} {s:Shared}
theorem setI_fresh{h:Heap}{a:Addr}{b:Bool}(ho:h.get? a=some (fE #[] 0 (.fresh 0 0 (!b)))):iu b h a #[]:=
 ⟨⟨_,_,ho,rfl,⟨rfl,.nil,rfl⟩⟩,fun _ he=>by simp at he,.nil⟩
set_option maxRecDepth 100000 in
set_option maxHeartbeats 3200000 in
theorem call_setI{l:Addr}{items:Array Value}{n:Nat}{ns:List Int}{Q:Value→Shared→Prop}(hh:A.handled=none)(hl:s.heap.get? l=some (eG items n))(hi:∀ (i:Nat) (v:Value),items[i]?=some v→∃ (k:Int) (t:Tok),ns[i]?=some k∧v=Value.int k t)
  (hn:ns.length=items.size) (hb:items.size+1<scanBound)
  (h:∀ (h':Heap) (tk:Nat) es,(∀ b o,s.heap.get? b=some o→h'.get? b=some o)→iu (cC w) h' s.heap.objs.size es→(∀ k,k∈bl es↔k∈ns)→Q (.ref s.heap.objs.size) { s with heap:=h',toks:=tk }) :
  wpAny (model prog w) A (call (.type "set") [.ref l]) Q E s:=by
 obtain⟨c,tl,hmro⟩:=F.called_set.mro
 have hmade:=F.called_set.made
 have hsub:=F.called_set.sub
 refine wpAny_call (codeAny_of_tree ?_)
 show wpAny _ _ (callAny (.type "set") _) _ _ _
 refine wpAny_pure ⟨Code.quiet_builtin _ (by decide +kernel),codeAny_builtin F.entry_type_call ?_⟩
 rw[Around.under_plain (weight_type_call_type "set" [.ref l] []) rfl]
 have h1:=F.called_set.notType
 have h2:=F.called_set.canCreate
 have hct:=F.typeCall_set_1 (.ref l)
 repeat (any_goals (first | assumption | wp_step))
 generalize hS0:s.heap.push (fE #[] 0 (.fresh 0 0 (!cC w)))=hS
 have hget:hS.get? s.heap.objs.size=some (fE #[] 0 (.fresh 0 0 (!cC w))):=hS0▸Heap.get?_push_size _ rfl
 have hsz:hS.objs.size=s.heap.objs.size+1:=hS0▸Heap.size_push ..
 have hold:∀ b o,s.heap.get? b=some o→hS.get? b=some o:=fun b o e=>hS0▸Heap.get?_push_of_some _ e
 refine codeAny_mono (code_set_new' (.ref l) (E:=E) (Q₁:=fun obj s₁=>obj=.ref s.heap.objs.size∧s₁={ s with heap:=hS }) ⟨rfl,by rw[hS0]⟩) fun r s₁ hr=>?_
 cases r with
 | error e=>exact hr
 | ok fl=>
  cases fl with
  | ret obj=>
   obtain⟨rfl,rfl⟩:=hr
   have hT:Shared.TypeIs { s with heap:=hS } (.ref s.heap.objs.size) "set":=⟨_,hget,rfl⟩
   have hli:=F.called_set.init.lookup
   have hbi:=F.called_set.init.bind (.ref s.heap.objs.size)
   repeat (any_goals (first | assumption | wp_step))
   refine codeAny_mono (codeAny_call_builtin (R:=wants (fun r s₂=>r=.none∧Q (.ref s.heap.objs.size) s₂) E) F.called_set.init.plain F.entry_set_init (check_set_init_1 hT ?_)) fun r₂ s₂ hr₂=>?_
   ·have hol:=hold l _ hl
    have hsls:=F.sub_list_set
    have hslf:=F.sub_list_frozenset
    have hne:(Value.type "list" == Value.type "dict")=false:=by decide
    have hl1:hS.IsList l items:=⟨_,hol,rfl,n,rfl⟩
    unfold Builtin.«set.__init__» noKeywords Builtin.Frozenset.updateFrom
    generalize hPI:pyIter=PI
    wp_walk
    subst hPI
    refine wpAny_pyIter_list hl1 ?_
    refine wpAny_bind (wpAny_runValue ?_)
    have hlS:l<s.heap.objs.size:=Heap.lt_size hl
    have hneI:l≠hS.objs.size:=by rw[hsz];exact Nat.ne_of_lt (Nat.lt_succ_of_lt hlS)
    have hh3:A.in1.in1.in1.handled=none:=hh
    refine fill_loop (s:={ s with heap:=s.heap }) (Walks.list hh3 _ l hneI items) s.heap.objs.size ?_ (bt:=cC w) hi hn hb (fun h' tk es hk hS' hm=>?_) (items.size - 0) 0 _ _ #[] rfl (Nat.zero_le _)
     ⟨⟨_,Heap.get?_push_size _ rfl,rfl,rfl⟩,hl1.push _⟩ (fun b o _ e=>Heap.get?_push_of_some _ (hold b o e)) (setI_fresh (Heap.get?_push_of_some _ hget)) (fun k=>by simp[bl]) (Nat.le_refl _)
    ·rw[hsz];simp only[List.mem_cons,List.not_mem_nil,or_false,not_or]
     exact⟨Nat.ne_of_lt (Nat.lt_succ_self _),Nat.ne_of_gt hlS⟩
    ·refine wpAny_pure ?_
     show wpAny _ _ (ret Value.none) _ _ _
     refine wpAny_pure ⟨rfl,h h' tk es (fun b o e=>hk b o ?_ e) hS' hm⟩
     have hb:=Heap.lt_size e
     rw[hsz];simp only[List.mem_cons,List.not_mem_nil,or_false,not_or]
     exact⟨Nat.ne_of_lt hb,Nat.ne_of_lt (Nat.lt_succ_of_lt hb)⟩
   ·cases r₂ with
    | error e=>exact hr₂
    | ok fl₂=>
     cases fl₂ with
     | ret r=>
      obtain⟨rfl,hq⟩:=hr₂
      repeat (any_goals (first | assumption | wp_step))
     | _=>exact hr₂.elim
  | _=>exact hr.elim
end
end Mine
namespace Mine
open PySem
set_option maxRecDepth 100000

theorem cg:Slot "set_iterator" "__next__" "set_iterator.__next__":=
 .of (owner:="set_iterator") (n:="__next__") (by rw[typeLookup_type,builtinLookup_eq_fast];kernel_rfl) (by decide +kernel) (by decide +kernel) (by decide +kernel)
  (by first | exact .inl (by decide +kernel) | exact .inr (by decide +kernel)) (by rw[isSubtype_type];kernel_rfl)
theorem ft:Slot "set_iterator" "__iter__" "set_iterator.__iter__":=
 .of (owner:="set_iterator") (n:="__iter__") (by rw[typeLookup_type,builtinLookup_eq_fast];kernel_rfl) (by decide +kernel) (by decide +kernel) (by decide +kernel)
  (by first | exact .inl (by decide +kernel) | exact .inr (by decide +kernel)) (by rw[isSubtype_type];kernel_rfl)
theorem entry_setit_next:entryFor table "set_iterator.__next__"=some Builtin.«set_iterator.__next__»:=entryFor_of_tree (by kernel_rfl)
theorem entry_set_iter:entryFor table "set.__iter__"=some Builtin.«frozenset.__iter__»:=
 entryFor_alias (id':="frozenset.__iter__") (by kernel_rfl) rfl (by decide +kernel) (by kernel_rfl)
theorem entry_setit_iter:entryFor table "set_iterator.__iter__"=some Builtin.«dict_keyiterator.__iter__»:=
 entryFor_alias (id':="dict_keyiterator.__iter__") (by kernel_rfl) rfl (by decide +kernel) (by kernel_rfl)
theorem args_setit_iter(a:Value):argsOk "set_iterator.__iter__" ⟨[a],[]⟩:=by unfold argsOk;kernel_rfl
theorem args_setit_next(a:Value):argsOk "set_iterator.__next__" ⟨[a],[]⟩:=by unfold argsOk;kernel_rfl

noncomputable abbrev dB(first:Value)(a:Addr)(i n ep:Nat):Obj:={ cls:=.type "set_iterator",dict:=Option.none,data:=.fields #[first,.int i 0,.ref a,.int n 0,.int ep 0],slots:=#[] }

section
variable {prog:Program} {w:World} {A:Around} {E:Value→Shared→Prop} {s:Shared} {I a:Addr} {first:Value} {i ep:Nat} {es:Array (Int×Value)} {t:SetTable} {Q:Option Value→Shared→Prop}

theorem gC(hit:s.heap.get? I=some (dB first a i es.size ep))(hs:s.heap.get? a=some (fE es ep t))(hf:t.fits es.size=true)
  (h:wpAny (model prog w) A.in1 (if let .int slot _:=first then do
    match ← setNext a slot.toNat (i:Int).toNat (ep:Int).toNat with
    | some (x,next)=>
     setField (.ref I) 0 (rawInt next)
     setField (.ref I) 1 (rawInt ((i:Int)+1))
     ret x
    | none=>setField (.ref I) 2 .none;raiseNew (← newExc (.type "StopIteration") [])
   else do
    let some places ← seqItems? first | unsupported "internal:set_iterator"
    match places[(i:Int).toNat]? with
    | some (.int place _)=>
     let x ← setNextDrawn a place.toNat (ep:Int).toNat
     setField (.ref I) 1 (rawInt ((i:Int)+1))
     ret x
    | some _=>unsupported "internal:set_iterator"
    | none=>setField (.ref I) 0 (rawInt 0);setField (.ref I) 2 .none;raiseNew (← newExc (.type "StopIteration") []))
   (fun fin s'=>∃ v,fin=.done (.ret v)∧Q (some v) s') (fun e s'=>wpAny (model prog w) A (do if ← isInstance e (.type "StopIteration") then pure none else throw e) Q E s') s) :
  wpAny (model prog w) A (pyNext (.ref I)) Q E s:=by
 have hT:s.TypeIs (.ref I) "set_iterator":=⟨_,hit,rfl⟩
 unfold pyNext
 refine wpAny_bind (wpAny_attempt (wpAny_callSpecial?_slot (name:=Str.ofString "__next__") hT cg (wpAny_call_entry cg hT entry_setit_next ?_ (args_setit_next _))))
 refine wpAny_bind (wpAny_pure (wpAny_bind (wpAny_fieldsOf hit rfl ?_)))
 refine wpAny_bind (wpAny_setEntries_of hs rfl hf ?_)
 show wpAny _ _ (if (((es.size:Nat):Int) != ((es.size:Nat):Int))=true then _ else _) _ _ _
 rw[if_neg (by simp)]
 exact wpAny_mono h (fun fin s' q=>by obtain⟨v,e,q⟩:=q;exact⟨v,e,wpAny_pure q⟩) fun e s' q=>q
theorem l4(hh:A.handled=none){h₁:Heap}(h:∀ h',(∀ b o,h₁.get? b=some o→h'.get? b=some o)→Q none { s with heap:=h' }){Q':Fin→Shared→Prop} :
  wpAny (model prog w) A.in1 (do raiseNew (← newExc (.type "StopIteration") [])) Q'
   (fun e s'=>wpAny (model prog w) A (do if ← isInstance e (.type "StopIteration") then pure none else throw e) Q E s') { s with heap:=h₁ }:=by
 refine wpAny_bind ?_
 simp only[newExc,newTuple]
 refine wpAny_bind (wpAny_newObj_type ?_ (by size_fits))
 refine wpAny_bind (m:=firstArgMember _ _) (wpAny_of_eq (a:=Value.none) (by first | rfl | (simp only[firstArgMember];rfl)) ?_)
 refine wpAny_newObj_type ?_ (by size_fits)
 simp only[raiseNew]
 refine wpAny_bind (wpAny_handled ?_)
 rw[show A.in1.handled=none from hh]
 refine wpAny_bind (wpAny_pure (wpAny_throw ?_))
 refine wpAny_bind (wpAny_isInstance (T:="StopIteration") (b:=true) ⟨_,Heap.get?_push_size _ rfl,rfl⟩ isSubtype_stop ?_)
 exact wpAny_pure (h _ fun b o e=>Heap.get?_push_of_some _ (Heap.get?_push_of_some _ e))
theorem nV{slot j:Nat}{x:Value}(hit:s.heap.get? I=some (dB (.int slot 0) a i es.size ep))(hs:s.heap.get? a=some (fE es ep t))(hf:t.fits es.size=true)
  (hN:∀ (E':Value→Shared→Prop) (Q':Option (Value×Nat)→Shared→Prop),Q' (some (x,j)) s→wpAny (model prog w) A.in1 (setNext a slot i ep) Q' E' s)
  (hQ:∀ h',h'.get? I=some (dB (.int j 0) a (i+1) es.size ep)→Heap.SameBut I s.heap h'→Q (some x) { s with heap:=h' }):wpAny (model prog w) A (pyNext (.ref I)) Q E s:=by
 refine gC hit hs hf (wpAny_bind (hN _ _ ?_))
 refine wpAny_bind (wpAny_setField_rec hit (by simp) fun h₁ e₁ s₁=>wpAny_bind (wpAny_setField_rec (s:={ s with heap:=h₁ }) e₁ (by simp) fun h₂ e₂ s₂=>?_))
 exact wpAny_pure ⟨x,rfl,hQ h₂ e₂ (s₁.trans s₂)⟩
theorem iG(hh:A.handled=none){slot:Nat}(hit:s.heap.get? I=some (dB (.int slot 0) a i es.size ep))(hs:s.heap.get? a=some (fE es ep t))(hf:t.fits es.size=true)
  (hN:∀ (E':Value→Shared→Prop) (Q':Option (Value×Nat)→Shared→Prop),Q' none s→wpAny (model prog w) A.in1 (setNext a slot i ep) Q' E' s)
  (hQ:∀ h',(∀ b o,b≠I→s.heap.get? b=some o→h'.get? b=some o)→Q none { s with heap:=h' }):wpAny (model prog w) A (pyNext (.ref I)) Q E s:=by
 refine gC hit hs hf (wpAny_bind (hN _ _ ?_))
 refine wpAny_bind (wpAny_setField_rec hit (by simp) fun h₁ e₁ s₁=>l4 hh fun h' hk=>hQ h' fun b o hb e=>hk b o ((s₁.2 b hb).trans e))
theorem next_dr{T:Addr}{ps:Array Value}{n' pl:Nat}{tok:Tok}{x:Int×Value}(hit:s.heap.get? I=some (dB (.ref T) a i es.size ep))(hs:s.heap.get? a=some (fE es ep t))(hf:t.fits es.size=true)
  (hT:s.heap.get? T=some (cV ps n')) (hp:ps[i]?=some (.int pl tok)) (hx:es[pl]?=some x)
  (hQ:∀ h',h'.get? I=some (dB (.ref T) a (i+1) es.size ep)→Heap.SameBut I s.heap h'→Q (some x.2) { s with heap:=h' }):wpAny (model prog w) A (pyNext (.ref I)) Q E s:=by
 refine gC hit hs hf (wpAny_bind (wpAny_seqItems hT rfl ?_))
 show wpAny _ _ (match ps[i]? with | some (Value.int place tok)=>_ | some val=>_ | none=>_) _ _ _
 rw[hp]
 refine wpAny_bind ?_
 unfold setNextDrawn
 refine wpAny_bind (wpAny_setState_of hs rfl hf ?_)
 show wpAny _ _ (if (ep != ep)=true then _ else _) _ _ _
 rw[if_neg (by simp)]
 show wpAny _ _ (match es[pl]? with | some (_,x)=>_ | _=>_) _ _ _
 rw[hx]
 refine wpAny_pure (wpAny_bind (wpAny_setField_rec hit (by simp) fun h₁ e₁ s₁=>?_))
 exact wpAny_pure ⟨x.2,rfl,hQ h₁ e₁ s₁⟩
theorem next_dr_end(hh:A.handled=none){T:Addr}{ps:Array Value}{n':Nat}(hit:s.heap.get? I=some (dB (.ref T) a i es.size ep))(hs:s.heap.get? a=some (fE es ep t))(hf:t.fits es.size=true)
  (hT:s.heap.get? T=some (cV ps n')) (hp:ps[i]?=none)
  (hQ:∀ h',(∀ b o,b≠I→s.heap.get? b=some o→h'.get? b=some o)→Q none { s with heap:=h' }):wpAny (model prog w) A (pyNext (.ref I)) Q E s:=by
 refine gC hit hs hf (wpAny_bind (wpAny_seqItems hT rfl ?_))
 show wpAny _ _ (match ps[i]? with | some (Value.int place tok)=>_ | some val=>_ | none=>_) _ _ _
 rw[hp]
 refine wpAny_bind (wpAny_setField_rec hit (by simp) fun h₁ e₁ s₁=>wpAny_bind (wpAny_setField_rec (s:={ s with heap:=h₁ }) e₁ (by simp) fun h₂ e₂ s₂=>?_))
 exact l4 hh fun h' hk=>hQ h' fun b o hb e=>hk b o (((s₁.trans s₂).2 b hb).trans e)
end
end Mine
namespace Mine
open PySem

section
variable {prog:Program} {w:World} {A:Around} {E:Value→Shared→Prop} {s:Shared}
theorem wpAny_chooseI{src:Source}{n:Nat}{Q:Nat→Shared→Prop}(hn:0<n)(h:∀ i dw,i<n→Q i { s with drawn:=dw }):wpAny (model prog w) A (choose src n) Q E s:=fun _ _ _=>by
 unfold choose
 rw[Sem.wp_choose]
 exact⟨Nat.ne_of_gt hn,h _ _ (Nat.mod_lt _ hn)⟩
theorem im{α:Type}{x:α}:∀ {l:List α} {i:Nat},l[i]?=some x→(x::l.eraseIdx i).Perm l
 | [],_,h=>by simp at h
 | y::l,0,h=>by cases h;exact List.Perm.refl _
 | y::l,i+1,h=>(List.Perm.swap y x (l.eraseIdx i)).trans (List.Perm.cons y (im h))
theorem qG{α:Type}{Q:List α→Shared→Prop}:∀ (n:Nat) (xs:List α) (dw:Drawn),xs.length=n→(∀ ys dw',ys.Perm xs→Q ys { s with drawn:=dw' })→wpAny (model prog w) A (drawOrder n xs) Q E { s with drawn:=dw }
 | 0,xs,dw,hn,h=>wpAny_pure (h [] dw (by rw[List.eq_nil_of_length_eq_zero hn]))
 | n+1,[],dw,hn,h=>nomatch hn
 | n+1,x::xs,dw,hn,h=>by
  unfold drawOrder
  refine wpAny_bind (wpAny_chooseI (s:={ s with drawn:=dw }) (Nat.succ_pos _) fun i dw₁ hi=>?_)
  have e:(x::xs)[i]?=some (x::xs)[i]:=List.getElem?_eq_getElem hi
  rw[e]
  refine wpAny_bind (qG n _ dw₁ ?_ fun ys dw₂ hp=>wpAny_pure (h _ dw₂ ((List.Perm.cons _ hp).trans (im e))))
  rw[List.length_eraseIdx,if_pos hi,hn];rfl
theorem pN{α:Type}(next:Nat→Nat):∀ (fuel k:Nat) (left:List α) (out:Array α),left.length=fuel→(pickOrder.go next fuel k left out).toList.Perm (out.toList++left)
 | 0,k,left,out,h=>by rw[List.eq_nil_of_length_eq_zero h,List.append_nil];exact List.Perm.refl _
 | fuel+1,k,left,out,h=>by
  have hi:next k % left.length<left.length:=Nat.mod_lt _ (h▸Nat.succ_pos _)
  have e:left[next k % left.length]?=some left[next k % left.length]:=List.getElem?_eq_getElem hi
  unfold pickOrder.go
  rw[e]
  refine (pN next fuel (k+1) _ _ (by rw[List.length_eraseIdx,if_pos hi,h];rfl)).trans ?_
  rw[Array.toList_push,List.append_assoc]
  exact List.Perm.append_left _ (im e)
theorem je{α:Type}(next:Nat→Nat)(xs:Array α):(pickOrder next xs).toList.Perm xs.toList:=pN next _ 0 xs.toList #[] (Array.length_toList ..)

noncomputable def dS(t:SetTable)(i:Nat):Nat:=match i with | 0=>0 | i+1=>t.place.getD i 0+1
theorem below_slot{t:SetTable}(hr:Ris t.place){i:Nat}(hi:i≤t.place.size):SetTable.below t.place (dS t i)=i:=by
 have hb:=oM hr (dS t i)
 have mono:∀ i i' (h:i<t.place.size) (h':i'<t.place.size),i<i'→t.place[i]<t.place[i']:=fun i i' h h' l=>by
  have:=List.pairwise_iff_getElem.mp hr i i' (by simpa using h) (by simpa using h') l
  simpa using this
 rcases Nat.lt_trichotomy (SetTable.below t.place (dS t i)) i with h | h | h
 ·exfalso
  cases i with
  | zero=>exact Nat.not_lt_zero _ h
  | succ j=>
   have hj:j<t.place.size:=hi
   have e:dS t (j+1)=t.place[j]+1:=by unfold dS;dsimp only;rw[Array.getD_eq_getD_getElem?,getElem?_pos _ j hj];rfl
   have:=hb.2.2 j hj (Nat.le_of_lt_succ h)
   rw[e] at this
   exact Nat.not_succ_le_self _ this
 ·exact h
 ·exfalso
  have hlt:i<t.place.size:=Nat.lt_of_lt_of_le h hb.1
  have:=hb.2.1 i hlt h
  cases i with
  | zero=>exact Nat.not_lt_zero _ this
  | succ j=>
   have hj:j<t.place.size:=Nat.lt_of_succ_lt hlt
   have e:dS t (j+1)=t.place[j]+1:=by unfold dS;dsimp only;rw[Array.getD_eq_getD_getElem?,getElem?_pos _ j hj];rfl
   rw[e] at this
   exact Nat.lt_irrefl _ (Nat.lt_of_lt_of_le (mono j (j+1) hj hlt (Nat.lt_succ_self _)) (Nat.le_of_lt_succ this))

section
variable {a:Addr} {es:Array (Int×Value)} {ep i:Nat} {t:SetTable}
theorem md(hb:cC w=true)(hs:s.heap.get? a=some (fE es ep t))(hf:t.fits es.size=true){Q:Option (Value×Nat)→Shared→Prop}
  (h:Q (((pickOrder (w.params.setOrder a ep) es)[i]?).map fun e=>(e.2,0)) s):wpAny (model prog w) A (setNext a 0 i ep) Q E s:=by
 unfold setNext
 refine wpAny_bind (wpAny_setState_of hs rfl hf (wpAny_bind (d3 ?_)))
 rw[hb]
 show wpAny _ _ (if (ep != ep)=true then _ else _) _ _ _
 rw[if_neg (by simp)]
 refine wpAny_bind ?_
 unfold setWalk
 refine wpAny_bind (wpAny_setState_of hs rfl hf (wpAny_bind (d3 ?_)))
 rw[hb]
 exact wpAny_bind (wpAny_askSetting (wpAny_pure (wpAny_pure h)))
theorem nU(hb:cC w=false)(hd:(!t.plain&&decide (es.size > 1))=false)(hs:s.heap.get? a=some (fE es ep t))(hf:t.fits es.size=true)(hT:cU false t)(hi:i≤es.size){Q:Option (Value×Nat)→Shared→Prop}
  (h:Q (es[i]?.map fun e=>(e.2,dS t (i+1))) s):wpAny (model prog w) A (setNext a (dS t i) i ep) Q E s:=by
 have hsz:t.place.size=es.size:=by
  simp only[SetTable.fits,Bool.and_eq_true,beq_iff_eq] at hf;exact hf.1
 unfold setNext
 refine wpAny_bind (wpAny_setState_of hs rfl hf (wpAny_bind (d3 ?_)))
 rw[hb]
 refine wpAny_ite_split (fun q=>absurd q Bool.false_ne_true) fun _=>?_
 refine wpAny_ite_split (fun q=>absurd (hd▸q:false=true) Bool.false_ne_true) fun _=>?_
 refine wpAny_bind ?_
 show wpAny _ _ (if (!t.led&&!es.isEmpty)=true then unsupported "set:maker-not-led" else pure ()) _ _ _
 rw[hT.led,if_neg (by simp)]
 refine wpAny_pure (wpAny_pure ?_)
 rw[below_slot hT.ris (hsz▸hi)]
 rcases Nat.lt_or_eq_of_le hi with hl | rfl
 ·have h1:es[i]?=some es[i]:=getElem?_pos es i hl
  have h2:t.place[i]?=some t.place[i]:=getElem?_pos _ i (hsz▸hl)
  rw[h1] at h
  rw[h1,h2]
  have e:dS t (i+1)=t.place[i]'(hsz▸hl)+1:=by unfold dS;dsimp only;rw[Array.getD_eq_getD_getElem?,h2];rfl
  rw[e] at h
  exact h
 ·have h1:es[es.size]?=none:=Array.getElem?_size
  rw[h1] at h ⊢
  exact h
end
end
end Mine
namespace Mine
open PySem

section
variable {prog:Program} {w:World} {A:Around} {E:Value→Shared→Prop} {s:Shared}

theorem hM{I a:Addr}{first:Value}{i n ep:Nat}{Q:Value→Shared→Prop}(hit:s.heap.get? I=some (dB first a i n ep))(h:Q (.ref I) s):wpAny (model prog w) A (pyIter (.ref I)) Q E s:=by
 have hT:s.TypeIs (.ref I) "set_iterator":=⟨_,hit,rfl⟩
 refine wpAny_pyIter_slot hT ft (wpAny_call_entry ft hT entry_setit_iter ?_ (args_setit_iter _))
 show wpAny _ _ (ret (.ref I)) _ _ s
 exact wpAny_pure ⟨_,rfl,"set_iterator",_,hT,cg.lookup,h⟩

theorem walks_text(hh:A.handled=none){I a:Addr}(hne:a≠I){es:Array (Int×Value)}{ep:Nat}{t:SetTable}(hb:cC w=true)(hf:t.fits es.size=true) :
  Walks prog w A I [I,a] [I] es.size (fun i v=>((pickOrder (w.params.setOrder a ep) es).toList.map (·.2))[i]?=some v) (fun i h=>h.get? I=some (dB (.int 0 0) a i es.size ep)∧h.get? a=some (fE es ep t)) where
 sub:=fun b hb=>by rw[List.mem_singleton.mp hb];exact List.mem_cons_self
 frame:=fun _ _ _ st hk=>⟨hk I List.mem_cons_self _ st.1,hk a (List.mem_cons_of_mem _ List.mem_cons_self) _ st.2⟩
 item:=fun i s Q E hi st hQ=>by
  have hl:(pickOrder (w.params.setOrder a ep) es).size=es.size:=by have:=(je (w.params.setOrder a ep) es).length_eq;rwa [Array.length_toList,Array.length_toList] at this
  have e:(pickOrder (w.params.setOrder a ep) es)[i]?=some ((pickOrder (w.params.setOrder a ep) es)[i]'(hl.symm▸hi)):=getElem?_pos _ i _
  refine nV (j:=0) st.1 st.2 hf (fun E' Q' q=>md hb st.2 hf (by rw[e];exact q)) fun h' hit' hs'=>hQ _ h' s.toks ?_ ⟨hit',(hs'.2 a hne).trans st.2⟩ fun b o hb e=>(hs'.2 b fun q=>hb (q▸List.mem_cons_self)).trans e
  rw[List.getElem?_map,Array.getElem?_toList,e];rfl
 done:=fun s Q E st hQ=>by
  have hl:(pickOrder (w.params.setOrder a ep) es).size=es.size:=by have:=(je (w.params.setOrder a ep) es).length_eq;rwa [Array.length_toList,Array.length_toList] at this
  refine iG hh st.1 st.2 hf (fun E' Q' q=>md hb st.2 hf (by rw[Array.getElem?_eq_none (Nat.le_of_eq hl)];exact q)) fun h' hk=>hQ h' s.toks fun b o hb e=>hk b o (fun q=>hb (q▸List.mem_cons_self)) e
 self:=fun _ _ _ _ st hQ=>hM st.1 hQ
theorem walks_tab(hh:A.handled=none){I a:Addr}(hne:a≠I){es:Array (Int×Value)}{ep:Nat}{t:SetTable}(hb:cC w=false)(hd:(!t.plain&&decide (es.size > 1))=false)(hf:t.fits es.size=true)(hT:cU false t) :
  Walks prog w A I [I,a] [I] es.size (fun i v=>(es.toList.map (·.2))[i]?=some v) (fun i h=>i≤es.size∧h.get? I=some (dB (.int (dS t i) 0) a i es.size ep)∧h.get? a=some (fE es ep t)) where
 sub:=fun b hb=>by rw[List.mem_singleton.mp hb];exact List.mem_cons_self
 frame:=fun _ _ _ st hk=>⟨st.1,hk I List.mem_cons_self _ st.2.1,hk a (List.mem_cons_of_mem _ List.mem_cons_self) _ st.2.2⟩
 item:=fun i s Q E hi st hQ=>by
  have e:es[i]?=some es[i]:=getElem?_pos _ i hi
  refine nV st.2.1 st.2.2 hf (fun E' Q' q=>nU hb hd st.2.2 hf hT st.1 (by rw[e];exact q)) fun h' hit' hs'=>hQ _ h' s.toks ?_ ⟨hi,hit',(hs'.2 a hne).trans st.2.2⟩ fun b o hb e=>(hs'.2 b fun q=>hb (q▸List.mem_cons_self)).trans e
  rw[List.getElem?_map,Array.getElem?_toList,e];rfl
 done:=fun s Q E st hQ=>
  iG hh st.2.1 st.2.2 hf (fun E' Q' q=>nU hb hd st.2.2 hf hT st.1 (by rw[Array.getElem?_size];exact q)) fun h' hk=>hQ h' s.toks fun b o hb e=>hk b o (fun q=>hb (q▸List.mem_cons_self)) e
 self:=fun _ _ _ _ st hQ=>hM st.2.1 hQ
theorem walks_dr(hh:A.handled=none){I a T:Addr}(hne:a≠I)(hnT:T≠I){es:Array (Int×Value)}{ep n':Nat}{t:SetTable}{ys:List Nat}(hp:ys.Perm (List.range es.size))(hf:t.fits es.size=true) :
  Walks prog w A I [I,a,T] [I] es.size (fun i v=>((ys.map fun j=>es.getD j (0,.none)).map (·.2))[i]?=some v)
   (fun i h=>h.get? I=some (dB (.ref T) a i es.size ep)∧h.get? a=some (fE es ep t)∧h.get? T=some (cV (ys.map fun (i:Nat)=>rawInt i).toArray n')) where
 sub:=fun b hb=>by rw[List.mem_singleton.mp hb];exact List.mem_cons_self
 frame:=fun _ _ _ st hk=>⟨hk I List.mem_cons_self _ st.1,hk a (List.mem_cons_of_mem _ List.mem_cons_self) _ st.2.1,hk T (List.mem_cons_of_mem _ (List.mem_cons_of_mem _ List.mem_cons_self)) _ st.2.2⟩
 item:=fun i s Q E hi st hQ=>by
  have hl:ys.length=es.size:=hp.length_eq.trans List.length_range
  obtain⟨y,e⟩:∃ y,ys[i]?=some y:=⟨_,List.getElem?_eq_getElem (hl.symm▸hi)⟩
  have hm:y<es.size:=List.mem_range.mp (hp.mem_iff.mp (List.mem_of_getElem? e))
  have e2:es[y]?=some (es[y]'hm):=getElem?_pos es y hm
  refine next_dr st.1 st.2.1 hf st.2.2 (by rw[List.getElem?_toArray,List.getElem?_map,e];rfl) e2 fun h' hit' hs'=>hQ _ h' s.toks ?_ ⟨hit',(hs'.2 a hne).trans st.2.1,(hs'.2 T hnT).trans st.2.2⟩ fun b o hb e=>(hs'.2 b fun q=>hb (q▸List.mem_cons_self)).trans e
  rw[List.getElem?_map,List.getElem?_map,e]
  show some (es.getD _ _).2=_
  rw[Array.getD_eq_getD_getElem?,e2];rfl
 done:=fun s Q E st hQ=>by
  have hl:ys.length=es.size:=hp.length_eq.trans List.length_range
  refine next_dr_end hh st.1 st.2.1 hf st.2.2 ?_ fun h' hk=>hQ h' s.toks fun b o hb e=>hk b o (fun q=>hb (q▸List.mem_cons_self)) e
  rw[List.getElem?_toArray];exact List.getElem?_eq_none (by rw[List.length_map,hl];exact Nat.le_refl _)
 self:=fun _ _ _ _ st hQ=>hM st.1 hQ

theorem perm_get{es:Array (Int×Value)}{ys:List Nat}(hp:ys.Perm (List.range es.size)):((ys.map fun j=>es.getD j (0,.none)).map (·.2)).Perm (es.toList.map (·.2)):=by
 refine List.Perm.map _ ((hp.map _).trans (List.Perm.of_eq ?_))
 apply List.ext_getElem
 ·simp
 ·intro i h1 h2
  have hi:i<es.size:=by simpa using h2
  rw[List.getElem_map,List.getElem_range,Array.getD_eq_getD_getElem?,getElem?_pos es i hi,Array.getElem_toList];rfl

theorem iter_setI{a:Addr}{es:Array (Int×Value)}{Q:Value→Shared→Prop}(hS:iu (cC w) s.heap a es)(hz:es.size<scanBound)
  (h:∀ (h':Heap) (dw:Drawn) (I:Addr) (fp:List Addr) (xs:List Value) (St:Nat→Heap→Prop),(∀ b o,s.heap.get? b=some o→h'.get? b=some o)→s.heap.objs.size≤I→(∀ b∈fp,b=a∨s.heap.objs.size≤b)→xs.Perm (es.toList.map (·.2)) →
   (∀ A':Around,A'.handled=none→Walks prog w A' I fp [I] es.size (fun i v=>xs[i]?=some v) St)→St 0 h'→Q (.ref I) { s with heap:=h',drawn:=dw }):wpAny (model prog w) A (pyIter (.ref a)) Q E s:=by
 obtain⟨⟨ep,t,ho,hf,hT⟩,_,_⟩:=hS
 have hTy:s.TypeIs (.ref a) "set":=⟨_,ho,rfl⟩
 have hlt:a<s.heap.objs.size:=Heap.lt_size ho
 refine wpAny_pyIter_slot hTy F.slot_set_iter (wpAny_call_entry F.slot_set_iter hTy entry_set_iter ?_ (F.args_set_iter_1 _))
 unfold Builtin.«frozenset.__iter__» Builtin.Frozenset.slot0
 refine wpAny_bind (wpAny_bind (wpAny_pure (wpAny_pure ?_)))
 refine wpAny_bind ?_
 unfold Builtin.Frozenset.sizeOf
 refine wpAny_bind (wpAny_setEntries_of ho rfl hf (wpAny_pure ?_))
 refine wpAny_bind ?_
 unfold setDrawn
 refine wpAny_bind (wpAny_setState_of ho rfl hf (wpAny_bind (d3 (wpAny_pure ?_))))
 refine wpAny_ite_split (fun q=>?_) fun q=>?_
 ·replace q:(!cC w&&(!t.plain&&decide (es.size > 1)))=true:=q
  refine wpAny_bind (qG es.size (List.range es.size) s.drawn List.length_range fun ys dw hp=>wpAny_bind (wpAny_newTuple ?_ (by
   rw[List.length_map,hp.length_eq,List.length_range];exact fits_of_scanBound hz)))
  refine wpAny_bind (wpAny_setEpoch_of (o:=fE es ep t) (Heap.get?_push_of_some _ ho) rfl hf ?_)
  refine wpAny_bind ?_
  unfold newFields
  refine wpAny_newObj_type (wpAny_pure ⟨_,rfl,"set_iterator",_,⟨_,Heap.get?_push_size _ rfl,rfl⟩,cg.lookup,?_⟩)
  generalize hh1:s.heap.push { cls:=.type "tuple",data:=.seq (ys.map fun (i:Nat)=>rawInt i).toArray }=h₁
  have hT1:h₁.get? s.heap.objs.size=some (cV (ys.map fun (i:Nat)=>rawInt i).toArray 0):=hh1▸Heap.get?_push_size _ rfl
  have hz1:h₁.objs.size=s.heap.objs.size+1:=hh1▸Heap.size_push ..
  have hk1:∀ b o,s.heap.get? b=some o→h₁.get? b=some o:=fun b o e=>hh1▸Heap.get?_push_of_some _ e
  refine h (h₁.push (dB (.ref s.heap.objs.size) a 0 es.size ep)) dw h₁.objs.size [h₁.objs.size,a,s.heap.objs.size] _ _ (fun b o e=>Heap.get?_push_of_some _ (hk1 b o e)) (hz1.symm▸Nat.le_succ _) (fun b hb=>?_) (perm_get hp)
   (fun A' hA=>walks_dr (n':=0) (t:=t) (ep:=ep) hA (hz1.symm▸Nat.ne_of_lt (Nat.lt_succ_of_lt hlt)) (hz1.symm▸Nat.ne_of_lt (Nat.lt_succ_self _)) hp hf) ⟨Heap.get?_push_size _ rfl,Heap.get?_push_of_some _ (hk1 _ _ ho),Heap.get?_push_of_some _ hT1⟩
  rcases List.mem_cons.mp hb with rfl | hb
  ·exact .inr (hz1.symm▸Nat.le_succ _)
  ·rcases List.mem_cons.mp hb with rfl | hb
   ·exact .inl rfl
   ·rw[List.mem_singleton.mp hb];exact .inr (Nat.le_refl _)
 ·replace q:¬ (!cC w&&(!t.plain&&decide (es.size > 1)))=true:=q
  refine wpAny_bind (wpAny_pure (wpAny_bind (wpAny_setEpoch_of ho rfl hf ?_)))
  refine wpAny_bind ?_
  unfold newFields
  refine wpAny_newObj_type (wpAny_pure ⟨_,rfl,"set_iterator",_,⟨_,Heap.get?_push_size _ rfl,rfl⟩,cg.lookup,?_⟩)
  have hfp:∀ b∈[s.heap.objs.size,a],b=a∨s.heap.objs.size≤b:=fun b hb=>by
   rcases List.mem_cons.mp hb with rfl | hb
   ·exact .inr (Nat.le_refl _)
   ·exact .inl (List.mem_singleton.mp hb)
  have hne:a≠s.heap.objs.size:=Nat.ne_of_lt hlt
  have go:=fun xs St=>h (s.heap.push (dB (.int 0 0) a 0 es.size ep)) s.drawn s.heap.objs.size [s.heap.objs.size,a] xs St (fun b o e=>Heap.get?_push_of_some _ e) (Nat.le_refl _) hfp
  cases hb:cC w with
  | true=>exact go _ _ ((je (w.params.setOrder a ep) es).map _) (fun A' hA=>walks_text (t:=t) hA hne hb hf) ⟨Heap.get?_push_size _ rfl,Heap.get?_push_of_some _ ho⟩
  | false=>
   rw[hb] at q hT
   have hd:(!t.plain&&decide (es.size > 1))=false:=by simpa using q
   exact go _ _ (List.Perm.refl _) (fun A' hA=>walks_tab (t:=t) (ep:=ep) hA hne hb hd hf hT) ⟨Nat.zero_le _,Heap.get?_push_size _ rfl,Heap.get?_push_of_some _ ho⟩
end
end Mine
namespace Mine
open PySem

section
variable {prog:Program} {w:World} {A:Around} {E:Value→Shared→Prop} {s:Shared}
set_option maxRecDepth 100000 in
theorem hint_set{r:Addr}{Q:Bool→Shared→Prop}(hT:s.TypeIs (.ref r) "set")(h:Q false s):wpAny (model prog w) A (Builtin.List.listLengthHint (.ref r)) Q E s:=by
 unfold Builtin.List.listLengthHint
 refine wpAny_bind (wpAny_specialOf hT F.slot_set_len.lookup ?_)
 generalize hid:("set.__len__":String)=id0
 wp_delta
 rw[show splitId id0=some ("set","__len__") from by subst hid;decide +kernel]
 subst hid
 refine wpAny_bind (wpAny_isInstance (T:="set") (b:=true) hT (by rw[isSubtype_type];kernel_rfl) ?_)
 refine wpAny_ite_split (fun hab=>absurd hab (by decide)) (fun _=>?_)
 refine wpAny_ite_split (fun _=>?_) (fun hab=>absurd (by decide +kernel) hab)
 refine wpAny_bind (wpAny_typeOf hT ?_)
 exact wpAny_pure h

theorem items_list{xs:List Value}{acc:Array Value}(h:ItemsOf (fun i v=>xs[i]?=some v) acc xs.length):acc.toList=xs:=by
 apply List.ext_getElem?
 intro i
 rcases Nat.lt_or_ge i xs.length with hi | hi
 ·have hi':i<acc.size:=h.1.symm▸hi
  rw[Array.getElem?_toList,getElem?_pos acc i hi',h.2 i _ (getElem?_pos acc i hi')]
 ·rw[Array.getElem?_toList,Array.getElem?_eq_none (h.1.symm▸hi),List.getElem?_eq_none hi]

theorem extend_setI{R:Result→Shared→Prop}{a S:Addr}{es:Array (Int×Value)}(hh:A.handled=none)(hS:iu (cC w) s.heap a es)(hz:es.size<scanBound)(hSa:S≠a)(res:Value)(hL:s.heap.get? S=some (eG #[] 0))
  (hR:∀ h' tk dw acc' c',(∀ b o,b≠S→s.heap.get? b=some o→h'.get? b=some o)→h'.get? S=some (eG acc' c')→acc'.toList.Perm (es.toList.map (·.2))→R (.ok (.ret res)) { s with heap:=h',toks:=tk,drawn:=dw }) :
  wpAny (model prog w) A.in1 (Builtin.List.listExtendWith (.ref S) (.ref a) res)
   (fun fin s'=>match fin with | .done f=>R (.ok f) s' | .again c'=>c'.quiet=true∧codeAny (model prog w) A c' R s') (fun e s'=>R (.error e) s') s:=by
 have hT:s.TypeIs (.ref a) "set":=by obtain⟨ep,t,ho,_⟩:=hS.obj;exact⟨_,ho,rfl⟩
 have hSlt:S<s.heap.objs.size:=Heap.lt_size hL
 unfold Builtin.List.listExtendWith
 refine wpAny_bind (wpAny_typeOf hT ?_)
 have h1:Builtin.List.listSameRef (.ref S) (.ref a)=false:=by simp[Builtin.List.listSameRef,hSa]
 have h2:(Value.type "set" == Value.type "list")=false:=by decide
 have h3:(Value.type "set" == Value.type "tuple")=false:=by decide
 rw[h1,h2,h3]
 simp only[Bool.or_false,Bool.false_eq_true,if_false]
 refine wpAny_bind (iter_setI hS hz fun h₁ dw I fp xs St hk hI hfp hp W st=>?_)
 have hSI:S≠I:=Nat.ne_of_lt (Nat.lt_of_lt_of_le hSlt hI)
 have hSf:S ∉ fp:=fun q=>(hfp S q).elim hSa fun q=>Nat.lt_irrefl _ (Nat.lt_of_lt_of_le hSlt q)
 have hl:xs.length=es.size:=by rw[hp.length_eq,List.length_map,Array.length_toList]
 have key:∀ (h:Heap) (c₁ tk:Nat),St 0 h→(∀ b o,b≠S→s.heap.get? b=some o→h.get? b=some o)→h.get? S=some (eG #[] c₁) →
   codeAny (model prog w) A (.builtin "list.extend.loop" ⟨[.ref S,.ref I,res],[]⟩) R { s with heap:=h,toks:=tk,drawn:=dw }:=by
  intro h c₁ tk hst hk hS₁
  refine codeAny_extend_loopS (W A.in1 hh).toS (fits_of_scanBound hz) S hSf res es.size 0 _ #[] c₁ rfl (Nat.zero_le _) hst hS₁ (ItemsOf.nil _) fun s' acc' c' hm hS' hacc=>?_
  rw[Moved.eq_with hm]
  refine hR s'.heap s'.toks dw acc' c' (fun b o hb e=>hm.heap b o (fun hmem=>?_) (hk b o hb e)) hS' ?_
  ·rcases List.mem_cons.mp hmem with e' | hmem
   ·exact hb e'
   ·exact absurd (Heap.lt_size e) (by rw[List.mem_singleton.mp hmem];exact Nat.not_lt_of_le hI)
  ·rw[← hl] at hacc;rw[items_list hacc];exact hp
 have hS₁:=hk _ _ hL
 refine wpAny_bind (wpAny_holding (hint_set (s:={ s with heap:=h₁,drawn:=dw }) (by obtain⟨ep,t,ho,_⟩:=hS.obj;exact⟨_,hk _ _ ho,rfl⟩) ?_))
 refine wpAny_ite_split (fun _=>?_) (fun _=>wpAny_pure ⟨plainId_quiet PySem.F.plain_extend_loop _,key _ 0 _ st (fun b o _ e=>hk b o e) hS₁⟩)
 refine wpAny_bind (wpAny_rule (wpAny_bind ?_))
 show wpAny _ _ (updateSeq S (·.push .none) >>= fun _=>updateSeq S (·.pop)) _ _ _
 refine wpAny_bind (wpAny_updateSeq hS₁ rfl ?_)
 have hS₂:=Heap.get?_update_self (Obj.mapSeq (·.push Value.none)) hS₁ rfl
 refine wpAny_updateSeq (hz:=by seq_fits) hS₂ rfl ?_
 have hS₃:=Heap.get?_update_self (Obj.mapSeq (·.pop)) hS₂ rfl
 refine wpAny_pure ⟨plainId_quiet PySem.F.plain_extend_loop _,key _ _ _ ?_ (fun b o hb e=>?_) hS₃⟩
 ·refine (W A.in1 hh).frame 0 _ _ st fun b hb o e=>?_
  have hbS:b≠S:=fun h=>hSf (h▸hb)
  exact (Heap.get?_update_other _ _ (Ne.symm hbS)).trans ((Heap.get?_update_other _ _ (Ne.symm hbS)).trans e)
 ·exact (Heap.get?_update_other _ _ (Ne.symm hb)).trans ((Heap.get?_update_other _ _ (Ne.symm hb)).trans (hk b o e))

theorem collect_setI{a:Addr}{es:Array (Int×Value)}{Q:List Value→Shared→Prop}(hh:A.handled=none)(hS:iu (cC w) s.heap a es)(hz:es.size<scanBound)
  (h:∀ h' tk dw xs,(∀ b o,s.heap.get? b=some o→h'.get? b=some o)→xs.Perm (es.toList.map (·.2))→Q xs { s with heap:=h',toks:=tk,drawn:=dw }):wpAny (model prog w) A (collect (.ref a)) Q E s:=by
 have hlt:a<s.heap.objs.size:=by obtain⟨ep,t,ho,_⟩:=hS.obj;exact Heap.lt_size ho
 unfold collect
 refine wpAny_bind (wpAny_runValue (codeAny_builtin PyProof.Rows.entry_proto_collect' ?_))
 show wpAny _ _ (do again (.builtin "list.__iadd__" ⟨[← newList [],.ref a],[]⟩)) _ _ s
 refine wpAny_bind (wpAny_newList (wpAny_pure ⟨Code.quiet_builtin _ (by decide +kernel),codeAny_builtin PyProof.Rows.entry_list_iadd' ?_⟩))
 rw[Around.under_plainId (show plainId "list.__iadd__"=true by decide +kernel) _]
 show wpAny _ _ (Builtin.List.listExtendWith (.ref s.heap.objs.size) (.ref a) (.ref s.heap.objs.size)) _ _ _
 refine extend_setI (R:=fun r s'=>match r with
  | .ok (.ret v)=>wpAny (model prog w) A (match v with
   | .ref a=>do
    match (← load a).data with
    | .seq xs _=>pure xs.toList
    | _=>unsupported "internal:collect"
   | _=>unsupported "internal:collect") Q E s'
  | .ok _=>False
  | .error e=>E e s') (A:=A) (s:={ s with heap:=s.heap.push (eG #[] 0) }) hh (hS.move fun o e=>Heap.get?_push_of_some _ e) hz (Nat.ne_of_gt hlt) _ (Heap.get?_push_size _ rfl) fun h' tk dw acc' c' hk hL hp=>?_
 show wpAny (model prog w) A (do
   let o ← load s.heap.objs.size
   match o.data with
   | .seq xs _=>pure xs.toList
   | _=>unsupported "internal:collect") Q E { s with heap:=h',toks:=tk,drawn:=dw }
 refine wpAny_bind (wpAny_load hL (wpAny_pure (h h' tk dw _ (fun b o e=>hk b o (Nat.ne_of_lt (Heap.lt_size e)) (Heap.get?_push_of_some _ e)) hp)))
end
end Mine
namespace Mine
open PySem PyProof.Rows

section
variable {prog:Program} {w:World} {A:Around} {E:Value→Shared→Prop} {s:Shared}

theorem sorted_setI{a:Addr}{es:Array (Int×Value)}{Q:Value→Shared→Prop}(hh:A.handled=none)(hS:iu (cC w) s.heap a es)(hz:es.size<64)
  (h:∀ h' tk dw L c (out:Array Value) ns',(∀ b o,s.heap.get? b=some o→h'.get? b=some o)→(∀ b o,s.heap.get? b=some o→@LT.lt Nat _ b L)→h'.get? L=some (eG out c)→IntsAre out.toList ns'→ns'.Perm (bl es)→ns'.Pairwise (·≤·) →
   Q (.ref L) { s with heap:=h',toks:=tk,drawn:=dw }):wpAny (model prog w) A (call (.builtin "sorted") [.ref a]) Q E s:=by
 refine Calls.call_function_entry kind_sorted plain_sorted entry_sorted (args_sorted1 _) ?_
 unfold Builtin.«sorted»
 refine wpAny_bind (m:=checkCount "sorted" 1 1 _) (wpAny_pure ?_)
 refine wpAny_bind (collect_setI (A:=A.in1) hh hS (Nat.lt_trans hz (by decide)) fun h₁ tk dw xs hk hp=>?_)
 have hI:IntsAre xs (xs.map numOf):=intsAre_map xs fun v hv=>by
  obtain⟨e,he,rfl⟩:=List.mem_map.mp (hp.mem_iff.mp hv)
  obtain⟨k,tok,rfl⟩:=hS.el e he
  exact⟨k,tok,rfl⟩
 have hpn:(xs.map numOf).Perm (bl es):=by
  have:=hp.map numOf
  rwa [List.map_map] at this
 have hlen:xs.length<64:=by rw[hp.length_eq,List.length_map,Array.length_toList];exact hz
 refine wpAny_bind (wpAny_newList ?_ (by rw[sizeLine_eq];exact Nat.le_trans (Nat.le_of_lt hlen) (by decide)))
 have hoL:(h₁.push (seqObj "list" xs.toArray 0)).get? h₁.objs.size=some (seqObj "list" xs.toArray 0):=Heap.get?_push_size _ rfl
 refine wpAny_bind (wpAny_holding (wpAny_call_entry slot_list_sort ⟨_,hoL,rfl⟩ entry_list_sort (list_sort_tree hoL hI hlen fun out ns' a1 a2 a3=>⟨_,rfl,?_⟩) (args_list_sort _)))
 obtain⟨c,hc⟩:=sortedHeap_at (out:=out) (vs:=xs) hoL
 refine wpAny_pure ⟨_,rfl,h _ tk dw h₁.objs.size c out ns' (fun b o e=>?_) (fun b o e=>Heap.lt_size (hk b o e)) hc a1 (a2.trans hpn) a3⟩
 ·have hb:=Heap.lt_size (hk b o e)
  have hb':b<(h₁.push (seqObj "list" xs.toArray 0)).objs.size:=by rw[size_push'];exact Nat.lt_succ_of_lt hb
  rw[sortedHeap_old (Nat.ne_of_lt hb) hb']
  exact Heap.get?_push_of_some _ (hk b o e)
end
end Mine
namespace Mine
open PySem PySem.SeqAt

theorem kZ(x z:Int):∀ l,z∈pi x l↔z=x∨z∈l
 | []=>List.mem_singleton.trans ⟨.inl,fun h=>h.elim id fun h=>nomatch h⟩
 | y::l=>by
  unfold pi
  split
  ·exact List.mem_cons
  ·split
   ·next h=>subst h;exact⟨.inr,fun h=>h.elim (fun h=>h▸List.mem_cons_self) id⟩
   ·rw[List.mem_cons,kZ x z l,List.mem_cons]
    exact⟨fun h=>h.elim (fun h=>.inr (.inl h)) fun h=>h.elim .inl fun h=>.inr (.inr h),fun h=>h.elim (fun h=>.inr (.inl h)) fun h=>h.elim .inl fun h=>.inr (.inr h)⟩
theorem oj(x:Int):∀ {l:List Int},l.Pairwise (·<·)→(pi x l).Pairwise (·<·)
 | [],_=>List.pairwise_singleton _ _
 | y::l,h=>by
  have h':=List.pairwise_cons.mp h
  unfold pi
  split
  ·next hl=>exact List.pairwise_cons.mpr ⟨fun z hz=>(List.mem_cons.mp hz).elim (fun e=>e▸hl) fun hz=>Int.lt_trans hl (h'.1 z hz),h⟩
  ·split
   ·exact h
   ·next h1 h2=>exact List.pairwise_cons.mpr ⟨fun z hz=>((kZ x z l).mp hz).elim (fun e=>e▸Int.lt_iff_le_and_ne.mpr ⟨Int.not_lt.mp h1,Ne.symm h2⟩) (h'.1 z),oj x h'.2⟩
theorem lV:∀ ns:List Int,(fI ns).Pairwise (·<·)
 | []=>.nil
 | x::ns=>oj x (lV ns)
theorem iZ(z:Int):∀ ns:List Int,z∈fI ns↔z∈ns
 | []=>Iff.rfl
 | x::ns=>by
  show z∈pi x (fI ns)↔_
  rw[kZ,iZ z ns,List.mem_cons]
theorem rU:∀ {l m:List Int},l.Nodup→(∀ z∈l,z∈m)→l.length≤m.length
 | [],_,_,_=>Nat.zero_le _
 | x::l,m,hn,h=>by
  have hn':=List.nodup_cons.mp hn
  have hx:x∈m:=h x List.mem_cons_self
  have ih:=rU (m:=m.erase x) hn'.2 fun z hz=>(List.mem_erase_of_ne (fun e:z=x=>hn'.1 (e▸hz))).mpr (h z (List.mem_cons_of_mem _ hz))
  rw[List.length_erase_of_mem hx] at ih
  exact Nat.le_trans (Nat.succ_le_succ ih) (Nat.le_of_eq (Nat.sub_add_cancel (List.length_pos_of_mem hx)))
theorem nJ:∀ {l m:List Int},l.Pairwise (·<·)→m.Pairwise (·<·)→(∀ z,z∈l↔z∈m)→l=m
 | [],[],_,_,_=>rfl
 | [],y::m,_,_,h=>absurd ((h y).mpr List.mem_cons_self) List.not_mem_nil
 | x::l,[],_,_,h=>absurd ((h x).mp List.mem_cons_self) List.not_mem_nil
 | x::l,y::m,hl,hm,h=>by
  have hl':=List.pairwise_cons.mp hl
  have hm':=List.pairwise_cons.mp hm
  have e:x=y:=by
   rcases List.mem_cons.mp ((h x).mp List.mem_cons_self) with e | h1
   ·exact e
   ·rcases List.mem_cons.mp ((h y).mpr List.mem_cons_self) with e | h2
    ·exact e.symm
    ·exact absurd (Int.lt_trans (hl'.1 y h2) (hm'.1 x h1)) (Int.lt_irrefl _)
  subst e
  rw[nJ hl'.2 hm'.2 fun z=>?_]
  constructor
  ·intro hz
   rcases List.mem_cons.mp ((h z).mp (List.mem_cons_of_mem _ hz)) with e | hz'
   ·exact absurd (hl'.1 z hz) (e▸Int.lt_irrefl _)
   ·exact hz'
  ·intro hz
   rcases List.mem_cons.mp ((h z).mpr (List.mem_cons_of_mem _ hz)) with e | hz'
   ·exact absurd (hm'.1 z hz) (e▸Int.lt_irrefl _)
   ·exact hz'

section
variable {prog:Program} {w:World} {A:Around} {E:Value→Shared→Prop} {s:Shared} {H:Addr→Prop}
theorem intsD_at{ds:List D}{ns:List Int}{vs:List Value}(h:kY ds=some ns)(hr:aq w.params s.heap H vs ds):vs.length=ns.length∧∀ (i:Nat) (v:Value),vs[i]?=some v→∃ (k:Int) (t:Tok),ns[i]?=some k∧v=Value.int k t:=by
 induction ds generalizing ns vs with
 | nil=>
  rw[show vs=[] from hr]
  cases h
  exact⟨rfl,fun i v e=>by rw[List.getElem?_nil] at e;cases e⟩
 | cons d ds ih=>
  cases d with
  | int k=>exact bh (o:=kY ds) (f:=fun l=>k::l) h fun ns' h e=>e▸dg.rec (motive:=fun vs _=>vs.length=(k::ns').length∧∀ (i:Nat) (v:Value),vs[i]?=some v→∃ (k':Int) (t:Tok),(k::ns')[i]?=some k'∧v=Value.int k' t) (fun hv hr=>⟨congrArg Nat.succ (ih h hr).1,fun i v e=>by
    cases i with
    | zero=>exact Option.some.inj e▸hv.intE fun t=>⟨k,t,rfl,rfl⟩
    | succ i=>exact (ih h hr).2 i v e⟩) hr
  | _=>exact ak h
theorem ints_reps{h:Heap}{P:Params}{vs:List Value}{ns:List Int}(r:PyProof.Rows.IntsAre vs ns):aq P h H vs (ns.map .int):=r.rec rfl fun n t _ _ _ ih=>.mk (.mk t) ih
theorem sset_snd{x:Value}{a d:D}(hh:A.handled=none)(hx:Rep w.params s.heap H x a)(hH:Ex s.heap H)(he:ku a=some d) :
  wpAny (model prog w) A (call (.type "set") [x]) (fun v s'=>wpAny (model prog w) A (call (.builtin "sorted") [v]) (bI w s H d true) E s') E s:=by
 cases a with
 | list ds=>
  refine bQ he fun hlen he=>bh he fun ns hns e=>e▸hx.listE fun l vs n ho hn hl hr=>?_
  have e12:=intsD_at hns hr
  have hvl:vs.size<63:=hr.size.symm▸hlen
  refine call_setI (ns:=ns) hh ho (fun i v e=>e12.2 i v (by rw[Array.getElem?_toList];exact e)) e12.1.symm (Nat.lt_trans (Nat.succ_lt_succ hvl) (by decide)) fun h' tk es hk hS hm=>?_
  have hes:es.size<64:=by
   have h1:(bl es).length≤ns.length:=rU hS.nod fun z hz=>(hm z).mp hz
   unfold bl at h1
   rw[List.length_map,Array.length_toList,← e12.1] at h1
   exact Nat.lt_of_le_of_lt h1 (Nat.lt_succ_of_lt hvl)
  refine sorted_setI (s:={ s with heap:=h',toks:=tk }) hh hS hes fun h₂ tk₂ dw L c out ns' hk₂ hL hoL hI hp hs=>?_
  have eN:ns'=fI ns:=nJ ((hs.and (hp.nodup_iff.mpr hS.nod)).imp fun h=>Int.lt_iff_le_and_ne.mpr h) (lV ns) fun z=>by rw[hp.mem_iff,hm z,iZ]
  subst eN
  have hlen':((fI ns).map D.int).length≤big:=by
   rw[List.length_map,hp.length_eq]
   unfold bl
   rw[List.length_map,Array.length_toList]
   exact Nat.le_trans (Nat.le_of_lt hes) (by decide)
  have hk':=Heap.gt_up hk
  have hL':∀ b o,gat h' b=some o→@LT.lt Nat _ b L:=fun b o e=>(Heap.gt_some e).elim fun _ q=>hL b _ q.1
  have own:fq w.params h₂ H L ((fI ns).map .int):=⟨hoL,hlen',ints_reps hI⟩
  have hnone:gat s.heap L=Option.none:=by
   cases e:gat s.heap L with
   | none=>rfl
   | some o=>exact absurd (hL' L o (hk' _ _ e)) (Nat.lt_irrefl _)
  exact⟨.mk h₂ tk₂ dw fun b o e=>Heap.gt_up hk₂ b o (hk' b o e),own.rep fun q=>(hH L q).elim fun b q=>q.elim fun o q=>absurd (hL' b o (hk' b o q.2)) (Nat.not_lt_of_le q.1),fun _=>⟨hnone,own⟩⟩
 | _=>exact ak he
end
section
variable {prog:Program} {w:World} {A:Around} {s:Shared} {base:Heap} {mg mb:Str→Option Value} {cf:CF}
theorem sf_sset(G:GOk mg mb base)(hh:A.handled=none){a:ME}(ha:SE prog w A base cf a):SF prog w A base cf (.sset a):=fun s env e H ρ m d fr E hc c he=>
 d5 he rfl fun he hf=>evi_sset he fun dx hx hd=>gt.rec (motive:=fun e _=>wpAny (model prog w) A (eval e env) (bI w s H d fr) E s) (fun {gp y pos} hg hy=>gt.rec (motive:=fun y _=>wpAny (model prog w) A (eval (.Call (.Name (Str.ofString "sorted") gp) [y] [] pos) env) (bI w s H d fr) E s) (fun {gp2 x p} hg2 h=>by
  have hc1:bH env.kindOf [.Call (.Name (Str.ofString "set") gp2) [x] [] p] [.blt "set" [a]]=true:=qY (show (Str.ofString "set" == Str.ofString "set"&&bJ env.kindOf (Str.ofString "set")&&bH env.kindOf [x] [a])=true from by rw[hg2,qY h];decide)
  refine PyProof.Rows.Call_Name rfl (dO G (f:="sorted") (by decide) c.R c.hw hg (de hc1 (Calls.spliced_cons ?_)))
  refine PyProof.Rows.Call_Name rfl (dO G (f:="set") (by decide) c.R c.hw hg2 (de (qY h) (Calls.spliced_cons ?_)))
  refine ha.go h c hx fun v s₁ q₁=>Calls.spliced_nil (be (sset_snd hh q₁.r (c.k q₁.k).x hd) fun u s₂ q₂=>Calls.spliced_nil (be q₂ fun v s₃ q₃=>?_))
  exact hf▸q₃.tr q₁.k) hy) (od hc)
end
end Mine
namespace Mine
open PySem PyProof.Rows PySem.SeqAt PySem.W

noncomputable def InT(n:Nat){α:Type}(R:α→Prop):KasT α→Prop
 | .ret a=>R a
 | .ask i j k=>i<n∧j<n∧∀ b,InT n R (k b)
theorem InT.bind{n:Nat}{α β:Type}{R:α→Prop}{T:β→Prop}{f:α→KasT β}(hf:∀ a,R a→InT n T (f a)):∀ {t:KasT α},InT n R t→InT n T (t.bind f)
 | .ret a,h=>hf a h
 | .ask _ _ _,h=>⟨h.1,h.2.1,fun b=>InT.bind hf (h.2.2 b)⟩
theorem InT.run{n:Nat}{α:Type}{R:α→Prop}(lt:Nat→Nat→Bool):∀ {t:KasT α},InT n R t→R (mW lt t)
 | .ret _,h=>h
 | .ask i j k,h=>InT.run (t:=k (lt i j)) lt (h.2.2 _)
theorem InT.wp{n:Nat}{α:Type}{R:α→Prop}{lt:Nat→Nat→Bool}{cmp:Nat→Nat→(Bool→Shared→Prop)→Shared→Prop}{s:Shared}{Q:α→Shared→Prop}(hc:∀ i j C,i<n→j<n→C (lt i j) s→cmp i j C s):∀ {t:KasT α},InT n R t→Q (mW lt t) s→t.kasWp cmp Q s
 | .ret _,_,h=>h
 | .ask i j _,k,h=>hc i j _ k.1 k.2.1 (InT.wp hc (k.2.2 _) h)
noncomputable def Pm(n:Nat)(p:Array Nat):Prop:=p.Perm (List.range n).toArray
section
variable {n:Nat}
theorem Pm.lt{p:Array Nat}(h:Pm n p)(h0:0<n)(k:Nat):p.getD k 0<n:=by
 unfold Array.getD
 split
 ·exact List.mem_range.mp (h.mem_iff.mp (Array.getElem_mem _) |> fun q=>by simpa using q)
 ·exact h0
theorem Pm.rev{p:Array Nat}(h:Pm n p)(i j:Nat):Pm n (kas_rev p i j):=(mirror_perm _ _ _ _).trans h
theorem pj{p:Array Nat}(hp:Pm n p)(h0:0<n):∀ f m,InT n (fun _=>True) (kas_asc p f m)
 | 0,_=>trivial
 | f+1,m=>⟨hp.lt h0 _,hp.lt h0 _,fun b=>by cases b;exact pj hp h0 f (m+1);exact trivial⟩
theorem j8(h0:0<n):∀ f (p:Array Nat) m q,Pm n p→InT n (fun r=>Pm n r.1) (kas_desc f p m q)
 | 0,_,_,_,hp=>hp
 | f+1,p,m,q,hp=>⟨hp.lt h0 _,hp.lt h0 _,fun b=>by
  cases b with
  | true=>
   show InT n _ (if q > 0 then _ else _)
   split
   ·exact j8 h0 f _ _ _ (hp.rev _ _)
   ·exact j8 h0 f _ _ _ hp
  | false=>exact⟨hp.lt h0 _,hp.lt h0 _,fun b=>by cases b;exact j8 h0 f _ _ _ hp;exact hp⟩⟩
theorem ol{p:Array Nat}(h0:0<n)(m k:Nat)(hp:Pm n p):InT n (fun r=>Pm n r.2) (kas_tail3 m k p):=InT.bind (n:=n) (T:=fun r:Nat×Array Nat=>Pm n r.2) (f:=fun k=>.ret (k,kas_rev p 0 m)) (fun _ _=>hp.rev 0 m) (pj (hp.rev 0 m) h0 _ _)
theorem jH{p:Array Nat}(h0:0<n)(m k:Nat)(hp:Pm n p):InT n (fun r=>Pm n r.2) (kas_descPart m k p):=(j8 h0 _ _ _ _ hp).bind fun r hr=>by
 show InT n _ (if _ then _ else _)
 split
 ·exact ol h0 _ _ (hr.rev _ _)
 ·exact ol h0 _ _ hr
theorem in_count{p:Array Nat}(h0:0<n)(k:Nat)(hp:Pm n p):InT n (fun r=>Pm n r.2) (kas_count k p):=(pj hp h0 _ _).bind fun m _=>by
 show InT n _ (if _ then _ else _)
 split
 ·exact hp
 ·split
  ·exact⟨hp.lt h0 _,hp.lt h0 _,fun b=>by cases b;exact jH h0 _ _ (hp.rev _ _);exact hp⟩
  ·exact jH h0 _ _ hp
theorem k4{p:Array Nat}(hp:Pm n p)(h0:0<n)(k:Nat):∀ f l r,InT n (fun _=>True) (kas_place p k f l r)
 | 0,_,_=>trivial
 | f+1,l,r=>by
  show InT n _ (if _ then _ else _)
  split
  ·exact trivial
  ·exact⟨hp.lt h0 _,hp.lt h0 _,fun b=>by cases b;exact k4 hp h0 k f _ _;exact k4 hp h0 k f _ _⟩
theorem r5(h0:0<n):∀ f (p:Array Nat) k,Pm n p→InT n (Pm n) (kas_bin f p k)
 | 0,_,_,hp=>hp
 | f+1,_,k,hp=>(k4 hp h0 k _ _ _).bind fun _ _=>r5 h0 f _ _ ((bubble_perm _ _ _).trans hp)
theorem qp(h0:0<n):InT n (Pm n) (kas_sort n):=(in_count h0 n (Array.Perm.refl _)).bind fun r hr=>by
 show InT n _ (if _ then _ else _)
 split
 ·exact r5 h0 _ _ _ hr
 ·exact hr
end
theorem kO(ks:List D):(kix ks).Perm (List.range ks.length):=by
 unfold kix
 split
 ·exact List.Perm.refl _
 ·next h=>exact ((qp (Nat.lt_of_lt_of_le Nat.two_pos (Nat.not_lt.mp h))).run _).toList

inductive dm(h:Heap):Value→D→Prop where
 | int {a:Addr} {i:Int} {t:Tok} {n:Nat} (e:h.get? a=some (cV #[.bool false,.int i t] n)):dm h (.ref a) (.int i)
 | str {a:Addr} {x:Str} {t:Tok} {n:Nat} (e:h.get? a=some (cV #[.bool true,.str x t] n)):dm h (.ref a) (.str x)
theorem dm.keeps{h h':Heap}{k:Value}{d:D}(q:dm h k d)(hk:∀ a xs n,h.get? a=some (cV xs n)→h'.get? a=some (cV xs n)):dm h' k d:=q.rec (fun e=>.int (hk _ _ _ e)) fun e=>.str (hk _ _ _ e)
theorem dm.first{h:Heap}{k:Value}{d:D}(q:dm h k d):∃ a b v n,k=.ref a∧h.get? a=some (cV #[.bool b,v] n):=q.rec (fun e=>⟨_,_,_,_,rfl,e⟩) fun e=>⟨_,_,_,_,rfl,e⟩

section
variable {prog:Program} {w:World} {A:Around} {E:Value→Shared→Prop} {s:Shared}
theorem kA{a b:Bool}{Q:Bool→Shared→Prop}(h:Q (!a&&b) s):wpAny (model prog w) A (oneLt' true (.bool a) (.bool b)) Q E s:=by
 rw[oneLt'_eq,if_pos rfl]
 refine wpAny_bind (wpAny_cRoomFor_byValue rfl ?_)
 refine wpAny_bind (wpAny_callSpecialIfBound?_slot (typeIs_bool' s a) PySem.F.slot_bool_lt (wpAny_call_entry PySem.F.slot_bool_lt (typeIs_bool' s a) PySem.F.entry_int_lt ?_ (PySem.F.args_int_lt_2 _ _)))
 have e:Builtin.«int.__lt__» ⟨[.bool a,.bool b],[]⟩=ret (.bool (!a&&b)):=by cases a <;> cases b <;> rfl
 rw[e]
 exact wpAny_pure ⟨_,rfl,wpAny_truthy_bool h⟩
theorem pW{a b:Addr}{k:Bool}{v u:Value}{n m:Nat}{Q:Bool→Shared→Prop}{e c:Bool}(ha:s.heap.get? a=some (cV #[.bool k,v] n))(hb:s.heap.get? b=some (cV #[.bool k,u] m))(he:EqAt A s v u e)(h:Q c s)(h1:e=true→c=false)(h2:wpAny (model prog w) A (compareOp .Lt v u) (W.BoolBack Q) (fun _ _=>False) s) :
  wpAny (model prog w) A (keyLt' (tuples' true) (.ref a) (.ref b)) Q E s:=by
 refine kat_lt ha rfl hb rfl (kat_cons (EqAt.bool_bool _ _ prog w _ _ ?_))
 rw[beq_self_eq_true]
 refine kat_yes (kat_cons (he prog w _ _ ?_))
 cases e with
 | true=>exact kat_yes (kat_nil (show Q false s from h1 rfl▸h))
 | false=>exact kat_no (kat_one _ _ h2)
theorem key_lt{x y:Value}{c d:D}{Q:Bool→Shared→Prop}(hx:dm s.heap x c)(hy:dm s.heap y d)(h:Q (pq c d) s):wpAny (model prog w) A (keyLt' (tuples' true) x y) Q E s:=by
 cases hx with
 | int ha=>cases hy with
  | int hb=>exact pW ha hb (EqAt.int_int _ _ _ _) h (fun e=>decide_eq_false fun q=>absurd (eq_of_beq e) (Int.ne_of_lt q)) (PyProof.Rows.lt_int h)
  | str hb=>exact kat_lt ha rfl hb rfl (kat_cons (EqAt.bool_bool _ _ prog w _ _ (kat_no (kA h))))
 | str ha=>cases hy with
  | int hb=>exact kat_lt ha rfl hb rfl (kat_cons (EqAt.bool_bool _ _ prog w _ _ (kat_no (kA h))))
  | str hb=>exact pW ha hb (EqAt.str_str _ _ _ _) h (fun e=>decide_eq_false fun q=>absurd (congrArg (·.cps.toList) (eq_of_beq e)) fun r=>List.lt_irrefl _ (r▸q)) (PyProof.Rows.lt_str h)

noncomputable def di(h:Heap)(keys:List Value)(ds:List D):Prop:=keys.length=ds.length∧∀ p∈keys.zip ds,dm h p.1 p.2
theorem di.snoc{h:Heap}{keys:List Value}{ds:List D}{k:Value}{d:D}(K:di h keys ds)(hk:dm h k d):di h (keys++[k]) (ds++[d]):=
 ⟨by rw[List.length_append,List.length_append,K.1];rfl,fun p hp=>by
  rw[List.zip_append K.1] at hp
  exact (List.mem_append.mp hp).elim (K.2 p) fun q=>List.mem_singleton.mp q▸hk⟩
theorem di.keeps{h h':Heap}{keys:List Value}{ds:List D}(K:di h keys ds)(hk:∀ a xs n,h.get? a=some (cV xs n)→h'.get? a=some (cV xs n)):di h' keys ds:=⟨K.1,fun p hp=>(K.2 p hp).keeps hk⟩
theorem di.rev{h:Heap}{keys:List Value}{ds:List D}(K:di h keys ds)(b:Bool):di h (katRev b keys) (katRev b ds):=by
 cases b with
 | false=>exact K
 | true=>exact⟨by show keys.reverse.length=ds.reverse.length;rw[List.length_reverse,List.length_reverse,K.1],fun p hp=>K.2 p (List.mem_reverse.mp ((List.reverse_zipWith (f:=Prod.mk) K.1)▸hp))⟩
theorem di.at{h:Heap}{keys:List Value}{ds:List D}(K:di h keys ds){i:Nat}(hi:i<ds.length):dm h (keys.getD i .none) (mm ds i):=by
 have hi':i<keys.length:=K.1.symm▸hi
 unfold mm
 rw[List.getD_eq_getElem?_getD,List.getD_eq_getElem?_getD,List.getElem?_eq_getElem hi',List.getElem?_eq_getElem hi]
 have hz:i<(keys.zip ds).length:=by rw[List.length_zip,K.1,Nat.min_self];exact hi
 have q:=K.2 _ (List.getElem_mem hz)
 rw[List.getElem_zip] at q
 exact q
theorem keys_kind{keys:List Value}{ds:List D}{Q:SortKind→Shared→Prop}(K:di s.heap keys ds)(h2:2≤ds.length)(h:Q (tuples' true) s):wpAny (model prog w) A (keyKind' keys.toArray) Q E s:=by
 have go:∀ (ks:List Value),(∀ k∈ks,∃ a b v n,k=.ref a∧s.heap.get? a=some (cV #[.bool b,v] n))→∃ fs:List Value,KatTups s.heap ks fs∧fs.length=ks.length∧∀ v∈fs,∃ b,v=.bool b:=by
  intro ks
  induction ks with
  | nil=>exact fun _=>⟨[],.nil,rfl,fun _ q=>nomatch q⟩
  | cons k ks ih=>
   intro hk
   obtain⟨fs,h1,h2,h3⟩:=ih fun k' q=>hk k' (List.mem_cons_of_mem _ q)
   obtain⟨a,b,v,n,rfl,ho⟩:=hk k List.mem_cons_self
   exact⟨.bool b::fs,.cons ho rfl rfl rfl h1,congrArg Nat.succ h2,fun u q=>(List.mem_cons.mp q).elim (fun e=>⟨_,e⟩) (h3 u)⟩
 obtain⟨fs,h1,h3,h4⟩:=go keys fun k hk=>by
  obtain⟨i,hi,e⟩:=List.getElem_of_mem hk
  have q:=K.at (K.1▸hi)
  rw[List.getD_eq_getElem?_getD,List.getElem?_eq_getElem hi,Option.getD_some,e] at q
  exact q.first
 refine kat_kind (T:=.type "bool") h1 (by rw[h3,K.1];exact Nat.lt_of_lt_of_le Nat.two_pos h2) (fun v hv=>?_) rfl h
 obtain⟨b,rfl⟩:=h4 v hv
 exact .now
end
end Mine
namespace Mine
open PySem PyProof.Rows PySem.SeqAt PySem.W

section
variable {prog:Program} {w:World} {A:Around} {E:Value→Shared→Prop} {s:Shared} {a kS:Addr} {rev:Bool} {vs:List Value} {ds:List D} {keys:List Value} {f:Value} {e e1:Nat} {P:PySem.Fin→Shared→Prop}

theorem ez{n m:Nat}(h:n<64)(hm:n=m):m≤sizeLine:=by rw[← hm,sizeLine_eq];exact Nat.le_trans (Nat.le_of_lt h) (by decide)
noncomputable abbrev Kp2(a b:Addr)(h h':Heap):Prop:=∀ c o,c≠a→c≠b→gat h c=some o→gat h' c=some o
theorem key_tail{st:SortSt}{out:List Value}(hX:(arrOf st).map (·.2)=(katRev rev out).toArray)(hk:s.heap.get? kS=some (seqObj "list" keys.toArray e))(ha:s.heap.get? a=some (seqObj "list" #[] e1))(hka:kS≠a)(hz:keys.length<64)(hz2:out.length=keys.length)(hf:failedOf st=none)
  (h:∀ h' c,Kp2 a kS s.heap h'→h'.get? a=some (seqObj "list" out.toArray c)→P (.done (.ret .none)) { s with heap:=h' }) :
  wpAny (model prog w) A (ksk_tail a rev e1 (.ref kS) st) P E s:=by
 have s1:=Heap.SameBut.update s.heap kS (Obj.mapSeq fun _=>(#[]:Array Value))
 have na1:(s.heap.update kS (Obj.mapSeq fun _=>(#[]:Array Value))).get? a=some (seqObj "list" #[] e1):=(s1.2 a hka.symm).trans ha
 have s2:=Heap.SameBut.update (s.heap.update kS (Obj.mapSeq fun _=>(#[]:Array Value))) a (Obj.mapSeq fun _=>out.toArray)
 have hc2:=get?_update_seq na1 fun _=>out.toArray
 delta ksk_tail
 dsimp only
 rw[hX,kat_outs,show katRev rev (katRev rev out)=out from by cases rev;rfl;exact List.reverse_reverse _,hf]
 refine wpAny_bind (listUpdate_at hk rfl ?_ (ez hz rfl) (Nat.zero_le _))
 refine wpAny_bind (wpAny_letGo ?_)
 refine wpAny_bind (seqEpoch_at na1 rfl ?_)
 refine wpAny_bind (listUpdate_at na1 rfl ?_ (Nat.zero_le _) (Nat.le_succ_of_le (ez hz hz2.symm)))
 rw[bne_self_eq_false,if_neg Bool.false_ne_true]
 exact wpAny_pure (h _ _ (fun b o h1 h2 q=>g1 s2 (bz na1) b h1 (g1 s1 (bz hk) b h2 q)) hc2)

theorem map_getD{α:Type}{z:α}(l:List α):(List.range l.length).map (fun i=>l.getD i z)=l:=by
 apply List.ext_getElem
 ·rw[List.length_map,List.length_range]
 ·intro i h1 h2
  rw[List.getElem_map,List.getElem_range,List.getD_eq_getElem?_getD,List.getElem?_eq_getElem h2];rfl
theorem ky{α:Type}{z:α}{b:Bool}{ks:List D}{l:List α}:(eQ z b ks l).length=ks.length:=by
 unfold eQ;rw[kat_len,List.length_map,(kO _).length_eq,List.length_range,kat_len]
theorem key_end(hk:s.heap.get? kS=some (seqObj "list" keys.toArray e))(ha:s.heap.get? a=some (seqObj "list" #[] e1))(hka:kS≠a)(K:di s.heap keys ds)(hl:vs.length=ds.length)(hz:ds.length<64)
  (h:∀ h' c,Kp2 a kS s.heap h'→h'.get? a=some (seqObj "list" (eQ .none rev ds vs).toArray c)→P (.done (.ret .none)) { s with heap:=h' }) :
  wpAny (model prog w) A (ksk_end a rev vs.toArray e1 (.ref kS) keys.toArray) P E s:=by
 have hkl:keys.length=vs.length:=K.1.trans hl.symm
 have hlr:(katRev rev keys).length=(katRev rev vs).length:=by rw[kat_len,kat_len,hkl]
 have tail:∀ (st:SortSt),failedOf st=none→(arrOf st).map (·.2)=((kix (katRev rev ds)).map fun i=>(katRev rev vs).getD i Value.none).toArray→wpAny (model prog w) A (ksk_tail a rev e1 (.ref kS) st) P E s:=fun st hf hX=>
  key_tail (out:=eQ .none rev ds vs) (by rw[hX];unfold eQ;cases rev;rfl;exact congrArg _ (List.reverse_reverse _).symm) hk ha hka (K.1.symm▸hz) (ky.trans K.1.symm) hf h
 have step:∀ t:Sem PySem.Fin,wpAny (model prog w) A t P E s→wpAny (model prog w) A (if rev=true then (do let _ ← rule "list.sort.reverse";t) else t) P E s:=by
  intro t ht
  split
  ·exact wpAny_bind (wpAny_rule ht)
  ·exact ht
 delta ksk_end
 dsimp only
 refine step _ ?_
 rw[kat_pairs rev hkl]
 by_cases h2:vs.toArray.size<2
 ·rw[if_pos h2,if_pos h2]
  refine wpAny_bind (wpAny_pure ?_)
  rw[StateT.run_pure]
  refine wpAny_bind (wpAny_pure (tail _ rfl ?_))
  unfold kix
  rw[if_pos (by rw[kat_len,← hl];exact h2),kat_len,← hl,← kat_len rev vs,map_getD]
  show Array.map (·.2) ((katRev rev keys).toArray.zip (katRev rev vs).toArray)=_
  apply Array.ext'
  rw[Array.toList_map,ksk_zip]
  exact List.map_snd_zip (Nat.le_of_eq hlr.symm)
 ·rw[if_neg h2,if_neg h2]
  have h2':2≤ds.length:=hl▸Nat.not_lt.mp h2
  refine wpAny_bind (keys_kind K h2' ?_)
  have hn:(katRev rev vs).length=(katRev rev ds).length:=by rw[kat_len,kat_len,hl]
  refine wpAny_bind (wpAny_mono (kat_run (Q:=fun st s'=>s'=s∧failedOf st=none∧(arrOf st).map (·.2)=((kix (katRev rev ds)).map fun i=>(katRev rev vs).getD i Value.none).toArray) (G:=fun p s'=>s'=s∧p.toList=kix (katRev rev ds)) hlr (by rw[hn,kat_len];exact h2') (by rw[hn,kat_len];exact hz)
   (fun p st s' _ h2 h3 h4=>⟨h4.1,h3,(kat_snds hlr h2).trans (h4.2▸rfl)⟩) ?_) (fun r s' q=>?_) fun _ _ x=>x)
  ·refine InT.wp (lt:=fun i j=>pq (mm (katRev rev ds) i) (mm (katRev rev ds) j)) (fun i j C hi hj hC=>?_) (qp (by rw[hn,kat_len];exact Nat.lt_of_lt_of_le Nat.two_pos h2')) ⟨rfl,?_⟩
   ·rw[hn] at hi hj
    exact key_lt ((K.rev rev).at hi) ((K.rev rev).at hj) hC
   ·unfold kix
    rw[if_neg (by rw[kat_len];exact Nat.not_lt.mpr h2'),hn]
  ·obtain⟨⟨⟩,st⟩:=r
   obtain⟨rfl,hf,hX⟩:=q
   exact tail st hf hX

theorem key_rest(hk:s.heap.get? kS=some (seqObj "list" #[] 0))(ha:s.heap.get? a=some (seqObj "list" #[] e1))(hka:kS≠a)(hl:vs.length=ds.length)(hz:ds.length<64)
  (turn:∀ (i:Nat) (v:Value) (d:D),vs[i]?=some v→ds[i]?=some d→∀ h tk dw,Kp2 a kS s.heap h →
   wpAny (model prog w) A (call f [v]) (fun k s'=>bj { s with heap:=h,toks:=tk,drawn:=dw } s'∧dm s'.heap k d) (fun _ _=>False) { s with heap:=h,toks:=tk,drawn:=dw })
  (h:∀ h' tk dw c,Kp2 a kS s.heap h'→h'.get? a=some (seqObj "list" (eQ .none rev ds vs).toArray c)→P (.done (.ret .none)) { s with heap:=h',toks:=tk,drawn:=dw }) :
  wpAny (model prog w) A (ksk_rest a f rev vs.toArray e1 (.ref kS)) P E s:=by
 delta ksk_rest
 refine wpAny_bind (wpAny_rule ?_)
 rw[List.forIn_toArray]
 refine wpAny_bind (ksk_fold (fun i s'=>∃ h' tk dw ks e,s'={ s with heap:=h',toks:=tk,drawn:=dw }∧Kp2 a kS s.heap h'∧h'.get? kS=some (seqObj "list" (List.toArray ks) e)∧h'.get? a=some (seqObj "list" #[] e1)∧di h' ks (ds.take i)) vs 0 s
  ⟨s.heap,s.toks,s.drawn,[],0,rfl,fun _ _ _ _ q=>q,hk,ha,by rw[List.take_zero];exact⟨rfl,fun _ q=>nomatch q⟩⟩ ?step ?done)
 case step=>
  rintro j x s' hx ⟨h',tk,dw,ks,e,rfl,hkp,hk',ha',K⟩
  rw[Nat.zero_add] at K ⊢
  have hj:j<ds.length:=hl▸(List.getElem?_eq_some_iff.mp hx).1
  have hks:ks.length+1<64:=by rw[K.1,List.length_take,Nat.min_eq_left (Nat.le_of_lt hj)];exact Nat.lt_of_le_of_lt hj hz
  refine wpAny_bind (wpAny_attempt (wpAny_mono (turn j x ds[j] hx (List.getElem?_eq_getElem hj) h' tk dw hkp) (fun v s'' q=>?_) fun _ _ hF=>hF.elim))
  obtain⟨⟨g,tk2,dw2,hg⟩,hv⟩:=q
  have hk2:=Heap.of_gt (hg _ _ (Heap.gt_of hk'))
  have s1:=Heap.SameBut.update g kS (Obj.mapSeq (·.push v))
  have hc2:=get?_update_seq hk2 (·.push v)
  refine wpAny_bind (listUpdate_at hk2 rfl ?_ (ez (Nat.lt_of_succ_lt hks) rfl) (Nat.le_succ_of_le (ez hks (Array.size_push v).symm)))
  refine wpAny_pure ⟨rfl,_,tk2,dw2,ks++[v],_,rfl,fun b o h1 h2 q=>g1 s1 (bz hk2) b h2 (hg b o (hkp b o h1 h2 q)),by rw[← List.push_toArray];exact hc2,(s1.2 a hka.symm).trans (Heap.of_gt (hg _ _ (Heap.gt_of ha'))),?_⟩
  rw[List.take_add_one,List.getElem?_eq_getElem hj]
  refine ((K.keeps fun b xs n q=>Heap.of_gt (hg _ _ (Heap.gt_of q))).snoc hv).keeps fun b xs n q=>(s1.2 b fun r=>?_).trans q
  rw[r,hk2] at q
  exact absurd (congrArg Obj.cls (Option.some.inj q)) (show ¬ Value.type "list"=Value.type "tuple" by decide)
 case done=>
  rintro s' ⟨h',tk,dw,ks,e,rfl,hkp,hk',ha',K⟩
  rw[Nat.zero_add,hl,List.take_length] at K
  refine wpAny_bind (listItems_at hk' rfl ?_)
  exact key_end (s:={ s with heap:=h',toks:=tk,drawn:=dw }) hk' ha' hka K hl hz fun h'' c h1 h2=>h h'' tk dw c (fun b o n1 n2 q=>h1 b o n1 n2 (hkp b o n1 n2 q)) h2

theorem key_tree{n:Nat}(ho:s.heap.get? a=some (seqObj "list" vs.toArray n))(hl:vs.length=ds.length)(hz:ds.length<64)
  (turn:∀ (i:Nat) (v:Value) (d:D),vs[i]?=some v→ds[i]?=some d→∀ h tk dw,(∀ b o,b≠a→gat s.heap b=some o→gat h b=some o) →
   wpAny (model prog w) A (call f [v]) (fun k s'=>bj { s with heap:=h,toks:=tk,drawn:=dw } s'∧dm s'.heap k d) (fun _ _=>False) { s with heap:=h,toks:=tk,drawn:=dw })
  (h:∀ h' tk dw c,(∀ b o,b≠a→gat s.heap b=some o→gat h' b=some o)→h'.get? a=some (seqObj "list" (eQ .none rev ds vs).toArray c)→P (.done (.ret .none)) { s with heap:=h',toks:=tk,drawn:=dw }) :
  wpAny (model prog w) A (ksk_tree a f rev) P E s:=by
 have ha:a<s.heap.objs.size:=Heap.lt_size ho
 have s1:=Heap.SameBut.update s.heap a (Obj.mapSeq fun _=>(#[]:Array Value))
 have ho1:=get?_update_seq ho fun _=>(#[]:Array Value)
 have hkS:((s.heap.update a (Obj.mapSeq fun _=>(#[]:Array Value))).push (seqObj "tuple" vs.toArray 0)).objs.size=s.heap.objs.size+1:=by rw[size_push',Heap.size_update]
 have hkp:∀ b o,b≠a→gat s.heap b=some o→(gat (((s.heap.update a (Obj.mapSeq fun _=>(#[]:Array Value))).push (seqObj "tuple" vs.toArray 0)).push (seqObj "list" #[] 0)) b=some o∧b≠s.heap.objs.size+1):=fun b o hb q=>
  ⟨Heap.gt_push_of_some _ (Heap.gt_push_of_some _ (g1 s1 (bz ho) b hb q)),Nat.ne_of_lt (Nat.lt_succ_of_lt (Heap.gt_lt q))⟩
 delta ksk_tree
 refine wpAny_bind (listItems_at ho rfl ?_)
 refine wpAny_bind (listUpdate_at ho rfl ?_ (ez hz hl.symm) (Nat.zero_le _))
 refine wpAny_bind (seqEpoch_at ho1 rfl ?_)
 refine wpAny_bind (wpAny_newTuple ?_ (ez hz hl.symm))
 refine wpAny_bind (wpAny_newList ?_ (Nat.zero_le _))
 refine wpAny_holding ?_
 exact key_rest (s:={ s with heap:=((s.heap.update a (Obj.mapSeq fun _=>(#[]:Array Value))).push (seqObj "tuple" vs.toArray 0)).push (seqObj "list" #[] 0) }) (kS:=((s.heap.update a (Obj.mapSeq fun _=>(#[]:Array Value))).push (seqObj "tuple" vs.toArray 0)).objs.size)
  (Heap.get?_push_size _ rfl) (Heap.get?_push_of_some _ (Heap.get?_push_of_some _ ho1)) (by rw[hkS];exact Nat.ne_of_gt (Nat.lt_succ_of_lt ha)) hl hz
  (fun i v d hv hd h tk dw hk=>turn i v d hv hd h tk dw fun b o hb q=>hk b o hb (by rw[hkS];exact (hkp b o hb q).2) (hkp b o hb q).1)
  fun h' tk dw c hk h2=>h h' tk dw c (fun b o hb q=>hk b o hb (by rw[hkS];exact (hkp b o hb q).2) (hkp b o hb q).1) h2
end
section
variable {prog:Program} {w:World} {A:Around} {E:Value→Shared→Prop} {s:Shared} {l:Addr} {rev:Bool} {vs:List Value} {ds:List D} {f:Value} {Q:Value→Shared→Prop}
theorem sorted_key{kw:List (Str×Value)}(hl:s.heap.IsList l vs.toArray)(hlen:vs.length=ds.length)(hz:ds.length<64)
  (ha1:argsOk "sorted" ⟨[.ref l],kw⟩) (ha2:∀ x,argsOk "list.sort" ⟨[.ref x],kw⟩) (ht:∀ x,Builtin.«list.sort» ⟨[.ref x],kw⟩=ksk_tree x f rev)
  (turn:∀ (i:Nat) (v:Value) (d:D),vs[i]?=some v→ds[i]?=some d→∀ h tk dw,KH s.heap h →
   wpAny (model prog w) A.in1.in1 (call f [v]) (fun k s'=>bj { s with heap:=h,toks:=tk,drawn:=dw } s'∧dm s'.heap k d) (fun _ _=>False) { s with heap:=h,toks:=tk,drawn:=dw })
  (h:∀ h' tk dw S c,KH s.heap h'→gat s.heap S=none→(∀ b o,gat s.heap b=some o→@LT.lt Nat _ b S)→h'.get? S=some (eG (eQ .none rev ds vs).toArray c)→Q (.ref S) { s with heap:=h',toks:=tk,drawn:=dw }) :
  wpAny (model prog w) A (call (.builtin "sorted") [.ref l] kw) Q E s:=by
 refine call_function_entry_kw kind_sorted plain_sorted entry_sorted ha1 ?_
 unfold Builtin.«sorted»
 refine wpAny_bind (m:=checkCount "sorted" 1 1 _) (wpAny_pure ?_)
 refine wpAny_bind (collect_list hl ?_ (ez hz hlen.symm))
 refine wpAny_bind (wpAny_newList ?_ (ez hz hlen.symm))
 have hsz:((s.heap.push (seqObj "list" #[] 0)).update s.heap.objs.size (Obj.mapSeq (·++vs.toArray))).objs.size=s.heap.objs.size+1:=by
  rw[Heap.size_update,size_push']
 have hoL:(((s.heap.push (seqObj "list" #[] 0)).update s.heap.objs.size (Obj.mapSeq (·++vs.toArray))).push (seqObj "list" vs.toArray 0)).get? (s.heap.objs.size+1)=some (seqObj "list" vs.toArray 0):=by
  rw[← hsz];exact Heap.get?_push_size _ rfl
 have keep:∀ b o,gat s.heap b=some o→gat (((s.heap.push (seqObj "list" #[] 0)).update s.heap.objs.size (Obj.mapSeq (·++vs.toArray))).push (seqObj "list" vs.toArray 0)) b=some o∧b<s.heap.objs.size+1:=fun b o q=>
  have hlt:b<s.heap.objs.size:=Heap.gt_lt q
  ⟨Heap.gt_push_of_some _ (g1 (Heap.SameBut.update ..) (bz (Heap.get?_push_size _ rfl)) b (Nat.ne_of_lt hlt) (Heap.gt_push_of_some _ q)),Nat.lt_succ_of_lt hlt⟩
 show wpAny _ _ _ _ _ { s with heap:=((s.heap.push (seqObj "list" #[] 0)).update s.heap.objs.size (Obj.mapSeq (·++vs.toArray))).push (seqObj "list" vs.toArray 0) }
 rw[hsz]
 refine wpAny_bind (wpAny_holding (wpAny_call_entry_kw slot_list_sort ⟨_,hoL,rfl⟩ entry_list_sort ?body (ha2 _)))
 show wpAny (model prog w) A.in1.in1 (Builtin.«list.sort» ⟨[.ref (s.heap.objs.size+1)],kw⟩) _ _ _
 rw[ht (s.heap.objs.size+1)]
 refine key_tree (s:={ s with heap:=((s.heap.push (seqObj "list" #[] 0)).update s.heap.objs.size (Obj.mapSeq (·++vs.toArray))).push (seqObj "list" vs.toArray 0) }) (ds:=ds) hoL hlen hz
  (fun i v d hv hd h tk dw hk=>turn i v d hv hd h tk dw fun b o q=>hk b o (Nat.ne_of_lt (keep b o q).2) (keep b o q).1) fun h' tk dw c hk h2=>⟨_,rfl,?_⟩
 refine wpAny_pure ⟨_,rfl,h h' tk dw _ c (fun b o q=>hk b o (Nat.ne_of_lt (keep b o q).2) (keep b o q).1) ?_ (fun b o q=>(keep b o q).2) h2⟩
 cases q:gat s.heap (s.heap.objs.size+1) with
 | none=>rfl
 | some o=>exact absurd (keep _ o q).2 (Nat.lt_irrefl _)
end
end Mine
namespace Mine
open PySem

theorem lookup_zip_mem{α:Type}{ns:List Str}{vs:List α}(h:ns.length=vs.length){x:Str}(hx:x∈ns):∃ v,(ns.zip vs).lookup x=some v:=by
 induction ns generalizing vs with
 | nil=>nomatch hx
 | cons n ns ih=>cases vs with
  | nil=>cases h
  | cons v vs=>
   rw[List.zip_cons_cons,aM]
   by_cases e:x=n
   ·exact⟨v,if_pos e⟩
   ·rw[if_neg e]
    exact ih (Nat.succ.inj h) ((List.mem_cons.mp hx).resolve_left e)
theorem fm_congr{α β:Type}{f g:α→Option β}{l:List α}(h:∀ x∈l,f x=g x):l.filterMap f=l.filterMap g:=by
 induction l with
 | nil=>rfl
 | cons a l ih=>rw[List.filterMap_cons,List.filterMap_cons,h a (.head _),ih fun x hx=>h x (.tail _ hx)]
theorem filterMap_zip{α:Type}{ns:List Str}{vs:List α}(hn:ns.Nodup)(h:ns.length=vs.length):ns.filterMap (fun n=>((ns.zip vs).lookup n).map (n,·))=ns.zip vs:=by
 induction ns generalizing vs with
 | nil=>rfl
 | cons n ns ih=>cases vs with
  | nil=>cases h
  | cons v vs=>
   have hn:=List.nodup_cons.mp hn
   rw[List.zip_cons_cons,List.filterMap_cons,aM,if_pos rfl]
   refine congrArg ((n,v)::·) ((fm_congr fun x hx=>?_).trans (ih hn.2 (Nat.succ.inj h)))
   rw[aM,if_neg (show ¬ x=n from fun e=>hn.1 (e▸hx))]

theorem gk{fd:FuncData}{vals:List Value}(h1:fd.params.posonlyargs=[])(h2:fd.params.kwonlyargs=[])(h3:fd.params.vararg=none)(h4:fd.params.kwarg=none)(h5:fd.defaults=.none)
  (hnd:(fd.params.args.map (·.arg)).Nodup) (hl:(fd.params.args.map (·.arg)).length=vals.length):bindArgs fd ⟨vals,[]⟩=pure ((fd.params.args.map (·.arg)).zip vals):=by
 obtain⟨nm,qn,⟨po,ar,va,ko,kd,kw,df⟩,bd,sc,gl,cl,dfl,kwd,dc,pm,an,co,ct,bu⟩:=fd
 dsimp only at h1 h2 h3 h4 h5 hnd hl
 subst h1 h2 h3 h4 h5
 have hm:(ar.map (·.arg)).filter (fun n=>(List.lookup n ((ar.map (·.arg)).zip vals)).isNone)=[]:=List.filter_eq_nil_iff.mpr fun x hx e=>
  (lookup_zip_mem hl hx).elim fun v q=>by rw[q] at e;cases e
 refine (if_neg (fun e=>Nat.not_lt_of_le (Nat.le_of_eq hl.symm) (of_decide_eq_true (Bool.and_eq_true_iff.mp e).1))).trans ?_
 have hd:∀ k,List.drop k ((none:Option (Array Value)).getD #[]).toList=[]:=fun k=>List.drop_nil
 refine (if_neg fun e=>?_).trans ?_
 ·rw[hd] at e
  have e':(!(((ar.map (·.arg)).take (ar.map (·.arg)).length).filter (fun n=>(List.lookup n ((ar.map (·.arg)).zip vals)).isNone)).isEmpty)=true:=e
  rw[List.take_length,hm] at e'
  cases e'
 ·rw[hd,List.zip_nil_right]
  exact congrArg (pure (f:=Sem)) ((congrArg (fun l=>l.filterMap fun n=>(((ar.map (·.arg)).zip vals).lookup n).map (n,·)) (List.append_nil (ar.map (·.arg)))).trans (filterMap_zip hnd hl))
end Mine
namespace Mine
open PySem PySem.SeqAt PySem.W PyProof.Rows

section
variable {M:Model} {A:Around} {E:Value→Shared→Prop} {s:Shared}

theorem lam_tail{params:Arguments}{body:Expr}{scope:Scope}{env:Env}{ps:Array Value}{pos:Pos}{firstLine:Nat}{mg:Str→Option Value}{clos:List (Str×Addr)}{name:Str}{Q:Value→Shared→Prop}
  (hcl:closureFor scope env=pure clos) (hne:clos.isEmpty=false) (hge0:env.globals=mainGlobals) (hg:s.heap.Ns mainGlobals mg) (hcode:env.code=.ref oc) (C:CodeHd s.heap oc tb) (hP:s.heap.get? tb=some (tabObj ps)) (ht:fG s.heap ps.toList)
  (hnf:codeAmong pos ps.toList=none) (hb:s.heap.BuiltinsAt mg tb)
  (h:∀ c' ctv h' tk,KH s.heap h'→fb h' c' →
   Q (.ref h'.objs.size) { s with heap:=h'.push (kla_obj name kM params body scope clos ((mg "__name__").getD .none) c' ctv),toks:=tk }) :
  wpAny M A (makeTail name kM params (.expr body) scope env .none .none none pos firstLine) Q E s:=by
 have hgP:mainGlobals≠tb:=fun q=>by
  have e:=d6 hg (tabObj ps) (q▸hP)
  cases e
 refine Classical.byContradiction fun hG=>?_
 obtain⟨bm,ob,hbm,hne0,_,hneP,hbo,hcls,hdict,hdata⟩:=hb
 refine hG ?_
 clear hG
 unfold makeTail
 rw[hcl,hge0]
 refine wpAny_bind (wpAny_pure ?_)
 rw[hne]
 simp only[Bool.false_eq_true,if_false]
 refine wpAny_bind (wpAny_newTextTuple ?_)
 refine wpAny_bind (wpAny_functionCodeX hcode ((C.keeps fun b o e=>Heap.get?_push_of_some _ e).code (Heap.get?_push_of_some _ hP) ht.triples) ((C.keeps fun b o e=>Heap.get?_push_of_some _ e).tab (Heap.get?_push_of_some _ hP)) hnf fun c' h' tk hx hge hlt _ hrec htb hnew=>?_)
 have hg':=(hg.push _).extBut hx hgP
 have hx':Heap.ExtBut tb s.heap h':=fun b o hb' e=>hx b o hb' (Heap.get?_push_of_some _ e)
 have hlam:fb h' c':=by
  obtain⟨_,_,_,⟨o1,v1,r1,r2,r3,_⟩,_⟩:=hnew
  obtain⟨c2,o2,vs,t,e2,hoc,hd,hv⟩:=hrec
  cases e2
  exact⟨o1,vs,t,r1,r2,Option.some.inj (hoc.symm.trans r1)▸hd,hv⟩
 have keep:KH s.heap h':=fun b o e=>(Classical.em (b=tb)).elim (fun q=>by
   subst q
   rw[Heap.gt_good hP ⟨ps,rfl,ht⟩] at e
   cases e
   refine Heap.gt_good htb.2 ⟨_,rfl,?_⟩
   rw[Array.toList_append]
   exact fG.snoc _ _ hlam (ht.mono fun b o e _ hc=>hx' b o (fun q=>by rw[q,hP] at e;cases e;exact hc rfl) e)) fun hb=>by
   rw[Heap.gt_ne hb] at e ⊢
   exact hx' b o hb e
 refine wpAny_bind (wpAny_builtinsFor hg' hbm hne0 (hx' _ _ hneP hbo) hcls hdict hdata ?_)
 refine wpAny_bind (wpAny_nsGet hg' ?_)
 exact wpAny_bind (wpAny_pure (wpAny_newObj_type (h c' _ h' tk keep hlam) (by size_fits)))

theorem lam_make{params:Arguments}{body:Expr}{scope:Scope}{env:Env}{ps:Array Value}{pos:Pos}{firstLine:Nat}{mg:Str→Option Value}{clos:List (Str×Addr)}{name:Str}{Q:Value→Shared→Prop}
  (hcl:closureFor scope env=pure clos) (hne:clos.isEmpty=false) (hge0:env.globals=mainGlobals) (hg:s.heap.Ns mainGlobals mg) (hcode:env.code=.ref oc) (C:CodeHd s.heap oc tb) (hP:s.heap.get? tb=some (tabObj ps)) (ht:fG s.heap ps.toList)
  (hb:s.heap.BuiltinsAt mg tb)
  (h:∀ c' ctv h' tk,KH s.heap h'→fb h' c' →
   Q (.ref h'.objs.size) { s with heap:=h'.push (kla_obj name kM params body scope clos ((mg "__name__").getD .none) c' ctv),toks:=tk }) :
  wpAny M A (makeFunction name kM params (.expr body) scope env [] [] [] pos firstLine) Q E s:=by
 cases hf:codeAmong pos ps.toList with
 | none=>
  rw[makeFunction_eq]
  simp only[List.zip_nil_right,List.filterMap_nil,List.isEmpty_nil,if_true,pure_bind]
  exact lam_tail hcl hne hge0 hg hcode C hP ht hf hb h
 | some cv=>
  obtain⟨c',rfl,hl⟩:=ht.among hf
  exact kla_makeFunctionHit hcl hge0 hg hcode C hP ht.triples hf hb fun ctv h' tk hk _=>h c' ctv h' tk (Heap.gt_up hk) (hl.mono fun b o e _ _=>hk b o e)
end
end Mine
namespace Mine
open PySem PySem.SeqAt PySem.W PyProof.Rows

section
variable {prog:Program} {w:World} {A:Around} {s:Shared}

noncomputable abbrev kN(scope:Scope)(L:Addr)(clos:List (Str×Addr))(f c':Addr):Env:=newEnv scope L mainGlobals clos (kM++".<locals>.") (some f) (.ref c') none builtinsNs

theorem lam_call{f c':Addr}{params:Arguments}{body:Expr}{scope:Scope}{clos:List (Str×Addr)}{pm ctv v:Value}{x name:Str}{Q:Value→Shared→Prop}{E:Value→Shared→Prop}
  (ho:s.heap.get? f=some (kla_obj name kM params body scope clos pm c' ctv)) (hl:fb s.heap c') (hlim:s.heap.NoLimit) (hroom:A.depth<recursionLimit)
  (h1:params.posonlyargs=[]) (h2:params.kwonlyargs=[]) (h3:params.vararg=none) (h4:params.kwarg=none) (h5:params.args.map (·.arg)=[x])
  (hk:scope.kind=.function) (hco:scope.isCoroutine=false) (hgen:scope.isGenerator=false) (hcell:∀ p∈scope.names,p.2≠.cell) (hx:scope.names.lookup x=some .local)
  (h:∀ h₁ tk,h₁.Ns s.heap.objs.size (fun y=>[(x,v)].lookup y)→(KH s.heap h₁) →
   wpAny (model prog w) (A.deeper (kN scope s.heap.objs.size clos f c')) (eval body (kN scope s.heap.objs.size clos f c')) Q (fun _ _=>False) { s with heap:=h₁,toks:=tk }) :
  wpAny (model prog w) A (call (.ref f) [v]) Q E s:=by
 obtain⟨oc',vs,t,e1,e2,e3,e4⟩:=hl
 refine wpAny_call (kla_callFunE hroom ho rfl hco hgen rfl ⟨c',oc',vs,t,rfl,e1,e3,e4⟩ ?_)
 have hbind:bindArgs (kla_fn name kM params body scope clos pm (.ref c') ctv) ⟨[v],[]⟩=pure [(x,v)]:=by
  have q:=gk (fd:=kla_fn name kM params body scope clos pm (.ref c') ctv) (vals:=[v]) h1 h2 h3 h4 rfl (by show (params.args.map (·.arg)).Nodup;rw[h5];exact List.nodup_cons.mpr ⟨nofun,List.nodup_nil⟩) (by show (params.args.map (·.arg)).length=_;rw[h5];rfl)
  have q2:bindArgs (kla_fn name kM params body scope clos pm (.ref c') ctv) ⟨[v],[]⟩=pure ((params.args.map (·.arg)).zip [v]):=q
  rw[h5] at q2;exact q2
 rw[hbind]
 refine wpAny_pure (wpAny_newFunctionEnv hcell (fun y hy=>?_) (fun h₁ hns hsb=>⟨hlim.fresh _ hsb,?_⟩) hk)
 ·simp only[List.mem_cons,List.not_mem_nil,or_false] at hy
  subst hy;exact hx
 ·refine kla_codeExpr (wpAny_mono (h h₁ _ hns fun b o e=>?_) (fun v s' q=>q) fun _ _ q=>q.elim)
  have hat:(s.heap.push { cls:=.type "frame",data:=.dict #[] }).get? s.heap.objs.size=some { cls:=.type "frame",data:=.dict #[] }:=Heap.get?_push_size _ rfl
  exact g1 hsb (bz hat) b (Nat.ne_of_lt (Heap.gt_lt e)) (Heap.gt_push_of_some _ e)

theorem lam_env{h h₁:Heap}{env:Env}{m:Str→Option Value}{scope:Scope}{x:Str}{v:Value}{f c':Addr}(R:a7 h env m)(hns:h₁.Ns h.objs.size (fun y=>[(x,v)].lookup y))(keep:KH h h₁)
  (hk:scope.kind=.function) (hcell:∀ p∈scope.names,p.2≠.cell) (hfree:∀ p∈scope.names,p.2=.free→env.kindOf p.1=some .cell∨env.kindOf p.1=some .free) (hord:jf (fun y=>scope.names.lookup y)=false) :
  a7 h₁ (kN scope h.objs.size (et env.cells scope.names []) f c') (fun y=>if scope.names.lookup y=some .free then m y else [(x,v)].lookup y):=by
 have sound:∀ y c,(et env.cells scope.names []).lookup y=some c→env.cells.lookup y=some c:=en _ _ (fun _ _ e=>by simp at e)
 refine⟨hk,rfl,rfl,⟨_,hns,fun y hy=>?_⟩,fun y hy=>?_,fun y z c e1 e2=>R.inj y z c (sound y c e1) (sound z c e2),fun y c e q=>?_,fun y c e=>?_,fun ho=>?_⟩
 ·have hy:scope.names.lookup y=some .local:=hy
  rw[hy,if_neg (by nofun)]
 ·have hy:scope.names.lookup y=some .cell∨scope.names.lookup y=some .free:=hy
  rcases hy with hy | hy
  ·exact absurd rfl (hcell _ (mem_of_lookup hy))
  ·obtain⟨c,q1,q2⟩:=R.cell y (hfree _ (mem_of_lookup hy) rfl)
   exact⟨c,eV q1 _ _ (.inl (mem_of_lookup hy)),by rw[if_pos hy];exact Cell.keepAt q2 (keep _)⟩
 ·obtain⟨o,ho⟩:=R.ex y c (sound y c e)
  have h1:=Heap.gt_lt ho
  have q:@Eq Nat c h.objs.size:=q
  omega
 ·obtain⟨o,ho⟩:=R.ex y c (sound y c e)
  exact⟨o,keep _ _ ho⟩
 ·have ho:jf (fun y=>scope.names.lookup y)=true:=ho
  rw[hord] at ho;cases ho
end

theorem keysD_inv{g:D→Option D}{d:D}{r ks:List D}{C:Prop}(h:fA g (d::r)=some ks)(k:∀ k c ks',g d=some k→n5 k=some c→fA g r=some ks'→c::ks'=ks→C):C:=
 bi (a:=g d) (f:=fun k=>oE (n5 k) fun c=>(fA g r).map fun l=>c::l) h fun x hx h=>bi h fun c hc h=>bh h fun ks' hk e=>k x c ks' hx hc hk e
theorem keysD_at{g:D→Option D}{ds ks:List D}(h:fA g ds=some ks):ks.length=ds.length∧∀ (i:Nat) c,ks[i]?=some c→∃ d k,ds[i]?=some d∧g d=some k∧n5 k=some c:=by
 induction ds generalizing ks with
 | nil=>cases h;exact⟨rfl,fun i c e=>by rw[List.getElem?_nil] at e;cases e⟩
 | cons d r ih=>exact keysD_inv h fun k c ks' h1 h2 h3 e=>e▸⟨congrArg Nat.succ (ih h3).1,fun i c' e'=>by
   cases i with
   | zero=>exact⟨d,k,rfl,h1,Option.some.inj e'▸h2⟩
   | succ i=>exact (ih h3).2 i c' e'⟩
theorem keyD_inv{k c:D}(h:n5 k=some c):k=.tup [.bool (cI c),c]∧c.isCell=true:=by
 unfold n5 at h
 split at h
 ·exact bQ h fun hc e=>Option.some.inj e▸bN hc fun h1 h2=>⟨by rw[eq_of_beq h2],h1⟩
 ·cases h
theorem aq.rev{P:Params}{h:Heap}{H:Addr→Prop}{vs:List Value}{ds:List D}(r:aq P h H vs ds):aq P h H vs.reverse ds.reverse:=
 List.rec (motive:=fun ds=>∀ l,aq P h H l ds→aq P h H l.reverse ds.reverse) (fun l r=>by rw[show l=[] from r];rfl) (fun _ _ ih _ r=>dg.rec (fun h1 h2=>by rw[List.reverse_cons,List.reverse_cons];exact (ih _ h2).append (.cons h1 .nil)) r) ds vs r
theorem aq.kat{P:Params}{h:Heap}{H:Addr→Prop}{vs:List Value}{ds:List D}(r:aq P h H vs ds)(b:Bool):aq P h H (katRev b vs) (katRev b ds):=by
 cases b with
 | false=>exact r
 | true=>exact r.rev
theorem repAll_of{P:Params}{h:Heap}{H:Addr→Prop}{vs:List Value}{ds:List D}(r:aq P h H vs ds)(L:List Nat)(hL:∀ j∈L,j<ds.length):aq P h H (L.map fun p=>vs.getD p .none) (L.map fun j=>ds.getD j .none):=by
 induction L with
 | nil=>rfl
 | cons j L ih=>
  have hj:=hL j (.head _)
  refine .cons ?_ (ih fun k hk=>hL k (.tail _ hk))
  obtain⟨v',q1,q2⟩:=r.get j (List.getElem?_eq_getElem hj)
  show Rep P h H (vs.getD j .none) (ds.getD j .none)
  rw[List.getD_eq_getElem?_getD,List.getD_eq_getElem?_getD,q1,List.getElem?_eq_getElem hj]
  exact q2
theorem repAll_srt{P:Params}{h:Heap}{H:Addr→Prop}{vs:List Value}{ds ks:List D}(r:aq P h H vs ds)(hl:ks.length=ds.length)(b:Bool):aq P h H (eQ .none b ks vs) (eQ .none b ks ds):=
 (repAll_of (r.kat b) _ fun j hj=>by rw[kat_len,← hl,← kat_len b ks];exact List.mem_range.mp ((kO _).mem_iff.mp hj)).kat b
theorem key_of{h:Heap}{P:Params}{H:Addr→Prop}{k:Value}{c:D}(r:Rep P h H k (.tup [.bool (cI c),c]))(hc:c.isCell=true):dm h k c:=by
 refine r.tupE fun a vs n ho _ _ hr=>?_
 obtain⟨vs⟩:=vs
 cases hr with
 | mk h1 h2=>cases h2 with
  | mk h2 h3=>
   have h3:_=[]:=h3
   subst h3
   have h1:_=Value.bool _:=h1
   subst h1
   cases c with
   | int i=>
    refine sv.casesOn (motive:=fun v _=>h.get? a=some (cV #[.bool false,v] n)→dm h (.ref a) (.int i)) h2 (fun t ho=>.int ho) ho
   | str x=>
    refine su.casesOn (motive:=fun v _=>h.get? a=some (cV #[.bool true,v] n)→dm h (.ref a) (.str x)) h2 (fun t ho=>.str ho) ho
   | _=>cases hc

section
variable {prog:Program} {w:World} {A:Around} {s:Shared} {base:Heap} {mg mb:Str→Option Value} {cf:CF}

theorem mw{h:Heap}{H:Addr→Prop}(G:GOk mg mb base)(hw:HOk base h H):CodeHd h oc tb∧h.BuiltinsAt mg tb∧∃ ps,h.get? tb=some (tabObj ps)∧fG h ps.toList:=by
 obtain⟨c1,c2,bm,ob,b1,b2,b3,b4,b5,b6,b7,b8⟩:=G.lam
 refine⟨?_,⟨bm,ob,b1,b2,b3,b4,Heap.of_gt (hw.keep _ _ (Heap.gt_of b5 (bT (by rw[b8];nofun)))) (bT (by rw[b8];nofun)),b6,b7,b8⟩,?_⟩
 ·obtain⟨o,vs,file,tf,flags,tg,inF,text,tt,e1,e2,r⟩:=CodeHd.of c1 c2
  have hne:oc≠tb:=r.2.2.2.2.2.2.2
  have e1':gat base oc=some o:=by rw[Heap.gt_ne hne];exact e1
  have e3:=hw.keep _ _ e1'
  rw[Heap.gt_ne hne] at e3
  exact⟨o,vs,file,tf,flags,tg,inF,text,tt,e3,e2,r⟩
 ·obtain⟨o',e',⟨_,q⟩ | ⟨_,_,xs,q,q2⟩⟩:=Heap.gt_some (hw.keep _ _ (Heap.gt_good c2.2 fD.empty))
  ·cases q rfl
  ·subst q;exact⟨xs,e',q2⟩

theorem lamVar{k k':KD}{b:Expr}{f x p:String}(h:aH k' b (.call f [.sub (.var x) (.var p)])=true)(hp:k (Str.ofString p)=some .cell∨k (Str.ofString p)=some .free):eA k (Str.ofString p)=true:=
 mG.rec (motive:=fun _ _=>eA k (Str.ofString p)=true) (fun {gp as pos} _ h=>by
  cases as with
  | nil=>cases h
  | cons e es=>exact bN h fun h _=>ISub.rec (motive:=fun _ _=>eA k (Str.ofString p)=true) (fun _ _ h=>oU.rec (motive:=fun _ _=>eA k (Str.ofString p)=true) (fun hv=>nl hv fun _ r1 r2 r3=>Bool.and_eq_true_iff.mpr ⟨Bool.and_eq_true_iff.mpr ⟨Bool.and_eq_true_iff.mpr ⟨hp.elim (fun e=>by rw[e];rfl) fun e=>by rw[e];rfl,r1⟩,r2⟩,r3⟩) (fi h)) (j7 h)) (iL h)
theorem lamAt_keepG{h h':Heap}{c:Addr}(x:fb h c)(hne:c≠tb)(hk:KH h h'):fb h' c:=
 x.elim fun o x=>x.elim fun vs x=>x.elim fun t x=>⟨o,vs,t,(Heap.gt_ne hne).symm.trans (hk _ _ ((Heap.gt_ne hne).trans x.1)),x.2⟩
structure KwOk(fa:Addr)(rev:Bool)(kw:List (Str×Value)):Prop where
 a1:∀ la,argsOk "sorted" ⟨[.ref la],kw⟩
 a2:∀ x,argsOk "list.sort" ⟨[.ref x],kw⟩
 t:∀ x,Builtin.«list.sort» ⟨[.ref x],kw⟩=ksk_tree x (.ref fa) rev
inductive mE(mg:Str→Option Value)(ps:Arguments)(b:Expr)(sc:Scope)(env:Env)(fa:Addr)(h:Heap):Prop
 | mk {c' ctv} (ho:h.get? fa=some (kla_obj "<lambda>" kM ps b sc (et env.cells sc.names []) ((mg "__name__").getD .none) c' ctv)) (hl:fb h c'):mE mg ps b sc env fa h
structure oS(k:KD)(ps:Arguments)(sc:Scope)(x p:Str):Prop where
 o1:ps.posonlyargs=[]
 o2:ps.kwonlyargs=[]
 o3:ps.vararg=none
 o4:ps.kwarg=none
 o5:ps.defaults=[]
 o6:ps.kw_defaults=[]
 o7:ps.args.map (·.arg)=[x]
 o8:sc.kind=.function
 o9:sc.isCoroutine=false
 o10:sc.isGenerator=false
 o12:sc.names.lookup x=some .local
 cell:∀ p∈sc.names,p.2≠.cell
 free:∀ p∈sc.names,p.2=.free→k p.1=some .cell∨k p.1=some .free
 o14:jf k=true
 o15:jf (fun y=>sc.names.lookup y)=false
 o16:sc.names.lookup p=some .free
theorem notB{b:Bool}(h:(!b)=true):b=false:=by
 cases b with
 | false=>rfl
 | true=>cases h
theorem n4{k:KD}{ps:Arguments}{sc:Scope}{x p:Str}(h:nT k ps sc x p=true):oS k ps sc x p:=
 fF h fun h1 h2 h3=>and6 h1 fun a1 a2 a3 a4 a5 a6=>lP h2 fun b1 b2 b3 b4 b5=>nl h3 fun c1 c2 c3 c4=>
  have c1':∀ p∈sc.names,p.2≠.cell∧(p.2=.free→k p.1=some .cell∨k p.1=some .free):=fun p hp=>bN (List.all_eq_true.mp c1 p hp) fun d1 d2=>⟨bne_iff_ne.mp d1,fun e=>(Bool.or_eq_true_iff.mp d2).elim (fun d2=>(Bool.or_eq_true_iff.mp d2).elim (fun q=>absurd e (bne_iff_ne.mp q)) fun q=>.inl (eq_of_beq q)) fun q=>.inr (eq_of_beq q)⟩
  ⟨List.isEmpty_iff.mp a1,List.isEmpty_iff.mp a2,Option.isNone_iff_eq_none.mp a3,Option.isNone_iff_eq_none.mp a4,List.isEmpty_iff.mp a5,List.isEmpty_iff.mp a6,eq_of_beq b1,eq_of_beq b2,notB b3,notB b4,eq_of_beq b5,fun p hp=>(c1' p hp).1,fun p hp=>(c1' p hp).2,c2,notB c3,eq_of_beq c4⟩
section
variable {env:Env} {m:Str→Option Value} {H:Addr→Prop} {ρ:List (String×D)} {ns:List String} {E:Value→Shared→Prop} {ps:Arguments} {b:Expr} {sc:Scope} {x p f:String} {lp:Pos}
theorem lam_eval(G:GOk mg mb base){Q:Value→Shared→Prop}(O:oS env.kindOf ps sc (Str.ofString x) (Str.ofString p))(c:Cc w base s env H ρ m ns)(k:∀ s₂ fa,bj s s₂→mE mg ps b sc env fa s₂.heap→Q (.ref fa) s₂):wpAny (model prog w) A (eval (.Lambda ps b sc lp) env) Q E s:=by
 obtain⟨hc1,hb1,tp,ht1,ht2⟩:=mw G c.hw
 obtain⟨hcode,hqual⟩:=c.R.lam O.o14
 have hdef:defaultsOf ps env=([],[]):=by
  obtain⟨q1,q2,q3,q4,q5,q6,q7⟩:=ps
  have o5:q7=[]:=O.o5
  have o6:q5=[]:=O.o6
  rw[o5,o6];rfl
 refine kla_eval hdef ?_
 rw[hqual]
 refine lam_make (name:="<lambda>") (gT fun q hq e=>(c.R.cell q.1 (O.free q hq e)).elim fun a r=>⟨a,r.1⟩) ?_ c.R.glob (Ns.keepAt G.g (c.hw.keep _)) hcode hc1 ht1 ht2 hb1 fun c' ctv h' tk hk' hl=>k _ _ (.mk _ _ s.drawn fun b o e=>Heap.gt_push_of_some _ (hk' b o e)) ⟨Heap.get?_push_size _ rfl,hl.mono fun b o e _ _=>Heap.get?_push_of_some _ e⟩
 obtain⟨a,q,_⟩:=c.R.cell (Str.ofString p) (O.free _ (mem_of_lookup O.o16) rfl)
 have q2:=eV q sc.names [] (.inl (mem_of_lookup O.o16))
 cases q3:et env.cells sc.names [] with
 | nil=>rw[q3] at q2;cases q2
 | cons _ _=>rfl
theorem lam_key(G:GOk mg mb base)(C:dn prog w base mg cf A)(hu:np A)(O:oS env.kindOf ps sc (Str.ofString x) (Str.ofString p))(hb:aH (fun y=>sc.names.lookup y) b (.call f [.sub (.var x) (.var p)])=true){i cd c d:D}{v vp:Value}{fa:Addr}(hcd:aT d i=some cd){fr:Bool}(hcl:cf.call f [cd]=some (.tup [.bool (cI c),c],fr))(hcc:c.isCell=true)
  (R:a7 s.heap env m) (hw:HOk base s.heap H) (hmp:m (Str.ofString p)=some vp) (rp:Rep w.params s.heap H vp i) (rv:Rep w.params s.heap H v d) (L:mE mg ps b sc env fa s.heap) :
  wpAny (model prog w) A.in1.in1 (call (.ref fa) [v]) (fun k s'=>bj s s'∧dm s'.heap k c) (fun _ _=>False) s:=L.rec fun {c' ctv} ho hl=>by
 refine lam_call ho hl (NoLimit.keepG G.lim hw.keep) (Nat.lt_of_le_of_lt (Nat.le_add_right _ _) hu.depth) O.o1 O.o2 O.o3 O.o4 O.o7 O.o8 O.o9 O.o10 O.cell O.o12 fun h₁ tk₁ hns keep=>?_
 have R₁:=lam_env (f:=fa) (c':=c') R hns keep O.o8 O.cell O.free O.o15
 have hN:oR A (A.in1.in1.deeper (kN sc s.heap.objs.size (et env.cells sc.names []) fa c')):=⟨rfl,Nat.le_refl _,Nat.add_le_add_left (by decide:5≤10) A.units⟩
 have hu':(A.in1.in1.deeper (kN sc s.heap.objs.size (et env.cells sc.names []) fa c')).units+1<cLine:=Nat.lt_of_le_of_lt (Nat.add_le_add_left (by decide:6≤20) A.units) hu.units
 have hxp:(p == x)=false:=beq_false_of_ne fun q=>nomatch (q▸O.o12).symm.trans O.o16
 have l1:[(x,d),(p,i)].lookup x=some d:=by rw[List.lookup_cons,beq_self_eq_true]
 have l2:[(x,d),(p,i)].lookup p=some i:=by rw[List.lookup_cons,hxp,List.lookup_cons,beq_self_eq_true]
 have hev:evF cf [(x,d),(p,i)] (.call f [.sub (.var x) (.var p)])=some (.tup [.bool (cI c),c],fr):=by
  rw[iQ,ld,sd,eJ,eJ,l1,l2]
  dsimp only
  rw[hcd];exact hcl
 refine be (pH G (C.at hN) (nM (rB hu' (pc x) (pc p)) pI) { s with heap:=h₁,toks:=tk₁ } _ b H [(x,d),(p,i)] _ _ fr (fun _ _=>False) hb ⟨R₁,hw.keeps keep,fun z hz hvz dz hdz=>?_⟩ hev) fun kv s' q=>⟨Kp.trans (.mk h₁ tk₁ _ keep) q.post.k,key_of q.post.r hcc⟩
 refine d4 (show z∈[x,p] from hz) (fun e=>?_) fun e=>?_
 ·subst e
  rw[l1] at hdz
  exact⟨v,(if_neg (by rw[O.o12];nofun)).trans (by rw[List.lookup_cons,beq_self_eq_true]),Option.some.inj hdz▸rv.keeps keep⟩
 ·subst e
  rw[l2] at hdz
  exact⟨vp,(if_pos O.o16).trans hmp,Option.some.inj hdz▸rp.keeps keep⟩
theorem rowKey_inv{i d k:D}{C:Prop}(h:eE cf f i d=some k)(K:∀ c fr,aT d i=some c→cf.call f [c]=some (k,fr)→C):C:=
 bi (a:=aT d i) (f:=fun c=>(cf.call f [c]).map fun (r:D×Bool)=>r.1) h fun c hc h=>bh h fun r hr e=>K c r.2 hc (hr.trans (congrArg some (Prod.ext e rfl)))
theorem lam_ct{fa:Addr}{h h':Heap}{base:Heap}{mg mb:Str→Option Value}(G:GOk mg mb base)(hw:HOk base h H)(L:mE mg ps b sc env fa h)(hk:KH h h'):mE mg ps b sc env fa h':=L.rec fun {c' ctv} ho hl=>
 ⟨Heap.of_gt (hk _ _ (Heap.gt_of ho (bT nofun))) (bT nofun),lamAt_keepG hl (fun q=>by
  obtain⟨_,_,ps',e,_⟩:=mw G hw
  obtain⟨_,_,_,e2,e3,_⟩:=hl
  rw[q,e] at e2;cases e2;cases e3) hk⟩
theorem srt_call(G:GOk mg mb base)(C:dn prog w base mg cf A)(hu:np A)(O:oS env.kindOf ps sc (Str.ofString x) (Str.ofString p))(hb:aH (fun y=>sc.names.lookup y) b (.call f [.sub (.var x) (.var p)])=true){i:D}{vp v:Value}{fa:Addr}{rev:Bool}{kw:List (Str×Value)}{ds:List D}(hz:ds.length<64){kds:List D}(hkeys:fA (eE cf f i) ds=some kds)
  (R:a7 s.heap env m) (hw:HOk base s.heap H) (hmp:m (Str.ofString p)=some vp) (rp:Rep w.params s.heap H vp i) (r:Rep w.params s.heap H v (.list ds)) (L:mE mg ps b sc env fa s.heap) (K:KwOk fa rev kw) :
  wpAny (model prog w) A (call (.builtin "sorted") [v] kw) (bI w s H (.list (eQ .none rev kds ds)) true) E s:=r.listE fun la vs n hla hn hl hvs=>by
 have hkl:=keysD_at hkeys
 refine sorted_key (vs:=vs.toList) (ds:=kds) (f:=.ref fa) (rev:=rev) (aR hla) (hvs.length.trans hkl.1.symm) (hkl.1.symm▸hz) (K.a1 la) K.a2 K.t (fun j v c hv hc h tk dw hk'=>?_) fun h' tk dw S cc hk' hnone hlt hS=>?_
 ·obtain⟨dj,k,hd,hg,hkd⟩:=hkl.2 j c hc
  have e:=keyD_inv hkd
  rw[e.1] at hg
  obtain⟨v',q1,q2⟩:=hvs.get j hd
  refine rowKey_inv hg fun cd fr h1 h2=>lam_key (s:={ s with heap:=h,toks:=tk,drawn:=dw }) G C hu O hb h1 h2 e.2 (R.keeps hk') (hw.keeps hk') hmp (rp.keeps hk') (Option.some.inj (q1.symm.trans hv)▸q2.keeps hk') (lam_ct G hw L hk')
 ·have hS':∀ q:H S,False:=fun q=>(hw.ex S q).elim fun b z=>z.elim fun o z=>Nat.lt_irrefl _ (Nat.lt_of_le_of_lt z.1 (hlt b o z.2))
  have own:fq w.params h' H S (eQ .none rev kds ds):=⟨hS,by rw[ky,hkl.1];exact hl,(repAll_srt hvs hkl.1 rev).mono (fun a o _ e=>hk' a o e) fun b o e q=>q.elim id fun q=>bD e (q▸hnone)⟩
  exact⟨.mk h' tk dw hk',own.rep hS',fun _=>⟨hnone,own⟩⟩
theorem evi_srt{a:ME}{rev:Bool}{d:D}{C:Prop}(h:evE cf ρ (.srt a f x p rev)=some d)(k:∀ ds i kds,evE cf ρ a=some (.list ds)→ρ.lookup p=some i→ds.length<64→fA (eE cf f i) ds=some kds→.list (eQ .none rev kds ds)=d→C):C:=
 bi (a:=evE cf ρ a) (f:=fun x=>oE (ρ.lookup p) fun i=>srtD (eE cf f i) rev x) h fun xd hx h=>bi h fun i hi h=>by
  cases xd with
  | list ds=>exact bQ h fun hz h=>bh h fun kds hk e=>k ds i kds hx hi hz hk e
  | _=>exact ak h
theorem kw_inv{ks:List Keyword}{rev:Bool}{C:Prop}(h:IKw env.kindOf f x p rev ks)(k:∀ ps b sc lp,oS env.kindOf ps sc (Str.ofString x) (Str.ofString p)→aH (fun y=>sc.names.lookup y) b (.call f [.sub (.var x) (.var p)])=true →
  (∀ (pos:Pos) (M:Model) (A:Around) (s:Shared) (E:Value→Shared→Prop) (Q:List Value→Shared→Prop),wpAny M A (eval (.Lambda ps b sc lp) env) (fun v s'=>∃ fa,v=.ref fa∧∀ kvs,KwOk fa rev (((backToKw pos (keywordEach ks env)).filterMap (·.1)).zip kvs)→Q kvs s') E s→wpAny M A (evalAll ((backToKw pos (keywordEach ks env)).map (·.2))) Q E s) →
  (∀ pos,(backToKw pos (keywordEach ks env)).all (·.1.isSome)=true∧(backToKw pos (keywordEach ks env)).any (·.1.isNone)=false)→C):C:=by
 cases h with
 | up h1 h2=>exact k _ _ _ _ (n4 h1) (oH h2) (fun pos M A s E Q h=>kws_cons (be h fun v s' q=>q.elim fun fa q=>kws_nil (q.1▸q.2 _ ⟨fun _=>ksk_s1 _ _,fun _=>ksk_l1 _ _,fun _=>ksk_t1 _ _⟩))) fun pos=>⟨rfl,rfl⟩
 | down h1 h2=>exact k _ _ _ _ (n4 h1) (oH h2) (fun pos M A s E Q h=>kws_cons (be h fun v s' q=>q.elim fun fa q=>kws_cons (Constant_bool (kws_nil (q.1▸q.2 _ ⟨fun _=>ksk_s2 _ _ _,fun _=>ksk_l2 _ _ _,fun _=>ksk_t2 _ _ _⟩))))) fun pos=>⟨rfl,rfl⟩
end
theorem sf_srt(G:GOk mg mb base)(C:dn prog w base mg cf A)(hu:np A){a:ME}{f x p:String}{rev:Bool}(ha:SE prog w A base cf a):SF prog w A base cf (.srt a f x p rev):=fun s env e H ρ m d fr E hc c he=>
 d5 he rfl fun he hf=>evi_srt he fun ds i kds hx hi hz hkeys hd=>ISrt.rec (motive:=fun e _=>wpAny (model prog w) A (eval e env) (bI w s H d fr) E s) (fun {gp y ks pos} hg hy hk=>kw_inv hk fun ps b sc lp O hb kw hall=>by
  have hst:backTo pos (starEach [y] env)=[(false,eval y env)]:=by rw[ec (qY hy),e5];rfl
  obtain⟨vp,hmp,rp⟩:=c.hn p (by rw[rN];exact List.mem_append_right _ (.head _)) (lamVar hb (O.free _ (mem_of_lookup O.o16) rfl)) i hi
  refine wpAny_bind (m:=eval (.Name (Str.ofString "sorted") gp) env) (dO G (f:="sorted") (by decide) c.R c.hw hg ?_)
  refine callWith_kw (id:="sorted") ?_ (he:=by rw[hst];rfl) (hplain:=by rw[hst];rfl) (hall:=(hall pos).1) (hkw:=(hall pos).2)
  rw[hst]
  refine Calls.spliced_cons (ha.go hy (c.sub fun _ hz=>by rw[rN];exact List.mem_append_left _ hz) hx fun l s₁ q₁=>Calls.spliced_nil (kw pos _ _ _ _ _ (lam_eval G O (c.k q₁.k) fun s₂ fa k2 L=>⟨fa,rfl,fun kvs K=>?_⟩)))
  have c2:=(c.k q₁.k).k k2
  exact be (srt_call G C hu O hb hz hkeys c2.R c2.hw hmp ((rp.keeps (Kp.heap q₁.k)).keeps (Kp.heap k2)) (q₁.r.keeps (Kp.heap k2)) L K) fun v s₃ q₃=>hd▸hf▸q₃.tr (Kp.trans q₁.k k2)) (qc hc)
end
end Mine
namespace Mine
open PySem PySem.SeqAt

section
variable {prog:Program} {w:World} {A:Around} {s:Shared} {base:Heap} {mg mb:Str→Option Value} {cf:CF}

theorem nG{me:ME}(h:SE prog w A base cf me)(hp:∀ e k env whole,aH k e me=true→isTrue e env whole=(do let v ← whole;standAt e.pos;holding [v] (truthy v))):ST prog w A base cf me:=fun s env e H ρ m d t E hc c he ht=>
 PyProof.Rows.isTrue_plain (h.go hc c he fun v s₁ q₁=>be (eP q₁.r ht) fun b s₂ q₂=>q₂.tr q₁.k) (hp e _ env _ hc)
theorem sb_nil:SB prog w A base cf []:=fun s env es op pos H ρ m d E hc c he=>ak he
theorem sb_one{a:ME}(ha:SE prog w A base cf a)(ta:ST prog w A base cf a):SB prog w A base cf [a]:=fun s env es op pos H ρ m d E hc c he=>
 eW (C:=fun es=>wpAny (model prog w) A (eval (.BoolOp op es pos) env) (aZ w s H d) E s∧∀ t whole,br d=some t→wpAny (model prog w) A (isTrue (.BoolOp op es pos) env whole) (dh s t) E s) hc fun e es h1 h2=>by
  have hz:es=[]:=List.isEmpty_iff.mp h2
  subst hz
  refine⟨PyProof.Rows.BoolOp_one (ha s env e H ρ m d E h1 c.l he),fun t whole ht=>?_⟩
  cases op with
  | And=>exact PyProof.Rows.isTrue_and (be (ta s env e H ρ m d t E h1 c.l he ht) fun b s₁ q₁=>by
    cases b with
    | true=>exact PyProof.Rows.isTrue_and_nil q₁
    | false=>exact q₁)
  | Or=>exact PyProof.Rows.isTrue_or (be (ta s env e H ρ m d t E h1 c.l he ht) fun b s₁ q₁=>by
    cases b with
    | true=>exact q₁
    | false=>exact PyProof.Rows.isTrue_or_nil q₁)
theorem sb_cons{a b:ME}{r:List ME}(ha:SE prog w A base cf a)(ta:ST prog w A base cf a)(hr:SB prog w A base cf (b::r)):SB prog w A base cf (a::b::r):=fun s env es op pos H ρ m d E hc c he=>
 evi_bop he fun x t1 hx ht1 hd=>eW (C:=fun es=>wpAny (model prog w) A (eval (.BoolOp op es pos) env) (aZ w s H d) E s∧∀ t whole,br d=some t→wpAny (model prog w) A (isTrue (.BoolOp op es pos) env whole) (dh s t) E s) hc fun e es h1 h2=>by
  have rest:∀ s₁,bj s s₁→eC cf ρ op (b::r)=some d→_:=fun s₁ (k:bj s s₁) (h:eC cf ρ op (b::r)=some d)=>hr s₁ env es op pos H ρ m d E h2 (c.r.k k) h
  have hne:∃ e2 es',es=e2::es':=eW (C:=fun es=>∃ e2 es',es=e2::es') h2 fun e2 es' _ _=>⟨e2,es',rfl⟩
  obtain⟨e2,es',rfl⟩:=hne
  have go:∀ {v:Value} {s₁ s₂:Shared} {c:Bool},aZ w s H x v s₁→dh s₁ t1 c s₂→c=nC op→aZ w s H d v s₂:=fun q₁ q₂ e=>⟨Kp.trans q₁.k q₂.k,(Option.some.inj ((if_pos (q₂.e.symm.trans e)).symm.trans hd))▸q₁.r.keeps (Kp.heap q₂.k)⟩
  have stay:∀ {c:Bool},c=t1→c≠nC op→eC cf ρ op (b::r)=some d:=fun e n=>(if_neg (e▸n)).symm.trans hd
  have stop:∀ {c t:Bool},c=t1→c=nC op→br d=some t→c=t:=fun e n ht=>e.trans (Option.some.inj (ht1.symm.trans ((congrArg br (Option.some.inj ((if_pos (e.symm.trans n)).symm.trans hd))).trans ht)))
  refine⟨?_,fun t whole ht=>?_⟩
  ·cases op with
   | And=>exact PyProof.Rows.BoolOp_and (ha.go h1 c.l hx fun v s₁ q₁=>be (eP q₁.r ht1) fun c s₂ q₂=>by
     cases c with
     | true=>exact be (rest s₂ (Kp.trans q₁.k q₂.k) (stay q₂.e nofun)).1 fun _ _ q=>q.tr (Kp.trans q₁.k q₂.k)
     | false=>exact go q₁ q₂ rfl)
   | Or=>exact PyProof.Rows.BoolOp_or (ha.go h1 c.l hx fun v s₁ q₁=>be (eP q₁.r ht1) fun c s₂ q₂=>by
     cases c with
     | false=>exact be (rest s₂ (Kp.trans q₁.k q₂.k) (stay q₂.e nofun)).1 fun _ _ q=>q.tr (Kp.trans q₁.k q₂.k)
     | true=>exact go q₁ q₂ rfl)
  ·cases op with
   | And=>exact PyProof.Rows.isTrue_and (be (ta s env e H ρ m x t1 E h1 c.l hx ht1) fun c s₁ q₁=>by
     cases c with
     | true=>exact be ((rest s₁ q₁.k (stay q₁.e nofun)).2 t whole ht) fun _ _ q=>q.tr q₁.k
     | false=>exact⟨q₁.k,stop q₁.e rfl ht⟩)
   | Or=>exact PyProof.Rows.isTrue_or (be (ta s env e H ρ m x t1 E h1 c.l hx ht1) fun c s₁ q₁=>by
     cases c with
     | false=>exact be ((rest s₁ q₁.k (stay q₁.e nofun)).2 t whole ht) fun _ _ q=>q.tr q₁.k
     | true=>exact⟨q₁.k,stop q₁.e rfl ht⟩)
theorem rE{op:BoolOp}{ms:List ME}(h:SB prog w A base cf ms):SE prog w A base cf (.bop op ms):=fun s env e H ρ m d E hc c he=>
 IBop.rec (motive:=fun e _=>wpAny (model prog w) A (eval e env) (aZ w s H d) E s) (fun hc=>(h s env _ op _ H ρ m d E hc c he).1) (mZ hc)
theorem st_bop{op:BoolOp}{ms:List ME}(h:SB prog w A base cf ms):ST prog w A base cf (.bop op ms):=fun s env e H ρ m d t E hc c he ht=>
 IBop.rec (motive:=fun e _=>wpAny (model prog w) A (isTrue e env (eval e env)) (dh s t) E s) (fun hc=>(h s env _ op _ H ρ m d E hc c he).2 t _ ht) (mZ hc)

theorem forIn_false{env:Env}{E:Value→Shared→Prop}{Q:Bool→Shared→Prop}(es:List Expr)(h:Q false s) :
  wpAny (model prog w) A (forIn es false fun c r=>if r=true then do let ok ← isTrue c env (eval c env);pure (ForInStep.yield ok) else pure (ForInStep.yield r)) Q E s:=by
 induction es with
 | nil=>rw[List.forIn_nil];exact wpAny_pure h
 | cons c es ih=>
  rw[List.forIn_cons]
  simp only[Bool.false_eq_true,if_false,pure_bind]
  exact ih
theorem rF:SC prog w A base cf []:=fun s env es H ρ m t E hc c he=>
 lv (C:=fun es=>wpAny (model prog w) A (forIn es true _) (dh s t) E s) hc (by rw[List.forIn_nil];exact wpAny_pure ⟨Kp.refl _,Option.some.inj he⟩)
theorem pJ{a:ME}{r:List ME}(ta:ST prog w A base cf a)(hr:SC prog w A base cf r):SC prog w A base cf (a::r):=fun s env es H ρ m t E hc c he=>
 evi_cs he fun x u hx hu hd=>eW (C:=fun es=>wpAny (model prog w) A (forIn es true _) (dh s t) E s) hc fun e es h1 h2=>by
  rw[List.forIn_cons]
  simp only[if_true,bind_assoc,pure_bind]
  refine wpAny_bind (be (ta s env e H ρ m x u E h1 c.l hx hu) fun b s₁ q₁=>?_)
  have e1:=q₁.e
  subst e1
  cases b with
  | true=>exact be (hr s₁ env es H ρ m t E h2 (c.r.k q₁.k) hd) fun _ _ q=>q.tr q₁.k
  | false=>exact forIn_false es ⟨q₁.k,Option.some.inj hd⟩

theorem comp_inner{env cenv:Env}{m mC:Str→Option Value}{scope:Scope}{x:String}{ns:List String}{ρ:List (String×D)}{s₂:Shared}{H H₂:Addr→Prop}{v:Value}{dv:D}(hok:fe env.kindOf scope (Str.ofString x)=true)
  (hk:cenv.kindOf=cY env.kindOf scope) (hv:mC (Str.ofString x)=some v) (rv:Rep w.params s₂.heap H₂ v dv) (hfv:∀ z,scope.names.lookup z=some .free→mC z=m z) (kp:bj s s₂) (hsub:nq s.heap H H₂) (RC:a7 s₂.heap cenv mC) (hx:Ex s₂.heap H₂)
  (c:Cc w base s env H ρ m (ns.filter (· != x))):Cc w base s₂ cenv H₂ ((x,dv)::ρ) mC ns:=by
 refine⟨RC,⟨fun b o e=>Kp.heap kp b o (c.hw.keep b o e),hx,fun b o e q=>c.hw.off b o e (hsub b o (c.hw.keep b o e) q)⟩,fun z hz hvar d hd=>?_⟩
 rw[List.lookup_cons] at hd
 by_cases hzx:z=x
 ·subst hzx
  rw[beq_self_eq_true] at hd
  exact⟨v,hv,Option.some.inj hd▸rv⟩
 ·rw[show (z == x)=false from beq_eq_false_iff_ne.mpr hzx] at hd
  refine fL hok fun _ hnodup _ hfree hall _=>nl hvar fun h1 h2 h3 h4=>?_
  have hfr:scope.names.lookup (Str.ofString z)=some .free:=by
   rw[hk,iJ] at h1
   cases hq:scope.names.lookup (Str.ofString z) with
   | none=>rw[hq] at h1;cases h1
   | some k=>exact (hall _ (mem_of_lookup hq)).elim (fun q=>q.elim (fun q=>q.elim (congrArg some) fun e=>by rw[hq,show k=.globalImplicit from e] at h1;cases h1) fun e=>absurd (cE e) hzx) fun e=>by rw[show Str.ofString z=_ from e] at h4;cases h4
  exact (c.hn z (List.mem_filter.mpr ⟨hz,bne_iff_ne.mpr hzx⟩) (by
   unfold eA
   rw[h2,h3,h4]
   rcases hfree _ (mem_of_lookup hfr) rfl with e | e <;> rw[e] <;> rfl) d hd).elim fun v' q=>⟨v',(hfv _ hfr).trans q.1,q.2.mono (fun a o _ e=>Kp.heap kp a o e) hsub⟩
noncomputable def compG(cf:CF)(ρ:List (String×D))(elt:ME)(x:String)(cs:List ME)(it:D):Option (Option D):=oT (jQ cf ((x,it)::ρ) cs) fun t=>if t=true then oE (evE cf ((x,it)::ρ) elt) fun y=>some (some y) else some Option.none
theorem compM_congr{f g:D→Option (Option D)}(h:∀ d,f d=g d)(l:List D):bk f l=bk g l:=congrArg (fun f=>bk f l) (funext h)
theorem evi_comp{ρ:List (String×D)}{elt src:ME}{x:String}{cs:List ME}{d:D}{C:Prop}(h:evE cf ρ (.comp elt x src cs)=some d)(k:∀ y its out,evE cf ρ src=some y→y.items=some its→its.length≤big→bk (compG cf ρ elt x cs) its=some out→.list out=d→C):C:=by
 rw[ev_comp] at h
 refine bi (a:=evE cf ρ src) h fun y hy h=>dJ (a:=y.items) h fun its hi h=>bQ h fun hl h=>bh h fun out ho e=>k y its out hy hi hl ((compM_congr (fun it=>?_) its).trans ho) e
 unfold compG
 cases jQ cf ((x,it)::ρ) cs with
 | none=>rfl
 | some t=>cases t <;> rfl
theorem oD{elt src:ME}{x:String}{cs:List ME}(hh:A.handled=none)(he:SE prog w A base cf elt)(hs:SE prog w A base cf src)(hcs:SC prog w A base cf cs)
  {s:Shared} {env:Env} {H:Addr→Prop} {ρ:List (String×D)} {m:Str→Option Value} {d:D} {E:Value→Shared→Prop} {t it:Expr} {py pos ppos:Pos} {ifs:List Expr} {scope:Scope} {use:Option (Value→Sem Unit)} {Q:Value→Shared→Prop}
  (hset:dC it=true) (hok:fe env.kindOf scope (Str.ofString x)=true) (hcsrc:aH env.kindOf it src=true) (hcelt:aH (cY env.kindOf scope) t elt=true) (hcifs:bH (cY env.kindOf scope) ifs cs=true) (c:Cc w base s env H ρ m (ME.comp elt x src cs).names)
  (hev:evE cf ρ (.comp elt x src cs)=some d)
  (hQ:∀ L C h' tk dw m' out,d=.list out→(∀ b o,gat s.heap b=some o→@LT.lt Nat _ b L)→gat s.heap C=none→L≠C→h'.Ns C m'→fq w.params h' (fun b=>H b∨b=C) L out→(KH s.heap h') →
   compPost (model prog w) A E use Q (.ref L) C (.ok .next) { s with heap:=h',toks:=tk,drawn:=dw }) :
  wpAny (model prog w) A (comprehension (.ListComp t [⟨.Name (Str.ofString x) py,it,ifs,0⟩] scope pos) scope env ppos (newList []) false (eval it env) use) Q E s:=by
 refine evi_comp hev fun y its out hy hi hl ho e=>comp_core c.R hok hset hh c.x (hs s env it H ρ m y E hcsrc c.l hy) hi hl ho (fun cenv hk s₂ mC H₂ v dv r hm hf RC hv rv hfv hx kp hsub E'=>?_) fun L C h' tk dw m' h1 h2 h3 h4 h5 h6=>hQ L C h' tk dw m' out e.symm h1 h2 h3 h4 h5 h6
 have ci:Cc w base s₂ cenv H₂ ((x,dv)::ρ) mC (elt.names++ff cs):=comp_inner hok hk hv rv hfv kp hsub RC hx c.r
 rw[← hk] at hcelt hcifs
 refine pg hf fun b hb hf=>be (hcs s₂ cenv ifs H₂ _ mC b E' hcifs ci.r hb) fun ok s₃ q=>⟨q.k,?_⟩
 cases b with
 | true=>exact bi hf fun y hy e=>Option.some.inj e▸⟨q.e,fun dr e=>Option.some.inj e▸he s₃ cenv t H₂ _ mC y E' hcelt (ci.l.k q.k) hy⟩
 | false=>exact Option.some.inj hf▸⟨q.e,fun dr e=>nomatch e⟩
end
end Mine
namespace Mine
open PySem PySem.SeqAt
theorem dput_len(k d:D)(ks vs:List D):(cw ks vs k d).1.length≤ks.length+1:=by
 induction ks generalizing vs with
 | nil=>exact Nat.le_refl _
 | cons k' ks ih=>cases vs with
  | nil=>exact Nat.succ_le_succ (Nat.zero_le _)
  | cons v vs=>
   rw[kc]
   split
   ·exact Nat.le_succ _
   ·exact Nat.succ_le_succ (ih vs)
section
variable {prog:Program} {w:World} {A:Around} {s:Shared} {base:Heap} {mg mb:Str→Option Value} {cf:CF}
theorem jK{ρ:List (String×D)}{ms:List ME}{k:KD}{es:List Expr}(h:bF cf ρ ms=some [])(hc:bH k es ms=true):es=[]:=by
 cases ms with
 | nil=>exact List.isEmpty_iff.mp hc
 | cons a r=>exact ov h fun _ _ _ _ e=>nomatch e
theorem not_sys(G:GOk mg mb base){h:Heap}(hk:KH base h):(h.objs.size == sysModules)=false:=(om G.g).elim fun o e=>beq_eq_false_iff_ne.mpr fun q=>absurd (q▸Heap.gt_lt (hk _ _ e)) (by decide)
theorem evi_dct{ρ:List (String×D)}{ks vs:List ME}{d:D}{C:Prop}(h:evE cf ρ (.dct ks vs)=some d)(k:bF cf ρ ks=some []→bF cf ρ vs=some []→.dict [] []=d→C):C:=
 dJ (a:=bF cf ρ ks) (f:=fun ds=>oEs (bF cf ρ vs) fun es=>if (ds.isEmpty&&es.isEmpty)=true then some (D.dict [] []) else Option.none) h fun ds h1 h=>dJ h fun es h2 h=>aV h fun hc e=>bN hc fun a b=>k (List.isEmpty_iff.mp a▸h1) (List.isEmpty_iff.mp b▸h2) e
theorem sf_dct(G:GOk mg mb base){ks vs:List ME}(hsk:∀ e∈ks,SE prog w A base cf e)(hsv:∀ e∈vs,SE prog w A base cf e):SF prog w A base cf (.dct ks vs):=fun s env e H ρ m d fr E hc c he=>
 d5 he rfl fun he hf=>evi_dct he fun h1 h2 hd=>IDct.rec (motive:=fun e _=>wpAny (model prog w) A (eval e env) (bI w s H d fr) E s) (fun {kes ves pos} hk hv=>by
  have e1:=jK h1 hk
  have e2:=jK h2 hv
  subst e1 e2
  have own:cx w.params (s.heap.push { cls:=.type "dict",data:=.dict #[] }) H s.heap.objs.size (.dict [] []):=jT.mk (es:=#[]) (n:=0) (Heap.get?_push_size _ rfl) (Nat.zero_le _) rfl rfl rfl rfl .nil (not_sys G c.hw.keep)
  exact wpAny_Dict_empty (hd▸hf▸⟨Kp.push _ _,own.rep c.x.fresh,fun _=>⟨b9 _,own⟩⟩)) (qj hc)
end
end Mine
namespace Mine
open PySem PySem.SeqAt

section
variable {prog:Program} {w:World} {A:Around} {s:Shared} {base:Heap} {mg mb:Str→Option Value} {cf:CF}

theorem iC{me:ME}(h:SE prog w A base cf me)(hf:∀ ρ,evF cf ρ me=(evE cf ρ me).map fun d=>(d,false)):SF prog w A base cf me:=fun s env e H ρ m d fr E hc c he=>
 bh ((hf ρ).symm.trans he) fun d' h1 h2=>be (h s env e H ρ m d E hc c (h1.trans (congrArg some (Prod.mk.inj h2).1))) fun _ _ q=>q.pf (Prod.mk.inj h2).2.symm
theorem sf_comp{elt src:ME}{x:String}{cs:List ME}(hh:A.handled=none)(he:SE prog w A base cf elt)(hs:SE prog w A base cf src)(hcs:SC prog w A base cf cs):SF prog w A base cf (.comp elt x src cs):=fun s env e H ρ m d fr E hc c hev=>
 d5 hev rfl fun hev hf=>qT.rec (motive:=fun e _=>wpAny (model prog w) A (eval e env) (bI w s H d fr) E s) (fun c1 c2 c3 c4 c5=>by
  rw[eval_ListComp]
  refine oD (use:=none) hh he hs hcs c1 c2 c3 c4 c5 c hev fun L C h' tk dr m' out hd hL hC hLC hns hown hk=>⟨m',hns,fun h'' hs''=>?_⟩
  have m1:Mv C h' h'':=fun b o hn e=>g1 hs'' (d6 hns) b hn e
  have own:fq w.params h'' H L out:=hown.mono (fun o e=>m1 L o hLC e) (fun a o hn e=>m1 a o (fun q=>hn (.inr q)) e) fun b o _ q=>.inl (.inl q)
  have hLn:gat s.heap L=none:=by
   cases e:gat s.heap L with
   | none=>rfl
   | some o=>exact absurd (hL _ _ e) (Nat.lt_irrefl _)
  exact hd▸hf▸⟨.mk h'' tk dr fun b o e=>m1 b o (fun q=>bD e (q▸hC)) (hk b o e),own.rep fun q=>(c.x L q).elim fun b z=>z.elim fun o z=>Nat.lt_irrefl _ (Nat.lt_of_le_of_lt z.1 (hL b o z.2)),fun _=>⟨hLn,own⟩⟩) (kW hc)
theorem evF_callx(f:String)(ms:List ME)(ρ:List (String×D))(d:D)(h:evE cf ρ (.call f ms)=some d):∃ fr,evF cf ρ (.call f ms)=some (d,fr):=
 evi_call h fun ds r h1 h2 e=>⟨r.2,by rw[iQ,h1];exact h2.trans (congrArg some (Prod.ext e rfl))⟩
theorem blt_name{f:String}{ds:List D}{d:D}(h:eZ f ds=some d):f∈cj:=by
 cases ds with
 | nil=>exact ak h
 | cons a ds=>cases ds with
  | nil=>
   refine b0 (c:=f="len") h (fun e _=>e▸by decide) fun _ h=>?_
   cases a with
   | int i=>exact b0 h (fun e _=>e▸by decide) fun _ h=>bQ h fun e _=>e▸by decide
   | bool b=>exact aV h fun e _=>e▸by decide
   | str x=>exact aV h fun e _=>e▸by decide
   | list ds=>exact b0 h (fun e _=>e▸by decide) fun _ h=>bQ h fun e _=>e▸by decide
   | _=>exact ak h
  | cons b ds=>cases ds with
   | nil=>exact cL (C:=fun _=>f∈cj) h fun i h=>cL (C:=fun _=>f∈cj) h fun j h=>b0 h (fun e _=>e▸by decide) fun _ h=>b0 h (fun e _=>e▸by decide) fun _ h=>aV h fun e _=>e▸by decide
   | cons=>exact ak h
structure AE(prog:Program)(w:World)(A:Around)(base:Heap)(cf:CF)(me:ME):Prop where
 e:SE prog w A base cf me
 t:ST prog w A base cf me
 f:SF prog w A base cf me
structure AEs(prog:Program)(w:World)(A:Around)(base:Heap)(cf:CF)(ms:List ME):Prop where
 s:SEs prog w A base cf ms
 b:SB prog w A base cf ms
 c:SC prog w A base cf ms
 m:∀ e∈ms,SE prog w A base cf e
theorem lH{me:ME}(h:SE prog w A base cf me)(h2:me.plain=true)(h3:∀ ρ,evF cf ρ me=(evE cf ρ me).map fun d=>(d,false)):AE prog w A base cf me:=⟨h,nG h (fun e k env whole hc=>(n3 hc).test h2 env whole),iC h h3⟩
theorem nn{me:ME}(h:SF prog w A base cf me)(h2:me.plain=true)(h3:∀ ρ d,evE cf ρ me=some d→∃ fr,evF cf ρ me=some (d,fr)):AE prog w A base cf me:=
 have h4:=se_of_sf h h3
 ⟨h4,nG h4 (fun e k env whole hc=>(n3 hc).test h2 env whole),h⟩
theorem jI{me:ME}(h:j6 me=none)(ρ:List (String×D))(d:D)(e:evE cf ρ me=some d):∃ fr,evF cf ρ me=some (d,fr):=⟨frF me d,by unfold evF;rw[h,e];rfl⟩
theorem se_bltx(G:GOk mg mb base)(hh:A.handled=none){f:String}{ms:List ME}(h:SEs prog w A base cf ms):SE prog w A base cf (.blt f ms):=
 (Classical.em (f∈cj)).elim (fun hf=>se_blt G hh hf h) fun hf s env e H ρ m d E hc c he=>qE he fun ds _ h=>absurd (blt_name h) hf
theorem sb_step{a:ME}{r:List ME}(h:AE prog w A base cf a)(hr:SB prog w A base cf r):SB prog w A base cf (a::r):=by
 cases r with
 | nil=>exact sb_one h.e h.t
 | cons b r=>exact sb_cons h.e h.t hr
theorem mD(G:GOk mg mb base)(C:dn prog w base mg cf A)(hh:A.handled=none)(hu:np A)(me:ME):AE prog w A base cf me:=
 ME.rec (motive_1:=AE prog w A base cf) (motive_2:=AEs prog w A base cf)
  (fun x=>lH (pc x) rfl fun _=>rfl) (fun x=>lH (se_glob G C x) rfl fun _=>rfl) (fun i=>lH (se_int i) rfl fun _=>rfl) (fun x=>lH (se_str x) rfl fun _=>rfl) (fun b=>lH (se_bool b) rfl fun _=>rfl) (lH se_none rfl fun _=>rfl)
  (fun op a b ha hb=>nn (sf_bin ha.e hb.e) rfl (jI rfl))
  (fun op a b ha hb=>⟨rD hu.u1 ha.e hb.e,st_cmp hu.u1 ha.e hb.e,iC (rD hu.u1 ha.e hb.e) fun _=>rfl⟩)
  (fun op ms h=>⟨rE h.b,st_bop h.b,iC (rE h.b) fun _=>rfl⟩)
  (fun a h=>⟨rC h.e,st_not h.t,iC (rC h.e) fun _=>rfl⟩) (fun a h=>lH (se_neg h.e) rfl fun _=>rfl)
  (fun ms h=>lH (se_tup h.s) rfl fun _=>rfl) (fun ms h=>nn (sf_lst h.s) rfl (jI rfl))
  (fun a b ha hb=>lH (rB hu.u1 ha.e hb.e) rfl fun _=>rfl) (fun a b c ha hb hc=>nn (sf_sl ha.e hb.e hc.e) rfl (jI rfl))
  (fun ks vs hk hv=>nn (sf_dct G hk.m hv.m) rfl (jI rfl))
  (fun elt x src cs h1 h2 h3=>nn (sf_comp hh h1.e h2.e h3.c) rfl (jI rfl))
  (fun f ms h=>nn (pH G (C.at (.refl A)) h.s) rfl (evF_callx f ms)) (fun a T h=>lH (se_isi G h.e) rfl fun _=>rfl)
  (fun f ms h=>lH (se_bltx G hh h.s) rfl fun _=>rfl) (fun a h=>nn (sf_lcp G hh h.e) rfl (jI rfl))
  (fun a h=>nn (sf_sset G hh h.e) rfl (jI rfl))
  (fun a f x p rev h=>nn (sf_srt G C hu h.e) rfl (jI rfl))
  ⟨pI,sb_nil,rF,fun _ h=>nomatch h⟩ (fun a r ha hr=>⟨nM ha.e hr.s,sb_step ha hr.b,pJ ha.t hr.c,fun e he=>(List.mem_cons.mp he).elim (fun q=>q▸ha.e) (hr.m e)⟩) me
theorem all_Cs(G:GOk mg mb base)(C:dn prog w base mg cf A)(hh:A.handled=none)(hu:np A)(ms:List ME):SC prog w A base cf ms:=
 List.rec (motive:=SC prog w A base cf) rF (fun a _ h=>pJ (mD G C hh hu a).t h) ms
end
end Mine
namespace Mine
open PySem PySem.SeqAt

noncomputable def bB(k:KD)(x:Str):Bool:=(k x == some .local||k x == some .cell)&&eA k x
noncomputable def mS(e:Expr):Bool:=!decide (e.ctorIdx=8)&&!decide (e.ctorIdx=9)&&!decide (e.ctorIdx=10)

noncomputable def iV(e:Stmt)(f:List Expr→Expr→Pos→Bool):Bool:=dite (e.ctorIdx=5) (fun h=>Stmt.Assign.elim (motive_2:=fun _=>Bool) e h f) (fun _=>false)
@[elab_as_elim] theorem gj{e:Stmt}{f:List Expr→Expr→Pos→Bool}{C:Stmt→Prop}(h:iV e f=true)(k:∀ v0 v1 v2,f v0 v1 v2=true→C (.Assign v0 v1 v2)):C e:=
 (bc h).elim fun hc h=>Stmt.Assign.elim (motive_2:=fun e=>∀ hc,Stmt.Assign.elim (motive_2:=fun _=>Bool) e hc f=true→C e) e hc (fun v0 v1 v2 _ h=>k v0 v1 v2 h) hc h
noncomputable def qM(e:Stmt)(f:Expr→Pos→Bool):Bool:=dite (e.ctorIdx=24) (fun h=>Stmt.Expr.elim (motive_2:=fun _=>Bool) e h f) (fun _=>false)
@[elab_as_elim] theorem ju{e:Stmt}{f:Expr→Pos→Bool}{C:Stmt→Prop}(h:qM e f=true)(k:∀ v0 v1,f v0 v1=true→C (.Expr v0 v1)):C e:=
 (bc h).elim fun hc h=>Stmt.Expr.elim (motive_2:=fun e=>∀ hc,Stmt.Expr.elim (motive_2:=fun _=>Bool) e hc f=true→C e) e hc (fun v0 v1 _ h=>k v0 v1 h) hc h
noncomputable def cIf(e:Stmt)(f:Expr→List Stmt→List Stmt→Pos→Bool):Bool:=dite (e.ctorIdx=12) (fun h=>Stmt.If.elim (motive_2:=fun _=>Bool) e h f) (fun _=>false)
@[elab_as_elim] theorem qL{e:Stmt}{f:Expr→List Stmt→List Stmt→Pos→Bool}{C:Stmt→Prop}(h:cIf e f=true)(k:∀ v0 v1 v2 v3,f v0 v1 v2 v3=true→C (.If v0 v1 v2 v3)):C e:=
 (bc h).elim fun hc h=>Stmt.If.elim (motive_2:=fun e=>∀ hc,Stmt.If.elim (motive_2:=fun _=>Bool) e hc f=true→C e) e hc (fun v0 v1 v2 v3 _ h=>k v0 v1 v2 v3 h) hc h
noncomputable def cFor(e:Stmt)(f:Expr→Expr→List Stmt→List Stmt→Pos→Bool):Bool:=dite (e.ctorIdx=9) (fun h=>Stmt.For.elim (motive_2:=fun _=>Bool) e h f) (fun _=>false)
@[elab_as_elim] theorem lB{e:Stmt}{f:Expr→Expr→List Stmt→List Stmt→Pos→Bool}{C:Stmt→Prop}(h:cFor e f=true)(k:∀ v0 v1 v2 v3 v4,f v0 v1 v2 v3 v4=true→C (.For v0 v1 v2 v3 v4)):C e:=
 (bc h).elim fun hc h=>Stmt.For.elim (motive_2:=fun e=>∀ hc,Stmt.For.elim (motive_2:=fun _=>Bool) e hc f=true→C e) e hc (fun v0 v1 v2 v3 v4 _ h=>k v0 v1 v2 v3 v4 h) hc h
noncomputable def cRet(e:Stmt)(f:Option Expr→Pos→Bool):Bool:=dite (e.ctorIdx=3) (fun h=>Stmt.Return.elim (motive_2:=fun _=>Bool) e h f) (fun _=>false)
@[elab_as_elim] theorem cRet_inv{e:Stmt}{f:Option Expr→Pos→Bool}{C:Stmt→Prop}(h:cRet e f=true)(k:∀ v0 v1,f v0 v1=true→C (.Return v0 v1)):C e:=
 (bc h).elim fun hc h=>Stmt.Return.elim (motive_2:=fun e=>∀ hc,Stmt.Return.elim (motive_2:=fun _=>Bool) e hc f=true→C e) e hc (fun v0 v1 _ h=>k v0 v1 h) hc h
noncomputable def c3{α:Type}(l:List α)(f:α→α→α→Bool):Bool:=match l with | x::l=>c2 l (f x) | _=>false
@[elab_as_elim] theorem c3_inv{α:Type}{l:List α}{f:α→α→α→Bool}{C:List α→Prop}(h:c3 l f=true)(k:∀ x y z,f x y z=true→C [x,y,z]):C l:=by
 cases l with
 | nil=>cases h
 | cons x l=>exact pt (C:=fun l=>C (x::l)) h (k x)
noncomputable def grp1(k:KD)(st:Stmt):Bool:=iV st fun ts v _=>c1 ts fun t=>cu t fun y _=>y == Str.ofString "own"&&bB k y&&aH k v (.call "cells_at" [.var "row",.var "places"])
noncomputable def grp2(k:KD)(st:Stmt):Bool:=cIf st fun v b o _=>aH k v (.cmp .NotIn (.var "own") (.var "groups"))&&o.isEmpty&&c1 b fun st=>iV st fun ts v _=>c1 ts fun t=>qZ t fun gn on _=>aH k gn (.var "groups")&&aH k on (.var "own")&&aH k v (.lst [])
noncomputable def grp3(k:KD)(st:Stmt):Bool:=qM st fun v _=>eY v fun g as ks p=>ks.isEmpty&&c1 as fun a=>si g fun recv at_ ap=>at_ == Str.ofString "append"&&ap.endLine == p.line&&aH k recv (.sub (.var "groups") (.var "own"))&&aH k a (.var "row")
noncomputable def grpB(k:KD)(st:Stmt):Bool:=cFor st fun t it b o _=>o.isEmpty&&cu t fun y _=>y == Str.ofString "row"&&bB k y&&dC it&&aH k it (.var "rows")&&c3 b fun s1 s2 s3=>grp1 k s1&&grp2 k s2&&grp3 k s3
mutual
noncomputable def lN(k:KD)(st:Stmt)(ms:MS):Bool:=match ms with
 | .assign x e=>iV st fun ts v _=>c1 ts fun t=>cu t fun y _=>y == Str.ofString x&&bB k y&&aH k v e
 | .append x e=>qM st fun v _=>eY v fun g as ks p=>ks.isEmpty&&c1 as fun a=>si g fun n at_ ap=>cu n fun y _=>y == Str.ofString x&&bB k y&&at_ == Str.ofString "append"&&ap.endLine == p.line&&aH k a e
 | .setk x ke e=>iV st fun ts v _=>c1 ts fun t=>qZ t fun o i _=>cu o fun y _=>y == Str.ofString x&&bB k y&&aH k i ke&&aH k v e
 | .ite c t f=>cIf st fun v b o _=>aH k v c&&eX k b t&&eX k o f
 | .for_ x src body=>cFor st fun t it b o _=>o.isEmpty&&cu t fun y _=>y == Str.ofString x&&bB k y&&dC it&&aH k it src&&eX k b body
 | .ret e=>cRet st fun v _=>cOpt v fun v=>aH k v e
 | .bad=>true
 | .grp=>grpB k st
 | .expr e=>qM st fun v _=>mS v&&aH k v e
 | .forr x src body=>cFor st fun t it b o _=>o.isEmpty&&cu t fun y _=>y == Str.ofString x&&bB k y&&dC it&&(eY it fun g as ks _=>ks.isEmpty&&cu g fun g _=>g == Str.ofString "reversed"&&bJ k g&&c1 as fun a=>aH k a src)&&eX k b body
termination_by structural ms
noncomputable def eX(k:KD)(ss:List Stmt)(ms:List MS):Bool:=match ms with
 | []=>ss.isEmpty
 | a::r=>(match ss with | s::ss'=>lN k s a&&eX k ss' r | []=>false)
termination_by structural ms
end

section
variable {k:KD} {st:Stmt}
inductive kk(k:KD)(x:String)(e:ME):Stmt→Prop
 | mk {p v pos} (hst:bB k (Str.ofString x)=true) (hc:aH k v e=true):kk k x e (.Assign [.Name (Str.ofString x) p] v pos)
theorem kX{x:String}{e:ME}(h:lN k st (.assign x e)=true):kk k x e st:=
 gj h fun ts v p h=>dH h fun t h=>bo h fun y py h=>fF h fun h1=>eqb h1 fun h2 h3=>⟨h2,h3⟩
inductive nr(k:KD)(x:String)(e:ME):Stmt→Prop
 | mk {yp ap a p pos} (hst:bB k (Str.ofString x)=true) (hl:(ap.endLine == p.line)=true) (hc:aH k a e=true):nr k x e (.Expr (.Call (.Attribute (.Name (Str.ofString x) yp) (Str.ofString "append") ap) [a] [] p) pos)
theorem inv_append{x:String}{e:ME}(h:lN k st (.append x e)=true):nr k x e st:=
 ju h fun v pos h=>dG h fun g as ks p h=>bN h fun h1 h=>jO h1 (dH h fun a h=>mA (e:=g) h fun n at_ ap h=>bo (e:=n) h fun y yp h=>lP h fun h1=>eqb h1 fun h2 h3=>eqb h3 fun h4 h5=>⟨h2,h4,h5⟩)
inductive sy(k:KD)(x:String)(ke e:ME):Stmt→Prop
 | mk {yp i p v pos} (hst:bB k (Str.ofString x)=true) (hi:aH k i ke=true) (hc:aH k v e=true):sy k x ke e (.Assign [.Subscript (.Name (Str.ofString x) yp) i p] v pos)
theorem inv_setk{x:String}{ke e:ME}(h:lN k st (.setk x ke e)=true):sy k x ke e st:=
 gj h fun ts v pos h=>dH h fun t h=>iU h fun o i p h=>bo (e:=o) h fun y yp h=>nl h fun h1=>eqb h1 fun h2 h3 h4=>⟨h2,h3,h4⟩
inductive IIte(k:KD)(c:ME)(t f:List MS):Stmt→Prop
 | mk {v b o p} (hc:aH k v c=true) (ht:eX k b t=true) (hf:eX k o f=true):IIte k c t f (.If v b o p)
theorem inv_ite{c:ME}{t f:List MS}(h:lN k st (.ite c t f)=true):IIte k c t f st:=qL h fun v b o p h=>fF h fun h1 h2 h3=>⟨h1,h2,h3⟩
inductive IFor(k:KD)(x:String)(src:ME)(body:List MS):Stmt→Prop
 | mk {yp it b p} (hst:bB k (Str.ofString x)=true) (hn:dC it=true) (hc:aH k it src=true) (hb:eX k b body=true):IFor k x src body (.For (.Name (Str.ofString x) yp) it b [] p)
theorem inv_for{x:String}{src:ME}{body:List MS}(h:lN k st (.for_ x src body)=true):IFor k x src body st:=
 lB h fun t it b o p h=>bN h fun h1 h=>jO h1 (bo (e:=t) h fun y yp h=>lP h fun h1=>eqb h1 fun h2 h3 h4 h5=>⟨h2,h3,h4,h5⟩)
inductive sB(k:KD)(e:ME):Stmt→Prop
 | mk {v p} (hn:mS v=true) (hc:aH k v e=true):sB k e (.Expr v p)
theorem inv_expr{e:ME}(h:lN k st (.expr e)=true):sB k e st:=ju h fun v p h=>bN h fun h1 h2=>⟨h1,h2⟩
inductive sA(k:KD)(x:String)(src:ME)(body:List MS):Stmt→Prop
 | mk {yp gp a cp b p} (hst:bB k (Str.ofString x)=true) (hg:bJ k (Str.ofString "reversed")=true) (hc:aH k a src=true) (hb:eX k b body=true):sA k x src body (.For (.Name (Str.ofString x) yp) (.Call (.Name (Str.ofString "reversed") gp) [a] [] cp) b [] p)
theorem inv_forr{x:String}{src:ME}{body:List MS}(h:lN k st (.forr x src body)=true):sA k x src body st:=
 lB h fun t it b o p h=>bN h fun h1 h=>jO h1 (bo (e:=t) h fun y yp h=>lP h fun h2=>eqb h2 fun h3 _ h4 h5=>dG (e:=it) h4 fun g as ks cp h=>bN h fun h6 h=>jO h6 (bo (e:=g) h fun g gp h=>fF h fun h7=>eqb h7 fun h8 h9=>dH h9 fun a h9=>⟨h3,h8,h9,h5⟩))
inductive IRet(k:KD)(e:ME):Stmt→Prop
 | mk {v p} (hc:aH k v e=true):IRet k e (.Return (some v) p)
theorem inv_ret{e:ME}(h:lN k st (.ret e)=true):IRet k e st:=cRet_inv h fun v p h=>cOpt_inv h fun v h=>⟨h⟩
end

noncomputable abbrev Own:=String→Option Addr
noncomputable def frm(env:Env)(b:Addr):Prop:=b=env.locals∨∃ x,env.cells.lookup x=some b
noncomputable def Hot(env:Env)(H₀:Addr→Prop)(own:Own)(b:Addr):Prop:=H₀ b∨frm env b∨∃ x,own x=some b
noncomputable def Own.less(own:Own)(ns:List String):Own:=fun x=>if x∈ns then none else own x
theorem cX{own:Own}{ns:List String}{x:String}{a:Addr}(e:own.less ns x=some a):own x=some a:=by unfold Own.less at e;split at e <;> first | cases e | exact e
theorem Hot.mono{env:Env}{H₀ H₁:Addr→Prop}{own own':Own}(hH:∀ b,H₁ b→H₀ b)(hs:∀ x a,own' x=some a→own x=some a){b:Addr}(h:Hot env H₁ own' b):Hot env H₀ own b:=
 h.imp (hH b) fun h=>h.imp id fun h=>h.elim fun x h=>⟨x,hs x b h⟩
theorem Hot.less{env:Env}{H₀:Addr→Prop}{own:Own}{ns:List String}{b:Addr}(h:Hot env H₀ (own.less ns) b):Hot env H₀ own b:=h.mono (fun _ q=>q) fun _ _=>cX

structure a9(w:World)(base ent h:Heap)(env:Env)(H₀:Addr→Prop)(own:Own)(m:Str→Option Value)(σ:St):Prop where
 rep:a7 h env m
 plain:∀ x d,σ.lookup x=some (false,d)→∃ v,m (Str.ofString x)=some v∧Rep w.params h (Hot env H₀ own) v d
 owned:∀ x d,σ.lookup x=some (true,d)→∃ a,own x=some a∧m (Str.ofString x)=some (.ref a)∧cx w.params h (Hot env H₀ own) a d
 hot:HOk base h (Hot env H₀ own)
 keep:KH ent h
 frE:∀ b,frm env b→gat ent b=none
 own1:∀ x a,own x=some a→gat ent a=none∧¬ H₀ a∧¬ frm env a
 inj:∀ x y a,own x=some a→own y=some a→x=y
 ownx:∀ x a,own x=some a→∃ o,gat h a=some o

section
variable {w:World} {base ent h h':Heap} {env:Env} {H₀ H₁:Addr→Prop} {own own':Own} {m m':Str→Option Value} {σ:St}
theorem a9.off(S:a9 w base ent h env H₀ own m σ){x:String}{a:Addr}(hx:own x=some a)(hs:∀ y b,own' y=some b→own y=some b)(hn:own' x≠some a):¬ Hot env H₀ own' a:=fun q=>q.elim (S.own1 x a hx).2.1 fun q=>q.elim (S.own1 x a hx).2.2 fun q=>q.elim fun y e=>hn (S.inj y x a (hs y a e) hx▸e)
theorem a9.to(S:a9 w base ent h env H₀ own m σ)(R:a7 h' env m)(kp:jV h (Hot env H₀ own) h')(ko:∀ x a o,own x=some a→gat h a=some o→gat h' a=some o)(ls:nq h (Hot env H₀ own) (Hot env H₁ own))(ke:KH ent h')(hx:∀ b,H₁ b→∃ b' o,@LE.le Nat _ b b'∧gat h' b'=some o)(hn:∀ x a,own x=some a→¬ H₁ a):a9 w base ent h' env H₁ own m σ where
 rep:=R
 plain:=fun x d e=>(S.plain x d e).elim fun v q=>⟨v,q.1,q.2.mono kp ls⟩
 owned:=fun x d e=>(S.owned x d e).elim fun a q=>⟨a,q.1,q.2.1,q.2.2.mono (fun o e=>ko x a o q.1 e) kp fun b o e z=>.inl (ls b o e z)⟩
 hot:=⟨fun b o e=>kp b o (S.hot.off b o e) (S.hot.keep b o e),fun b q=>q.elim (hx b) fun q=>q.elim (fun q=>(q.elim (fun q=>R.loc.elim fun _ z=>q▸om z.1) fun q=>q.elim fun x z=>R.ex x b z).elim fun o z=>⟨b,o,Nat.le_refl _,z⟩) fun q=>q.elim fun x q=>(S.ownx x b q).elim fun o z=>⟨b,o,Nat.le_refl _,ko x b o q z⟩,fun b o e q=>S.hot.off b o e (ls b o (S.hot.keep b o e) q)⟩
 keep:=ke
 frE:=S.frE
 own1:=fun x a e=>⟨(S.own1 x a e).1,hn x a e,(S.own1 x a e).2.2⟩
 inj:=S.inj
 ownx:=fun x a e=>(S.ownx x a e).elim fun o z=>⟨o,ko x a o e z⟩
theorem a9.keeps(S:a9 w base ent h env H₀ own m σ)(hk:KH h h'):a9 w base ent h' env H₀ own m σ:=
 S.to (S.rep.keeps hk) (fun b o _ e=>hk b o e) (fun _ a o _ e=>hk a o e) (fun _ _ _ q=>q) (fun b o e=>hk b o (S.keep b o e)) (fun b q=>(S.hot.ex b (.inl q)).elim fun b' z=>z.elim fun o z=>⟨b',o,z.1,hk _ _ z.2⟩) fun x a e=>(S.own1 x a e).2.1
theorem jF{ns:List String}{x:String}{b:Bool}{d:D}{C:Prop}(e:(Mine.freeze ns σ).lookup x=some (b,d))(k:∀ o,σ.lookup x=some (o,d)→(o&&!ns.contains x)=b→C):C:=by
 rw[aW] at e
 exact bh e fun p h1 h2=>k p.1 (h1.trans (congrArg some (Prod.ext rfl (Prod.mk.inj h2).2))) (Prod.mk.inj h2).1
theorem a9.freeze(S:a9 w base ent h env H₀ own m σ)(ns:List String):a9 w base ent h env H₀ (own.less ns) m (Mine.freeze ns σ) where
 rep:=S.rep
 plain:=fun x d e=>jF e fun o h1 h2=>by
  cases o with
  | false=>exact (S.plain x d h1).elim fun v q=>⟨v,q.1,q.2.sub fun _ q=>q.less⟩
  | true=>
   have hm:x∈ns:=List.contains_iff_mem.mp (by simpa using h2)
   exact (S.owned x d h1).elim fun a q=>⟨_,q.2.1,(q.2.2.sub fun _ q=>q.less).rep (S.off q.1 (fun _ _=>cX) (by unfold Own.less;rw[if_pos hm];nofun))⟩
 owned:=fun x d e=>jF e fun o h1 h2=>bN h2 fun h3 h4=>by
  subst h3
  have hm:¬ x∈ns:=fun q=>by rw[List.contains_iff_mem.mpr q] at h4;cases h4
  exact (S.owned x d h1).elim fun a q=>⟨a,(if_neg hm).trans q.1,q.2.1,q.2.2.sub fun _ q=>q.less⟩
 hot:=⟨S.hot.keep,fun a q=>S.hot.ex a q.less,fun b o e q=>S.hot.off b o e q.less⟩
 keep:=S.keep
 frE:=S.frE
 own1:=fun x a e=>S.own1 x a (cX e)
 inj:=fun x y a e1 e2=>S.inj x y a (cX e1) (cX e2)
 ownx:=fun x a e=>S.ownx x a (cX e)
theorem a9.cc(S:a9 w base ent h env H₀ own m σ){s:Shared}(hs:s.heap=h)(ns:List String):Cc w base s env (Hot env H₀ (own.less ns)) (vis σ) m ns:=by
 subst hs
 refine⟨S.rep,(S.freeze ns).hot,fun x hx _ d hd=>?_⟩
 rw[bE] at hd
 refine bh hd fun p h1 h2=>(S.freeze ns).plain x d ?_
 rw[aW,h1,Option.map_some,h2,List.contains_iff_mem.mpr hx,Bool.not_true,Bool.and_false]
end
end Mine
namespace Mine
open PySem PySem.SeqAt

section
variable {w:World} {base ent h h₁ h₂:Heap} {env:Env} {H₀:Addr→Prop} {own:Own} {m:Str→Option Value} {σ:St}

theorem dQ{a:Addr}(R:a7 h env m)(ha:frm env a):∃ o,gat h a=some o:=ha.elim (fun e=>R.loc.elim fun _ q=>e▸om q.1) fun q=>q.elim fun y e=>R.ex y a e
noncomputable def Own.set(own:Own)(x:String)(nw:Option Addr):Own:=fun y=>if y=x then nw else own y
theorem gz{x y:String}{p q:Bool×D}{C:Prop}(e:(aD σ x p).lookup y=some q)(k1:y=x→p=q→C)(k2:¬ y=x→σ.lookup y=some q→C):C:=by
 rw[aG] at e
 exact b0 e (fun h e=>k1 h (Option.some.inj e)) k2
theorem cW{x y:String}{nw:Option Addr}{c:Addr}{C:Prop}(e:own.set x nw y=some c)(k1:y=x→nw=some c→C)(k2:¬ y=x→own y=some c→C):C:=b0 e k1 k2
theorem ri{x y:String}{v:Value}(h:¬ y=x):upd m (Str.ofString x) v (Str.ofString y)=m (Str.ofString y):=if_neg fun e=>h (cE e)
theorem a9.set(S:a9 w base ent h env H₀ own m σ){x:String}{v:Value}{nw:Option Addr}{fr:Bool}{d:D}(R₂:a7 h₂ env (upd m (Str.ofString x) v))(kp:jV h (Hot env H₀ own) h₂)(ko:∀ y a o,own y=some a→gat h a=some o→gat h₂ a=some o)(kx:∀ b o,gat h b=some o→∃ o',gat h₂ b=some o')(ke:KH ent h₂)
  (hnw:∀ c,nw=some c→gat h c=none∧¬ H₀ c∧∃ o,gat h₂ c=some o) (hP:fr=false→Rep w.params h₂ (Hot env H₀ (own.set x nw)) v d) (hO:fr=true→∃ c,nw=some c∧v=.ref c∧cx w.params h₂ (Hot env H₀ (own.set x nw)) c d) :
  a9 w base ent h₂ env H₀ (own.set x nw) (upd m (Str.ofString x) v) (aD σ x (fr,d)):=
 have ls:nq h (Hot env H₀ own) (Hot env H₀ (own.set x nw)):=fun b o e q=>q.imp id fun q=>q.imp id fun q=>q.elim fun y q=>cW q (fun _ q=>bD e (hnw b q).1) fun _ q=>⟨y,q⟩
 {rep:=R₂
  plain:=fun y d' e=>gz e (fun ey ep=>⟨v,ey▸if_pos rfl,(Prod.mk.inj ep).2▸hP (Prod.mk.inj ep).1⟩) fun ne e=>(S.plain y d' e).elim fun u q=>⟨u,(ri ne).trans q.1,q.2.mono kp ls⟩
  owned:=fun y d' e=>gz e (fun ey ep=>(hO (Prod.mk.inj ep).1).elim fun c q=>⟨c,ey▸(if_pos rfl).trans q.1,ey▸(if_pos rfl).trans (congrArg some q.2.1),(Prod.mk.inj ep).2▸q.2.2⟩) fun ne e=>(S.owned y d' e).elim fun c q=>⟨c,(if_neg ne).trans q.1,(ri ne).trans q.2.1,q.2.2.mono (fun o e=>ko y c o q.1 e) kp fun b o e z=>.inl (ls b o e z)⟩
  hot:=⟨fun b o e=>kp b o (S.hot.off b o e) (S.hot.keep b o e),fun b q=>q.elim (fun q=>(S.hot.ex b (.inl q)).elim fun b' z=>z.elim fun o z=>(kx b' o z.2).elim fun o' e=>⟨b',o',z.1,e⟩) fun q=>(q.elim (dQ R₂) fun q=>q.elim fun y q=>cW q (fun _ q=>(hnw b q).2.2) fun _ q=>(S.ownx y b q).elim fun o z=>kx b o z).elim fun o z=>⟨b,o,Nat.le_refl _,z⟩,fun b o e q=>S.hot.off b o e (ls b o (S.hot.keep b o e) q)⟩
  keep:=ke
  frE:=S.frE
  own1:=fun y c hc=>cW hc (fun _ q=>⟨iF S.keep (hnw c q).1,(hnw c q).2.1,fun z=>(dQ S.rep z).elim fun o e=>bD e (hnw c q).1⟩) fun _ q=>S.own1 y c q
  inj:=fun y z c h1 h2=>cW h1 (fun e1 q1=>cW h2 (fun e2 _=>e1.trans e2.symm) fun _ q=>(S.ownx z c q).elim fun o e=>bD e (hnw c q1).1) fun _ q1=>cW h2 (fun _ q=>(S.ownx y c q1).elim fun o e=>bD e (hnw c q).1) fun _ q=>S.inj y z c q1 q
  ownx:=fun y c hc=>cW hc (fun _ q=>(hnw c q).2.2) fun _ q=>(S.ownx y c q).elim fun o z=>kx c o z }
theorem a9.turn(S:a9 w base ent h env H₀ own m σ){x:String}{a:Addr}{d₀ d:D}(hx:σ.lookup x=some (true,d₀))(hown:own x=some a)(hs:Heap.SameBut a h h₂)(hd:cx w.params h₂ (Hot env H₀ own) a d) :
  a9 w base ent h₂ env H₀ own m (aD σ x (true,d)):=by
 refine (S.owned x _ hx).elim fun a' q=>?_
 have ea:a'=a:=Option.some.inj (q.1.symm.trans hown)
 subst ea
 have m1:Mv a' h h₂:=rG ⟨hs,q.2.2.notTab,hd.notTab⟩
 have g:=S.own1 x a' hown
 have kp:jV h (Hot env H₀ own) h₂:=fun b o hn e=>m1 b o (fun z=>hn (z▸.inr (.inr ⟨x,hown⟩))) e
 have kx:∀ b o,gat h b=some o→∃ o',gat h₂ b=some o':=fun b o e=>(Classical.em (b=a')).elim (fun q=>q▸hd.ex) fun q=>⟨o,m1 b o q e⟩
 exact
  {rep:=S.rep.keepsAt fun b o hb e=>m1 b o (fun z=>g.2.2 (z▸hb)) e
   plain:=fun y d' e=>gz e (fun _ ep=>nomatch (Prod.mk.inj ep).1) fun _ e=>(S.plain y d' e).elim fun u z=>⟨u,z.1,z.2.mono kp fun _ _ _ q=>q⟩
   owned:=fun y d' e=>gz e (fun ey ep=>⟨a',ey▸hown,ey▸q.2.1,(Prod.mk.inj ep).2▸hd⟩) fun ne e=>(S.owned y d' e).elim fun c z=>⟨c,z.1,z.2.1,z.2.2.mono (fun o e=>m1 c o (fun w=>ne (S.inj y x a' (w▸z.1) hown)) e) kp fun _ _ _ q=>.inl q⟩
   hot:=⟨fun b o e=>kp b o (S.hot.off b o e) (S.hot.keep b o e),fun b q=>(S.hot.ex b q).elim fun b' z=>z.elim fun o z=>(kx b' o z.2).elim fun o' e=>⟨b',o',z.1,e⟩,S.hot.off⟩
   keep:=fun b o e=>m1 b o (fun z=>bD e (z▸g.1)) (S.keep b o e)
   frE:=S.frE
   own1:=S.own1
   inj:=S.inj
   ownx:=fun y c hc=>(S.ownx y c hc).elim fun o z=>kx c o z }
end
end Mine
namespace Mine
open PySem PySem.SeqAt
section
variable {prog:Program} {w:World} {A:Around}
theorem isKey_tk(k:List CK):(dq k).isKey=true:=List.all_eq_true.mpr fun d hd=>(List.mem_map.mp hd).elim fun c q=>q.2▸by cases c <;> rfl
theorem dictH_own{prog:Program}{w:World}{h:Heap}{H:Addr→Prop}{a:Addr}{xs:List (List CK×Addr×Value)}{ks vs:List D}(hm:h.DictOfH (TKd prog w) a xs)(e1:xs.map kD=ks)(h1:aq w.params h (fun b=>H b∨b=a) (xs.map fun x=>Value.ref x.2.1) ks)(h2:aq w.params h (fun b=>H b∨b=a) (xs.map (·.2.2)) vs)(hl:ks.length≤big)(hs:(a == sysModules)=false):jT w.params h H a ks vs:=by
 obtain⟨o',es',ep',g1,⟨g2,g3,g4⟩,g5,g6,g7,g8⟩:=hm
 have ho':o'=jR es' ep':=by obtain⟨a,b,c,d⟩:=o';dsimp only at g2 g3 g4 g5;subst g2 g3 g4 g5;rfl
 subst e1
 exact⟨ho'▸g1,hl,by rw[g6,List.map_map];exact h1,by rw[g6,List.map_map];exact h2,by rw[g6,List.map_map,List.map_map];exact List.map_congr_left fun x _=>qw x.1,
  List.all_eq_true.mpr fun z hz=>(List.mem_map.mp hz).elim fun x q=>q.2▸isKey_tk x.1,List.pairwise_map.mpr ((List.pairwise_map.mp g8).imp fun h e=>h (ofTK_inj e)),hs⟩
theorem a9.ownAt{base ent h:Heap}{env:Env}{H₀:Addr→Prop}{own:Own}{m:Str→Option Value}{σ:St}(S:a9 w base ent h env H₀ own m σ){x:String}{L:Addr}{d:D}(hx:σ.lookup x=some (true,d))(hL:own x=some L):cx w.params h (Hot env H₀ own) L d:=
 (S.owned x _ hx).elim fun L' q=>Option.some.inj (q.1.symm.trans hL)▸q.2.2
theorem jB{s:Shared}{H:Addr→Prop}{L:Addr}{ks vs:List D}{u kv:Value}{d dk:D}{Q:Unit→Shared→Prop}{E:Value→Shared→Prop}(hu:A.units+1<cLine)(o:jT w.params s.heap H L ks vs)
  (rk:Rep w.params s.heap (fun b=>H b∨b=L) kv dk) (rv:Rep w.params s.heap (fun b=>H b∨b=L) u d) (hc:cB dk ks=true) (hlen:ks.length<big)
  (hQ:∀ h' tk dw,Heap.SameBut L s.heap h'→jT w.params h' H L (cw ks vs dk d).1 (cw ks vs dk d).2→Q () { s with heap:=h',toks:=tk,drawn:=dw }):wpAny (model prog w) A (setItem (.ref L) kv u) Q E s:=by
 refine o.rec fun {es n} o1 o2 o3 o4 o5 o6 o7 o8=>?_
 have hdl:(cw ks vs dk d).1.length≤big:=Nat.le_trans (dput_len dk d ks vs) hlen
 have mv:∀ {h'},Heap.SameBut L s.heap h'→∀ {l:List Value} {ds:List D},aq w.params s.heap (fun b=>H b∨b=L) l ds→aq w.params h' (fun b=>H b∨b=L) l ds:=fun hs _ _ r=>
  r.mono (fun b o hb e=>g1 hs (bz o1) b (fun q=>hb (.inr q)) e) fun _ _ _ q=>q
 refine ji hc (fun h1 h2=>?_) ?_
 ·obtain⟨cs,rfl⟩:=ly h2
  obtain⟨c,rfl⟩:=fk h1
  have hl:cs.length=(es.toList.map (·.val)).length:=by have:=o3.length;rw[List.length_map,List.length_map] at this;rw[List.length_map,this]
  have hcn:cs.Nodup:=(List.pairwise_map.mp o7).imp fun h e=>h (congrArg aX e)
  refine wpAny_setItem_pairs (knd:=bM prog w) (jb rk) (li o1 o3 o5 o7) (fun h' hm hs=>?_) (by
   rw[List.length_zip,← hl,Nat.min_self]
   rw[List.length_map] at hlen
   exact Nat.le_of_lt hlen)
  have p:=stored_dput (k:=c) rv hl hcn o4
  refine (rep_dictOf (H:=fun b=>H b∨b=L) hm).elim fun es' r=>r.elim fun n' r=>?_
  rw[p.1] at r
  exact hQ _ _ _ hs ⟨r.1,hdl,r.2.1,r.2.2.1▸mv hs p.2,r.2.2.2.1,r.2.2.2.2.1,r.2.2.2.2.2,o8⟩
 ·intro h1 h2
  obtain⟨cs,rfl⟩:=oY h2
  obtain⟨c,rfl⟩:=nA h1
  obtain⟨xs,hm,e1,e2,e3⟩:=jr (prog:=prog) o1 o3 o5 o7
  obtain⟨b,rfl,ib⟩:=mM (prog:=prog) rk
  subst e1
  have hn:(xs.map (·.1)).Nodup:=(List.pairwise_map.mp o7).imp fun h e=>h (by rw[e])
  have ek:(xs.map (·.1)).map dq=xs.map kD:=by rw[List.map_map];rfl
  rw[ek] at o3 hdl hQ
  have p:=storedH_dput rk rv hn (e2▸o3) (e3▸o4)
  exact wpAny_setItem_heap (knd:=TKd prog w) hu ib hm (fun h' hm' hs=>hQ _ _ _ hs (dictH_own hm' p.1 (mv hs p.2.1) (mv hs p.2.2) hdl o8)) (by
   rw[List.length_map,List.length_map] at hlen;exact Nat.le_of_lt hlen)
end
end Mine
namespace Mine
open PySem PySem.SeqAt

structure Tr(h₀:Heap)(env:Env)(own₀:Own)(h:Heap)(own:Own):Prop where
 k:∀ b o,gat h₀ b=some o→¬ frm env b→(∀ x,own₀ x≠some b)→gat h b=some o
 x:∀ b o,gat h₀ b=some o→∃ o',gat h b=some o'
 o:∀ x a,own x=some a→own₀ x=some a∨gat h₀ a=none
section
variable {h₀ h h₁ h₂:Heap} {env:Env} {own₀ own own₁ own₂:Own}
theorem Tr.of(hk:KH h₀ h)(ho:∀ x a,own x=some a→own₀ x=some a):Tr h₀ env own₀ h own:=⟨fun b o e _ _=>hk b o e,fun b o e=>⟨o,hk b o e⟩,fun x a e=>.inl (ho x a e)⟩
theorem Tr.keeps(hk:KH h₀ h):Tr h₀ env own h own:=.of hk fun _ _ e=>e
theorem Tr.none(t:Tr h₀ env own₀ h own){a:Addr}(e:gat h a=none):gat h₀ a=none:=pR (t.x a) e
theorem Tr.sub(t:Tr h₀ env own₀ h own){b:Addr}{o:Obj}(e:gat h₀ b=some o)(hn:∀ x,own₀ x≠some b):∀ x,own x≠some b:=fun x q=>(t.o x b q).elim (hn x) fun q=>bD e q
theorem Tr.trans(t:Tr h₀ env own₀ h₁ own₁)(u:Tr h₁ env own₁ h₂ own₂):Tr h₀ env own₀ h₂ own₂:=
 ⟨fun b o e hf ho=>u.k b o (t.k b o e hf ho) hf (t.sub e ho),fun b o e=>(t.x b o e).elim fun o' e'=>u.x b o' e',fun x a e=>(u.o x a e).elim (t.o x a) fun e=>.inr (t.none e)⟩
end
structure qR(w:World)(ent h:Heap)(H₀:Addr→Prop)(v:Value)(fr:Bool)(d:D):Prop where
 rep:Rep w.params h H₀ v d
 keep:KH ent h
 fr:fr=true→Fr w.params ent h H₀ d v
noncomputable def pS:Own:=fun _=>none
noncomputable def bp(w:World)(base ent:Heap)(env:Env)(H₀:Addr→Prop)(s:Shared)(own:Own)(r:Fl×St)(f:Flow)(s':Shared):Prop:=
 ∀ Q:Flow→Shared→Prop,(∀ h tk dw own' m,r.1=.next→Tr s.heap env own h own'→a9 w base ent h env H₀ own' m r.2→Q .next { s with heap:=h,toks:=tk,drawn:=dw }) →
  (∀ h tk dw fr d v,r.1=.ret fr d→Tr s.heap env own h pS→qR w ent h H₀ v fr d→Q (.ret v) { s with heap:=h,toks:=tk,drawn:=dw })→Q f s'

section
variable {prog:Program} {w:World} {A:Around} {base:Heap} {mg mb:Str→Option Value} {cf:CF}

noncomputable def SS(prog:Program)(w:World)(A:Around)(base:Heap)(cf:CF)(ms:MS):Prop:=
 ∀ (s:Shared) (env:Env) (st:Stmt) (H₀:Addr→Prop) (ent:Heap) (own:Own) (m:Str→Option Value) (σ:St) (r:Fl×St) (E:Value→Shared→Prop),lN env.kindOf st ms=true→a9 w base ent s.heap env H₀ own m σ →
  exS cf ms σ=some r→wpAny (model prog w) A (exec st env) (bp w base ent env H₀ s own r) E s
noncomputable def SSs(prog:Program)(w:World)(A:Around)(base:Heap)(cf:CF)(ms:List MS):Prop:=
 ∀ (s:Shared) (env:Env) (ss:List Stmt) (H₀:Addr→Prop) (ent:Heap) (own:Own) (m:Str→Option Value) (σ:St) (r:Fl×St) (E:Value→Shared→Prop),eX env.kindOf ss ms=true→a9 w base ent s.heap env H₀ own m σ →
  bn cf ms σ=some r→wpAny (model prog w) A (execs ss env) (bp w base ent env H₀ s own r) E s

section
variable {ent:Heap} {env:Env} {H₀:Addr→Prop} {s:Shared} {own own₁:Own} {m:Str→Option Value} {σ:St} {r:Fl×St} {f:Flow} {s':Shared} {h₁ h₂:Heap} {tk:Nat} {dw:Drawn}
theorem bp.nx(t:Tr s.heap env own h₁ own₁)(S:a9 w base ent h₁ env H₀ own₁ m σ):bp w base ent env H₀ s own (.next,σ) .next { s with heap:=h₁,toks:=tk,drawn:=dw }:=fun _ hn _=>hn h₁ tk dw own₁ m rfl t S
theorem bp.rt{fr:Bool}{d:D}{v:Value}(t:Tr s.heap env own h₁ pS)(R:qR w ent h₁ H₀ v fr d):bp w base ent env H₀ s own (.ret fr d,σ) (.ret v) { s with heap:=h₁,toks:=tk,drawn:=dw }:=fun _ _ hr=>hr h₁ tk dw fr d v rfl t R
theorem bp.trans(t:Tr s.heap env own h₁ own₁)(q:bp w base ent env H₀ { s with heap:=h₁,toks:=tk,drawn:=dw } own₁ r f s'):bp w base ent env H₀ s own r f s':=
 fun Q hn hr=>q Q (fun h tk dw own' m e u S=>hn h tk dw own' m e (t.trans u) S) fun h tk dw fr d v e u R=>hr h tk dw fr d v e (t.trans u) R
noncomputable def cM(own:Own)(d:D)(ns:List String):Own:=if d.scalar then own else own.less ns
theorem eR{d:D}{ns:List String}{x:String}{a:Addr}(e:cM own d ns x=some a):own x=some a:=by
 unfold cM at e;split at e
 ·exact e
 ·exact cX e
theorem a9.settle(S:a9 w base ent h₁ env H₀ own m σ)(d:D)(ns:List String):a9 w base ent h₁ env H₀ (cM own d ns) m (Mine.settle d ns σ):=by
 unfold Mine.settle cM
 cases d.scalar with
 | true=>exact S
 | false=>exact S.freeze ns
theorem rep_settle{H:Addr→Prop}{X:Addr→Prop}{ns:List String}{v:Value}{d:D}(rv:Rep w.params h₁ (fun b=>Hot env H₀ (own.less ns) b∨X b) v d):Rep w.params h₁ (fun b=>Hot env H₀ (cM own d ns) b∨X b) v d:=by
 unfold cM
 cases hd:d.scalar with
 | true=>exact rv.scalar hd
 | false=>exact rv
theorem fJ{ns:List String}{v:Value}{d:D}(rv:Rep w.params h₁ (Hot env H₀ (own.less ns)) v d):Rep w.params h₁ (Hot env H₀ (cM own d ns)) v d:=by
 unfold cM
 cases hd:d.scalar with
 | true=>exact rv.scalar hd
 | false=>exact rv
noncomputable def refOf(v:Value):Option Addr:=match v with | .ref c=>some c | _=>none
noncomputable def mR(fr:Bool)(v:Value):Option Addr:=if fr then refOf v else none
theorem gZ{x:String}{ns:List String}{d:D}{fr:Bool}{v:Value}{a:Addr}{X:Addr→Prop}
  (S:a9 w base ent s.heap env H₀ own m σ) (hk:KH s.heap h₁) (rv:Rep w.params h₁ (fun b=>Hot env H₀ (own.less ns) b∨X b) v d)
  (hfr:fr=true→Fr w.params s.heap h₁ (fun b=>Hot env H₀ (own.less ns) b∨X b) d v)
  (R₂:a7 h₂ env (upd m (Str.ofString x) v)) (ha:frm env a) (hX:∀ b,X b→gat s.heap b=none) (hs:∀ b,b≠a→¬ X b→∀ {o},gat h₁ b=some o→gat h₂ b=some o) :
  a9 w base ent h₂ env H₀ ((cM own d ns).set x (mR fr v)) (upd m (Str.ofString x) v) (aD (Mine.settle d ns σ) x (fr,d))∧Tr s.heap env own h₂ ((cM own d ns).set x (mR fr v)):=by
 have nX:∀ b o,gat s.heap b=some o→¬ X b:=fun b o e q=>bD e (hX b q)
 have S':=S.settle d ns
 have ah:Hot env H₀ (cM own d ns) a:=.inr (.inl ha)
 have k2:∀ b o,gat s.heap b=some o→b≠a→gat h₂ b=some o:=fun b o e q=>hs b q (nX b o e) (hk b o e)
 have kx:∀ b o,gat s.heap b=some o→∃ o',gat h₂ b=some o':=fun b o e=>(Classical.em (b=a)).elim (fun q=>q▸dQ R₂ ha) fun q=>⟨o,k2 b o e q⟩
 have hF:∀ c,mR fr v=some c→fr=true∧v=.ref c:=fun c hc=>by
  cases fr with
  | false=>cases hc
  | true=>
   refine⟨rfl,Fr.rec (motive:=fun v _=>refOf v=some c→v=.ref c) (fun _ _ e=>congrArg Value.ref (Option.some.inj e)) (hfr rfl) hc⟩
 have hN:∀ c,v=.ref c→fr=true→gat s.heap c=none∧¬ H₀ c∧¬ X c∧cx w.params h₁ (fun b=>Hot env H₀ (own.less ns) b∨X b) c d:=fun c e hf=>by
  subst e
  cases hfr hf with
  | mk g o=>
   have z:=o.off rv
   exact⟨g,fun q=>z (.inl (.inl q)),fun q=>z (.inr q),o⟩
 have hnw:∀ c,mR fr v=some c→gat s.heap c=none∧¬ H₀ c∧∃ o,gat h₂ c=some o:=fun c hc=>
  have q:=hN c (hF c hc).2 (hF c hc).1
  ⟨q.1,q.2.1,q.2.2.2.ex.elim fun o e=>⟨o,hs c (fun z=>(dQ S.rep ha).elim fun o' e'=>bD e' (z▸q.1)) q.2.2.1 e⟩⟩
 have hot':∀ b,Hot env H₀ ((cM own d ns).set x (mR fr v)) b→Hot env H₀ (cM own d ns) b∨mR fr v=some b:=fun b q=>q.elim (fun q=>.inl (.inl q)) fun q=>q.elim (fun q=>.inl (.inr (.inl q))) fun q=>q.elim fun y q=>cW q (fun _ q=>.inr q) fun _ q=>.inl (.inr (.inr ⟨y,q⟩))
 refine⟨S'.set R₂ (fun b o hn e=>k2 b o e fun q=>hn (q▸ah)) (fun y c o hy e=>k2 c o e fun q=>(S'.own1 y c hy).2.2 (q▸ha)) kx (fun b o e=>k2 b o (S.keep b o e) fun q=>bD e (q▸S.frE a ha)) hnw (fun hf=>?_) fun hf=>?_,fun b o e hf _=>k2 b o e fun q=>hf (q▸ha),kx,fun y c hc=>cW hc (fun _ q=>.inr (hnw c q).1) fun _ q=>.inl (eR q)⟩
 ·subst hf
  exact (rep_settle (H:=H₀) rv).mono (fun b o hn e=>hs b (fun q=>hn (.inl (q▸ah))) (fun q=>hn (.inr q)) e) fun b o _ q=>.inl ((hot' b q).elim id fun q=>nomatch q)
 ·subst hf
  have hv:∃ c,v=.ref c:=Fr.rec (motive:=fun v _=>∃ c,v=.ref c) (fun _ _=>⟨_,rfl⟩) (hfr rfl)
  refine hv.elim fun c e=>⟨c,by rw[e];rfl,e,?_⟩
  have q:=hN c e rfl
  have hsc:cM own d ns=own.less ns:=by unfold cM;rw[q.2.2.2.scalar];rfl
  have ca:c≠a:=fun z=>(dQ S.rep ha).elim fun o' e'=>bD e' (z▸q.1)
  rw[hsc] at ah hot' ⊢
  exact q.2.2.2.mono (fun o e=>hs c ca q.2.2.1 e) (fun b o hn e=>hs b (fun q=>hn (.inl (q▸ah))) (fun q=>hn (.inr q)) e) fun b o _ z=>(hot' b z).elim (fun z=>.inl (.inl z)) fun z=>.inr (Value.ref.inj ((hF b z).2.symm.trans e))
end
theorem fh{k:KD}{x:Str}(hx:bB k x=true):k x=some .local∨k x=some .cell:=by
 unfold bB at hx
 simp only[Bool.and_eq_true,Bool.or_eq_true,beq_iff_eq] at hx
 exact hx.1

structure Cx(prog:Program)(w:World)(A:Around)(base:Heap)(mg mb:Str→Option Value)(cf:CF):Prop where
 G:GOk mg mb base
 C:dn prog w base mg cf A
 hh:A.handled=none
 hu:np A
section
variable {s:Shared} {env:Env} {H₀:Addr→Prop} {ent:Heap} {own:Own} {m:Str→Option Value} {σ:St} {e:ME} {d:D} {fr:Bool} {v:Expr} {E:Value→Shared→Prop} {Q:Value→Shared→Prop}
theorem jC(Z:Cx prog w A base mg mb cf)(S:a9 w base ent s.heap env H₀ own m σ)(hc:aH env.kindOf v e=true)(hd:evE cf (vis σ) e=some d)
  (k:∀ u h tk dw,KH s.heap h→Rep w.params h (Hot env H₀ (own.less e.names)) u d→Q u { s with heap:=h,toks:=tk,drawn:=dw }):wpAny (model prog w) A (eval v env) Q E s:=by
 exact mH ((mD Z.G Z.C Z.hh Z.hu e).e s env v _ (vis σ) m d E hc (S.cc rfl e.names) hd) k
theorem rH(Z:Cx prog w A base mg mb cf)(S:a9 w base ent s.heap env H₀ own m σ)(hc:aH env.kindOf v e=true)(hd:evF cf (vis σ) e=some (d,fr))
  (k:∀ u h tk dw,KH s.heap h→Rep w.params h (Hot env H₀ (own.less e.names)) u d→(fr=true→Fr w.params s.heap h (Hot env H₀ (own.less e.names)) d u)→Q u { s with heap:=h,toks:=tk,drawn:=dw }) :
  wpAny (model prog w) A (eval v env) Q E s:=by
 exact be ((mD Z.G Z.C Z.hh Z.hu e).f s env v _ (vis σ) m d fr E hc (S.cc rfl e.names) hd) fun u s₁ q=>q.rec fun kp rv hf=>bj.rec (motive:=fun s' _=>Rep w.params s'.heap (Hot env H₀ (own.less e.names)) u d→(fr=true→Fr w.params s.heap s'.heap (Hot env H₀ (own.less e.names)) d u)→Q u s') (fun h tk dw hk rv hf=>k u h tk dw hk rv hf) kp rv hf
theorem run_T(Z:Cx prog w A base mg mb cf)(S:a9 w base ent s.heap env H₀ own m σ)(hc:aH env.kindOf v e=true)(hd:evE cf (vis σ) e=some d){b:Bool}(ht:br d=some b){Q:Bool→Shared→Prop}
  (k:∀ h tk dw,KH s.heap h→Q b { s with heap:=h,toks:=tk,drawn:=dw }):wpAny (model prog w) A (isTrue v env (eval v env)) Q E s:=by
 exact be ((mD Z.G Z.C Z.hh Z.hu e).t s env v _ (vis σ) m d b E hc (S.cc rfl e.names) hd ht) fun u s₁ q=>bj.rec (motive:=fun s' _=>Q u s') (fun h tk dw hk=>q.e▸k h tk dw hk) q.k
end
theorem isComp_inv{e:ME}{C:ME→Prop}(h:e.isComp=true)(k:∀ elt x src cs,C (.comp elt x src cs)):C e:=ME.comp.elim (motive_1:=C) e (of_decide_eq_true h) k
theorem xi_assign{x:String}{e:ME}{σ:St}{r:Fl×St}{C:Prop}(h:exS cf (.assign x e) σ=some r)(k:∀ d fr,evF cf (vis σ) e=some (d,fr)→(.next,aD (Mine.settle d e.names σ) x (fr,d))=r→C):C:=by
 rw[lR] at h
 cases he:evF cf (vis σ) e with
 | none=>rw[he] at h;exact ak h
 | some p=>rw[he] at h;exact k p.1 p.2 he (Option.some.inj h)
theorem assign_comp(Z:Cx prog w A base mg mb cf){s:Shared}{env:Env}{H₀:Addr→Prop}{ent:Heap}{own:Own}{m:Str→Option Value}{σ:St}{x z:String}{elt src:ME}{cs:List ME}{d:D}{fr:Bool}{v:Expr}{p pos:Pos}{E:Value→Shared→Prop}
  (hst:bB env.kindOf (Str.ofString x)=true) (S:a9 w base ent s.heap env H₀ own m σ) (hd:evF cf (vis σ) (.comp elt z src cs)=some (d,fr)) (hi:qT env.kindOf elt z src cs v)
  (plain:swapsWith v (some (.Name (Str.ofString x) p)) pos.line env=pure false→wpAny (model prog w) A (exec (.Assign [.Name (Str.ofString x) p] v pos) env) (bp w base ent env H₀ s own (.next,aD (Mine.settle d (ME.comp elt z src cs).names σ) x (fr,d))) E s) :
  wpAny (model prog w) A (exec (.Assign [.Name (Str.ofString x) p] v pos) env) (bp w base ent env H₀ s own (.next,aD (Mine.settle d (ME.comp elt z src cs).names σ) x (fr,d))) E s:=by
 obtain @⟨t,py,it,ifs,scope,lp,c1,c2,c3,c4,c5⟩:=hi
 have hsw:∃ b,swapsWith (.ListComp t [⟨.Name (Str.ofString z) py,it,ifs,0⟩] scope lp) (some (.Name (Str.ofString x) p)) pos.line env=pure b:=⟨_,rfl⟩
 obtain⟨b,hsw⟩:=hsw
 cases b with
 | false=>exact plain hsw
 | true=>
  clear plain
  refine d5 hd rfl fun hd hf=>?_
  rw[exec_Assign_Name_used _ _ _ _ hsw]
  refine wpAny_bind (wpAny_standAt (wpAny_bind ?_))
  show wpAny _ A (do let _ ← comprehension (.ListComp t [⟨.Name (Str.ofString z) py,it,ifs,0⟩] scope lp) scope env _ (newList []) false (eval it env) (some (assign (.Name (Str.ofString x) p) env))) _ _ s
  have c:=S.cc (s:=s) rfl (ME.comp elt z src cs).names
  refine wpAny_bind (be (oD (use:=some (assign (.Name (Str.ofString x) p) env)) (Q:=fun _ s'=>bp w base ent env H₀ s own (.next,aD (Mine.settle d (ME.comp elt z src cs).names σ) x (fr,d)) .next s') Z.hh (mD Z.G Z.C Z.hh Z.hu elt).e (mD Z.G Z.C Z.hh Z.hu src).e (all_Cs Z.G Z.C Z.hh Z.hu cs) c1 c2 c3 c4 c5 c hd ?_)
   fun _ s' hq=>wpAny_pure (wpAny_pure hq))
  intro L Cc h' tk dw m' out hdl hL hC hLC hns hown hk
  subst hdl hf
  show wpAny _ A (assign (.Name (Str.ofString x) p) env (.ref L)) _ _ _
  refine wpAny_assign_Name (gx (s:={ s with heap:=h',toks:=tk,drawn:=dw }) (S.rep.keeps hk) (fh hst) fun h₂ tk₂ dw₂ a R₂ ha hs=>?_)
  have ha':frm env a:=ha.imp id fun e=>⟨_,e⟩
  have nfC:¬ frm env Cc:=fun q=>(dQ S.rep q).elim fun o e=>bD e hC
  have hn2:=hns.sameBut hs.s fun q=>nfC (q▸ha')
  refine⟨m',hn2,fun h₃ hs₃=>?_⟩
  have nt:=d6 hn2
  have hLn:gat s.heap L=none:=by
   cases e:gat s.heap L with
   | none=>rfl
   | some o=>exact absurd (hL _ _ e) (Nat.lt_irrefl _)
  have hLo:¬ Hot env H₀ (own.less (ME.comp elt z src cs).names) L:=fun q=>(c.x L q).elim fun b q=>q.elim fun o q=>Nat.lt_irrefl _ (Nat.lt_of_le_of_lt q.1 (hL b o q.2))
  have q:=gZ (fr:=true) (X:=fun b=>b=Cc) (h₁:=h') S hk (hown.rep fun q=>q.elim hLo hLC) (fun _=>⟨hLn,hown⟩) (R₂.keepsAt fun b o hb e=>g1 hs₃ nt b (fun q=>nfC (q▸hb)) e) ha' (fun b q=>q▸hC) fun b hb1 hb2 _ e=>g1 hs₃ nt b hb2 ((hs.g b hb1).trans e)
  exact bp.nx q.2 q.1
theorem iW(Z:Cx prog w A base mg mb cf){s:Shared}{env:Env}{H₀:Addr→Prop}{ent:Heap}{own:Own}{m:Str→Option Value}{σ:St}{x:String}{e:ME}{d:D}{fr:Bool}{v:Expr}{p pos:Pos}{E:Value→Shared→Prop}{Q:Flow→Shared→Prop}
  (hst:bB env.kindOf (Str.ofString x)=true) (hc:aH env.kindOf v e=true) (S:a9 w base ent s.heap env H₀ own m σ) (hd:evF cf (vis σ) e=some (d,fr)) (hsw:swapsWith v (some (.Name (Str.ofString x) p)) pos.line env=pure false)
  (k:∀ u h tk dw,a9 w base ent h env H₀ ((cM own d e.names).set x (mR fr u)) (upd m (Str.ofString x) u) (aD (Mine.settle d e.names σ) x (fr,d))→Tr s.heap env own h ((cM own d e.names).set x (mR fr u))→Q .next { s with heap:=h,toks:=tk,drawn:=dw }):wpAny (model prog w) A (exec (.Assign [.Name (Str.ofString x) p] v pos) env) Q E s:=
 wpAny_Assign_Name (rH Z S hc hd fun u h₁ tk₁ dw₁ hk rv hfr=>gx (s:={ s with heap:=h₁,toks:=tk₁,drawn:=dw₁ }) (S.rep.keeps hk) (fh hst) fun h₂ tk₂ dw₂ a R₂ ha hs=>
  have q:=gZ (X:=fun _=>False) S hk (rv.sub fun _ q=>q.elim id False.elim) (fun hf=>(hfr hf).sub fun _ q=>q.elim id False.elim) R₂ (ha.imp id fun e=>⟨_,e⟩) (fun _ q=>q.elim) fun b hb _ _ e=>(hs.g b hb).trans e
  k u h₂ tk₂ dw₂ q.1 q.2) hsw
theorem ss_assign(Z:Cx prog w A base mg mb cf)(x:String)(e:ME):SS prog w A base cf (.assign x e):=fun s env st H₀ ent own m σ r E hc S hev=>
 xi_assign hev fun d fr hd q=>q▸kk.rec (motive:=fun st _=>wpAny (model prog w) A (exec st env) (bp w base ent env H₀ s own (.next,aD (Mine.settle d e.names σ) x (fr,d))) E s) (fun {p v pos} hst hc=>by
  have plain:swapsWith v (some (.Name (Str.ofString x) p)) pos.line env=pure false→wpAny (model prog w) A (exec (.Assign [.Name (Str.ofString x) p] v pos) env) (bp w base ent env H₀ s own (.next,aD (Mine.settle d e.names σ) x (fr,d))) E s:=fun hsw=>
   iW Z hst hc S hd hsw fun u h tk dw q1 q2=>bp.nx q2 q1
  cases hcm:e.isComp with
  | false=>exact plain ((n3 hc).swap hcm _ _ _)
  | true=>exact isComp_inv (C:=fun e=>aH env.kindOf v e=true→evF cf (vis σ) e=some (d,fr)→(_→wpAny (model prog w) A (exec (.Assign [.Name (Str.ofString x) p] v pos) env) (bp w base ent env H₀ s own (.next,aD (Mine.settle d e.names σ) x (fr,d))) E s)→wpAny (model prog w) A (exec (.Assign [.Name (Str.ofString x) p] v pos) env) (bp w base ent env H₀ s own (.next,aD (Mine.settle d e.names σ) x (fr,d))) E s) hcm (fun elt z src cs hc hd plain=>assign_comp Z hst S hd (kW hc) plain) hc hd plain) (kX hc)
end
end Mine
namespace Mine
open PySem PySem.SeqAt
set_option maxRecDepth 100000

theorem l8:Manifest.owners.lookup (String.ofList ['d','e','s','r','e','v','e','r'].reverse)=some Manifest.sig_reversed:=by kernel_rfl
theorem cK:Slot "reversed" "__next__" "reversed.__next__":=
 .of (owner:="reversed") (n:="__next__") (by rw[typeLookup_type,builtinLookup_eq_fast];kernel_rfl) (by decide +kernel) (by decide +kernel) (by decide +kernel)
  (by first | exact .inl (by decide +kernel) | exact .inr (by decide +kernel)) (by rw[isSubtype_type];kernel_rfl)
theorem gg:entryFor table "reversed.__next__"=some Builtin.«reversed.__next__»:=entryFor_of_tree (by kernel_rfl)
theorem gU(a:Value):argsOk "reversed.__next__" ⟨[a],[]⟩:=by
 unfold argsOk;rw[signature?_of (id:="reversed.__next__") (n:=['_','_','t','x','e','n','_','_']) (o:=['d','e','s','r','e','v','e','r']) (by kernel_rfl) l8];kernel_rfl
theorem gM:Slot "reversed" "__iter__" "reversed.__iter__":=
 .of (owner:="reversed") (n:="__iter__") (by rw[typeLookup_type,builtinLookup_eq_fast];kernel_rfl) (by decide +kernel) (by decide +kernel) (by decide +kernel)
  (by first | exact .inl (by decide +kernel) | exact .inr (by decide +kernel)) (by rw[isSubtype_type];kernel_rfl)
theorem args_rev_iter(a:Value):argsOk "reversed.__iter__" ⟨[a],[]⟩:=by
 unfold argsOk;rw[signature?_of (id:="reversed.__iter__") (n:=['_','_','r','e','t','i','_','_']) (o:=['d','e','s','r','e','v','e','r']) (by kernel_rfl) l8];kernel_rfl
theorem entry_rev_iter:entryFor table "reversed.__iter__"=some Builtin.«dict_keyiterator.__iter__»:=
 entryFor_alias (id':="dict_keyiterator.__iter__") (by kernel_rfl) (by first | rfl | decide +kernel | (unfold String.splitOn;simp +decide [String.splitOnAux])) (by decide +kernel) (by kernel_rfl)
theorem lookup_tuple_reversed:typeLookup (.type "tuple") "__reversed__"=pure none:=by rw[typeLookup_type,builtinLookup_eq_fast];kernel_rfl

noncomputable abbrev rvO(l:Addr)(i:Int):Obj:={ cls:=.type "reversed",data:=.fields #[.ref l,rawInt i] }
theorem gN:Slot "reversed" "__init__" "object.__init__":=
 .of (owner:="object") (n:="__init__") (by rw[typeLookup_type,builtinLookup_eq_fast];kernel_rfl) (by decide +kernel) (by decide +kernel) (by decide +kernel)
  (by first | exact .inl (by decide +kernel) | exact .inr (by decide +kernel)) (by rw[isSubtype_type];kernel_rfl)
theorem called_rev:TypeCalled "reversed" "reversed.__new__" "object.__init__":=
 ⟨by decide +kernel,F.create_reversed,⟨_,_,F.mro_reversed⟩,F.made_reversed,F.plain_reversed_new,F.sub_reversed_self,gN⟩

section
variable {prog:Program} {w:World} {A:Around} {E:Value→Shared→Prop} {s:Shared}
theorem code_rev_tuple{l:Addr}{items:Array Value}{Q₁:Value→Shared→Prop}(hl:PyProof.Rows.IsTup s.heap l items)(hz:(items.size:Int)<2 ^ 63)
  (h:∀ tk,Q₁ (.ref s.heap.objs.size) { s with heap:=s.heap.push (rvO l ((items.size:Int) - 1)),toks:=tk }) :
  codeAny (model prog w) A (.call (.builtin "reversed.__new__") ⟨[.type "reversed",.ref l],[]⟩) (wants Q₁ E) s:=by
 have hT:s.TypeIs (.ref l) "tuple":=let ⟨o,ho,hc,_⟩:=hl;⟨o,ho,hc⟩
 refine codeAny_of_tree ?_
 show wpAny _ A.in1 (do checkBuiltinCall "reversed.__new__" ⟨[.type "reversed",.ref l],[]⟩;again (.builtin "reversed.__new__" ⟨[.type "reversed",.ref l],[]⟩)) _ _ s
 refine wpAny_bind (wpAny_of_eq (F.newCall_reversed_1 _) (wpAny_pure ⟨plainId_quiet F.plain_reversed_new _,codeAny_builtin F.entry_reversed_new ?_⟩))
 rw[Around.under_plainId F.plain_reversed_new _]
 unfold Builtin.«reversed.__new__»
 refine wpAny_bind (wpAny_of_eq (newClass_reversed _) ?_)
 try dsimp only
 refine wpAny_bind (wpAny_of_eq (a:=()) (by first | rfl | kernel_rfl) ?_)
 refine wpAny_bind (wpAny_of_eq (a:=()) (by first | rfl | kernel_rfl) ?_)
 try dsimp only
 refine wpAny_bind (wpAny_specialOf hT lookup_tuple_reversed ?_)
 try dsimp only
 refine wpAny_bind (wpAny_bind (wpAny_isInstance (T:="tuple") (b:=false) hT (by rw[isSubtype_type];kernel_rfl) ?_))
 rw[if_neg Bool.false_ne_true]
 refine wpAny_bind (wpAny_specialOf hT F.slot_tuple_getitem.lookup ?_)
 dsimp only
 rw[if_pos (by decide)]
 refine wpAny_pure ?_
 rw[if_neg (by decide)]
 refine wpAny_bind (PyProof.Rows.len_tuple hl hz ?_)
 refine wpAny_bind (wpAny_of_eq (a:=some (items.size:Int)) rfl ?_)
 dsimp only
 refine wpAny_bind ?_
 refine wpAny_newObj_type (data:=.fields #[.ref l,rawInt ((items.size:Int) - 1)]) (wpAny_pure (h _)) (by size_fits)
theorem call_rev_tuple{l:Addr}{items:Array Value}{Q:Value→Shared→Prop}(hl:PyProof.Rows.IsTup s.heap l items)(hz:(items.size:Int)<2 ^ 63)
  (h:∀ tk,Q (.ref s.heap.objs.size) { s with heap:=s.heap.push (rvO l ((items.size:Int) - 1)),toks:=tk }):wpAny (model prog w) A (call (.type "reversed") [.ref l]) Q E s:=by
 refine callType_codes (Q₁:=fun obj s₁=>∃ tk,obj=.ref s.heap.objs.size∧s₁={ s with heap:=s.heap.push (rvO l ((items.size:Int) - 1)),toks:=tk }) called_rev (F.typeCall_reversed_1 _) F.entry_object_init (code_rev_tuple hl hz fun tk=>⟨tk,rfl,rfl⟩) ?_
 rintro obj s₁ ⟨tk,rfl,rfl⟩
 have hT:Shared.TypeIs { s with heap:=s.heap.push (rvO l ((items.size:Int) - 1)),toks:=tk } (.ref s.heap.objs.size) "reversed":=⟨_,Heap.get?_push_size _ rfl,rfl⟩
 refine⟨hT,F.args_object_init_2 _ _,?_⟩
 exact object_init_meets gN.lookup F.made_reversed (by decide) prog w A.in1 _ _ ⟨hT,rfl,h tk⟩
end
end Mine
namespace Mine
open PySem PySem.SeqAt

section
variable {prog:Program} {w:World} {A:Around} {E:Value→Shared→Prop} {s:Shared}
noncomputable def jW(h:Heap)(a l:Addr)(i:Int):Prop:=∃ o,h.get? a=some o∧o.cls=.type "reversed"∧o.data=.fields #[.ref l,rawInt i]
theorem jW.typeIs{a l:Addr}{i:Int}(x:jW s.heap a l i):s.TypeIs (.ref a) "reversed":=let ⟨o,ho,hc,_⟩:=x;⟨o,ho,hc⟩

theorem next_rv_item{it l:Addr}{i:Nat}{items:Array Value}{x:Value}{Q:Option Value→Shared→Prop}(hit:jW s.heap it l (i:Int))(hl:PyProof.Rows.IsTup s.heap l items)(hz:(items.size:Int)<2 ^ 63)(hx:items[i]?=some x)
  (hQ:∀ h' tk,jW h' it l ((i:Int) - 1)→Heap.SameBut it s.heap h'→Q (some x) { s with heap:=h',toks:=tk }):wpAny (model prog w) A (pyNext (.ref it)) Q E s:=by
 obtain⟨o,ho,hc,hd⟩:=id hit
 have hi:i<items.size:=(Array.getElem?_eq_some_iff.mp hx).1
 have hT:s.TypeIs (.ref l) "tuple":=let ⟨o,ho,hc,_⟩:=hl;⟨o,ho,hc⟩
 unfold pyNext
 refine wpAny_bind (wpAny_attempt (wpAny_callSpecial?_slot (name:=Str.ofString "__next__") hit.typeIs cK
  (wpAny_call_entry cK hit.typeIs gg ?_ (gU _))))
 unfold Builtin.«reversed.__next__»
 refine wpAny_bind (wpAny_of_eq (a:=(Value.ref it,[])) rfl ?_)
 try dsimp only
 refine wpAny_bind (wpAny_field ho hd (x:=.ref l) rfl ?_)
 refine wpAny_bind (wpAny_field ho hd (x:=rawInt (i:Int)) rfl ?_)
 show wpAny _ _ (if (i:Int)<0 then _ else _) _ _ s
 rw[if_neg (by omega)]
 refine wpAny_bind (wpAny_specialOf hT F.slot_tuple_getitem.lookup ?_)
 rw[if_neg (by simp)]
 refine wpAny_bind (wpAny_mkInt ?_)
 refine wpAny_bind (wpAny_attempt (PyProof.Rows.getItem_tuple (j:=i) hl (by omega) (by omega) ?_ hx ?_))
 ·have h1:idx (i:Int) items.size=some i:=by unfold idx;rw[if_pos (by omega)];rfl
  exact (m0 h1).1
 ·refine wpAny_bind (wpAny_field ho hd (x:=rawInt (i:Int)) rfl ?_)
  show wpAny _ _ (setField (.ref it) 1 (rawInt ((i:Int) - 1)) >>= _) _ _ _
  refine wpAny_bind (wpAny_setField ho hd (by simp) ?_)
  refine wpAny_pure ⟨x,rfl,wpAny_pure (hQ _ _ ?_ (Heap.SameBut.update ..))⟩
  exact⟨_,Heap.get?_update_self _ ho (Obj.isFreed_of_fields (Obj.data_mapFields hd _)),(Obj.cls_mapFields ..).trans hc,by
   rw[Obj.data_mapFields hd];simp⟩
theorem next_rv_end{it l:Addr}{Q:Option Value→Shared→Prop}(hh:A.handled=none)(hit:jW s.heap it l (-1))
  (hQ:∀ h',Heap.ExtBut it s.heap h'→Q none { s with heap:=h' }):wpAny (model prog w) A (pyNext (.ref it)) Q E s:=by
 obtain⟨o,ho,hc,hd⟩:=id hit
 unfold pyNext
 refine wpAny_bind (wpAny_attempt (wpAny_callSpecial?_slot (name:=Str.ofString "__next__") hit.typeIs cK
  (wpAny_call_entry cK hit.typeIs gg ?_ (gU _))))
 unfold Builtin.«reversed.__next__»
 refine wpAny_bind (wpAny_of_eq (a:=(Value.ref it,[])) rfl ?_)
 try dsimp only
 refine wpAny_bind (wpAny_field ho hd (x:=.ref l) rfl ?_)
 refine wpAny_bind (wpAny_field ho hd (x:=rawInt (-1)) rfl ?_)
 show wpAny _ _ (if (-1:Int)<0 then _ else _) _ _ s
 rw[if_pos (by decide)]
 refine wpAny_bind (wpAny_rule ?_)
 refine wpAny_bind (wpAny_bind (wpAny_setField ho hd (by simp) ?_))
 have ho2:=Heap.get?_update_self (Obj.mapFields (fun vs=>vs.setIfInBounds 1 (rawInt (-1)))) ho (Obj.isFreed_of_fields (Obj.data_mapFields hd _))
 refine wpAny_setField ho2 (Obj.data_mapFields hd _) (by simp) ?_
 first
 | show wpAny _ _ (newExc (.type "StopIteration") [] >>= _) _ _ _
 | (refine wpAny_bind ?_;show wpAny _ _ (newExc (.type "StopIteration") [] >>= _) _ _ _)
 refine wpAny_bind ?_
 simp only[newExc,newTuple]
 refine wpAny_bind (wpAny_newObj_type ?_ (by size_fits))
 refine wpAny_bind (m:=firstArgMember _ _) (wpAny_of_eq (a:=Value.none) (by first | rfl | (simp only[firstArgMember];rfl)) ?_)
 refine wpAny_newObj_type ?_ (by size_fits)
 simp only[raiseNew]
 refine wpAny_bind (wpAny_handled ?_)
 rw[show A.in1.handled=none from hh]
 refine wpAny_bind (wpAny_pure (wpAny_throw ?_))
 refine wpAny_bind (wpAny_isInstance (T:="StopIteration") (b:=true) ⟨_,Heap.get?_push_size _ rfl,rfl⟩ isSubtype_stop ?_)
 exact wpAny_pure (hQ _ (((((Heap.SameBut.update ..).trans (Heap.SameBut.update ..)).extBut).push _).push _))
end
end Mine
namespace Mine
open PySem PySem.SeqAt

section
variable {prog:Program} {w:World} {A:Around} {E:Value→Shared→Prop} {s:Shared}
theorem p4{it l:Addr}{i:Int}{Q:Value→Shared→Prop}(hit:jW s.heap it l i)(h:Q (.ref it) s):wpAny (model prog w) A (pyIter (.ref it)) Q E s:=by
 refine wpAny_pyIter_slot hit.typeIs gM (wpAny_call_entry gM hit.typeIs entry_rev_iter ?_ (args_rev_iter _))
 show wpAny _ _ (ret (.ref it)) _ _ s
 exact wpAny_pure ⟨_,rfl,"reversed",_,hit.typeIs,cK.lookup,h⟩
theorem jW.at{h h':Heap}{a l:Addr}{i:Int}(x:jW h a l i)(e:∀ o,h.get? a=some o→h'.get? a=some o):jW h' a l i:=let ⟨o,ho,r⟩:=x;⟨o,e _ ho,r⟩
theorem kU{h h':Heap}{a:Addr}{vs:Array Value}(x:PyProof.Rows.IsTup h a vs)(e:∀ o,h.get? a=some o→h'.get? a=some o):PyProof.Rows.IsTup h' a vs:=let ⟨o,ho,r⟩:=x;⟨o,e _ ho,r⟩

theorem walks_rv(hh:A.handled=none)(I l:Addr)(hne:l≠I)(items:Array Value)(hz:(items.size:Int)<2 ^ 63) :
  Walks prog w A I [I,l] [I] items.size (fun i v=>items[items.size - 1 - i]?=some v) (fun i h=>i≤items.size∧jW h I l ((items.size:Int) - 1 - (i:Int))∧PyProof.Rows.IsTup h l items) where
 sub:=fun b hb=>by simp at hb;simp[hb]
 frame:=fun _ _ _ x hk=>⟨x.1,x.2.1.at fun o e=>hk I (by simp) o e,kU x.2.2 fun o e=>hk l (by simp) o e⟩
 item:=fun i s Q E hi x hQ=>by
  have e:(items.size:Int) - 1 - (i:Int)=((items.size - 1 - i:Nat):Int):=by omega
  have hit:=x.2.1
  rw[e] at hit
  have hx:items[items.size - 1 - i]?=some (items[items.size - 1 - i]'(by omega)):=Array.getElem?_eq_getElem (by omega)
  refine next_rv_item hit x.2.2 hz hx fun h' tk hit' hs'=>?_
  have e2:((items.size - 1 - i:Nat):Int) - 1=(items.size:Int) - 1 - ((i+1:Nat):Int):=by omega
  rw[e2] at hit'
  exact hQ _ h' tk hx ⟨hi,hit',kU x.2.2 fun o eo=>(hs'.2 l hne).trans eo⟩ fun b o hb eo=>hs'.extBut b o (fun h=>hb (by simp[h])) eo
 done:=fun s Q E x hQ=>by
  have e:(items.size:Int) - 1 - (items.size:Int)=-1:=by omega
  have hit:=x.2.1
  rw[e] at hit
  exact next_rv_end hh hit fun h' he'=>hQ h' s.toks fun b o hb eo=>he' b o (fun h=>hb (by simp[h])) eo
 self:=fun _ _ _ _ x hQ=>p4 x.2.1 hQ
end
end Mine
namespace Mine
open PySem PySem.SeqAt

section
variable {prog:Program} {w:World} {A:Around} {E:Value→Shared→Prop} {s:Shared} {H:Addr→Prop}
theorem item_rev{P:Params}{h:Heap}{vs:Array Value}{ds:List D}(hr:aq P h H vs.toList ds){i:Nat}{v:Value}(hi:i<ds.reverse.length)(hv:vs[ds.reverse.length - 1 - i]?=some v):∃ d,ds.reverse[i]?=some d∧Rep P h H v d:=by
 rw[List.length_reverse] at hi hv
 rw[List.getElem?_reverse hi]
 exact p5 hr (Nat.lt_of_le_of_lt (Nat.sub_le _ _) (Nat.sub_lt (Nat.lt_of_le_of_lt (Nat.zero_le _) hi) Nat.one_pos)) hv
theorem iter_rvs{x:Value}{ds:List D}(hx:Rep w.params s.heap H x (.tup ds))(hh:A.handled=none) :
  wpAny (model prog w) A (call (.type "reversed") [x]) (fun v s₂=>wpAny (model prog w) A (pyIter v) (lI prog w A s H ds.reverse) E s₂) E s:=by
 refine hx.tupE fun a vs n ho hn hl hr=>?_
 have e:vs.size=ds.reverse.length:=hr.size.trans List.length_reverse.symm
 have hz:(vs.size:Int)<2 ^ 63:=by rw[hr.size];exact mU hl
 refine call_rev_tuple (dP ho) hz fun tk=>?_
 have hI:jW (s.heap.push (rvO a ((vs.size:Int) - 1))) s.heap.objs.size a ((vs.size:Int) - 1):=⟨_,Heap.get?_push_size _ rfl,rfl,rfl⟩
 have W:Walks prog w A s.heap.objs.size [s.heap.objs.size,a] [s.heap.objs.size] ds.reverse.length (fun i v=>vs[ds.reverse.length - 1 - i]?=some v) (fun i h=>i≤ds.reverse.length∧jW h s.heap.objs.size a ((ds.reverse.length:Int) - 1 - (i:Int))∧PyProof.Rows.IsTup h a vs):=e▸walks_rv hh s.heap.objs.size a (Nat.ne_of_lt (Heap.lt_size ho)) vs hz
 refine p4 (s:={ s with heap:=s.heap.push (rvO a ((vs.size:Int) - 1)),toks:=tk }) hI ⟨.mk _ _ _ fun _ _ e=>Heap.gt_push_of_some _ e,b9 _,⟨_,Heap.gt_push_size _ rfl⟩,W,
  ⟨Nat.zero_le _,?_,kU (dP ho) fun o e=>Heap.get?_push_of_some _ e⟩,fun b hb=>d4 hb .inl fun e=>.inr (e▸⟨hn,_,Heap.gt_of ho⟩),fun i v hi hv=>item_rev hr hi hv,fun i h st=>st.2.1.elim fun o q=>⟨o,Heap.gt_of q.1 (cS q.2.1 (by decide))⟩,
  fun b hb i h o st e=>d4 hb (fun q=>st.2.1.elim fun o' z=>ed (q▸z.1) e (cS z.2.1 (by decide))) fun q=>st.2.2.elim fun o' z=>ed (q▸z.1) e (cS z.2.1 (by decide))⟩
 rw[Int.natCast_zero,Int.sub_zero,← e]
 exact hI
end
end Mine
namespace Mine
open PySem PySem.SeqAt

theorem k5:∀ (σ:St),freeze [] σ=σ
 | []=>rfl
 | (x,(o,d))::r=>by
  have:=k5 r
  unfold freeze at this ⊢
  rw[List.map_cons,this]
  simp
theorem settle_nil(d:D)(σ:St):settle d [] σ=σ:=by
 unfold settle
 split
 ·rfl
 ·exact k5 σ
theorem kL(own:Own):own.less []=own:=by
 funext x
 simp[Own.less]

section
variable {prog:Program} {w:World} {A:Around} {base:Heap} {mg mb:Str→Option Value} {cf:CF}
variable {ent h h':Heap} {env:Env} {H₀:Addr→Prop} {own:Own} {m:Str→Option Value} {σ:St} {I:Addr}

theorem qs{b:Addr}(q:Hot env (fun b=>H₀ b∨b=I) own b):Hot env H₀ own b∨b=I:=q.elim (fun q=>q.elim (fun q=>.inl (.inl q)) .inr) fun q=>.inl (.inr q)
theorem hot_sub{b:Addr}(q:Hot env H₀ own b):Hot env (fun b=>H₀ b∨b=I) own b:=q.imp .inl id
theorem a9.addH(S:a9 w base ent h env H₀ own m σ)(hk:KH h h')(hI:gat h I=none)(hIx:∃ o,gat h' I=some o) :
  a9 w base ent h' env (fun b=>H₀ b∨b=I) own m σ:=
 S.to (S.rep.keeps hk) (fun b o _ e=>hk b o e) (fun _ a o _ e=>hk a o e) (fun b o e q=>(qs q).elim id fun q=>bD e (q▸hI)) (fun b o e=>hk b o (S.keep b o e)) (fun b q=>q.elim (fun q=>(S.hot.ex b (.inl q)).elim fun b' z=>z.elim fun o z=>⟨b',o,z.1,hk _ _ z.2⟩) fun q=>hIx.elim fun o z=>⟨I,o,q▸Nat.le_refl _,z⟩)
  fun x a e q=>q.elim (S.own1 x a e).2.1 fun q=>(S.ownx x a e).elim fun o z=>bD z (q▸hI)
theorem rW(hk:Mv I h h'):jV h (Hot env (fun b=>H₀ b∨b=I) own) h':=fun b o hn e=>hk b o (fun q=>hn (q▸.inl (.inr rfl))) e
theorem a9.turnI(S:a9 w base ent h env (fun b=>H₀ b∨b=I) own m σ)(hk:Mv I h h')(hIx:∃ o,gat h' I=some o)(hf:¬ frm env I)(hE:gat ent I=none) :
  a9 w base ent h' env (fun b=>H₀ b∨b=I) own m σ:=
 S.to (S.rep.keepsAt fun b o hb e=>hk b o (fun q=>hf (q▸hb)) e) (rW hk) (fun x a o hx e=>hk a o (fun q=>(S.own1 x a hx).2.1 (.inr q)) e) (fun _ _ _ q=>q) (fun b o e=>hk b o (fun q=>bD e (q▸hE)) (S.keep b o e))
  (fun b q=>(S.hot.ex b (.inl q)).elim fun b' z=>z.elim fun o z=>(Classical.em (b'=I)).elim (fun e=>hIx.elim fun o' y=>⟨I,o',e▸z.1,y⟩) fun e=>⟨b',o,z.1,hk b' o e z.2⟩) fun x a e=>(S.own1 x a e).2.1
theorem a9.leave(S:a9 w base ent h env (fun b=>H₀ b∨b=I) own m σ)(hk:Mv I h h')(hx:Ex h' H₀)(hf:¬ frm env I)(hE:gat ent I=none) :
  a9 w base ent h' env H₀ own m σ:=
 S.to (S.rep.keepsAt fun b o hb e=>hk b o (fun q=>hf (q▸hb)) e) (rW hk) (fun x a o hx e=>hk a o (fun q=>(S.own1 x a hx).2.1 (.inr q)) e) (fun _ _ _ q=>hot_sub q) (fun b o e=>hk b o (fun q=>bD e (q▸hE)) (S.keep b o e)) hx fun x a e q=>(S.own1 x a e).2.1 (.inl q)

theorem xi_ret{e:ME}{r:Fl×St}{C:Prop}(h:exS cf (.ret e) σ=some r)(kv:∀ x d,e=.var x→σ.lookup x=some (true,d)→(.ret true d,σ)=r→C)(k:∀ d fr,evF cf (vis σ) e=some (d,fr)→(.ret fr d,σ)=r→C):C:=by
 rw[oW] at h
 cases hv:e.varOf with
 | none=>
  rw[hv] at h
  dsimp only at h
  cases he:evF cf (vis σ) e with
  | none=>rw[he] at h;exact ak h
  | some p=>rw[he] at h;exact k p.1 p.2 he (Option.some.inj h)
 | some x=>
  rw[hv] at h
  dsimp only at h
  cases he:σ.lookup x with
  | none=>rw[he] at h;exact ak h
  | some p=>
   rw[he] at h
   obtain⟨fr,d⟩:=p
   refine varOf_inv (C:=fun e=>e=.var x) hv rfl |> fun q=>?_
   cases fr with
   | true=>exact kv x d q he (Option.some.inj h)
   | false=>exact k d false (q.symm▸by show (evE cf (vis σ) (.var x)).map _=_;rw[eJ,bE,he];rfl) (Option.some.inj h)
theorem ss_ret(Z:Cx prog w A base mg mb cf)(e:ME):SS prog w A base cf (.ret e):=fun s env st H₀ ent own m σ r E hc S hev=>
 IRet.rec (motive:=fun st _=>wpAny (model prog w) A (exec st env) (bp w base ent env H₀ s own r) E s) (fun {v pos} hc=>xi_ret hev (fun x d q hd er=>by
  subst er q
  refine oU.rec (motive:=fun v _=>wpAny (model prog w) A (exec (.Return (some v) pos) env) _ E s) (fun hv=>(S.owned x d hd).elim fun a q=>wpAny_Return_some (ei S.rep hv q.2.1 ?_)) (fi hc)
  have o:=q.2.2.sub (H':=H₀) fun _ q=>.inl q
  have g:=S.own1 x a q.1
  exact bp.rt (tk:=s.toks) (dw:=s.drawn) (.of (fun _ _ e=>e) fun _ _ e=>nomatch e) ⟨o.rep g.2.1,S.keep,fun _=>⟨g.1,o⟩⟩)
  fun d fr hd er=>er▸wpAny_Return_some (rH Z S hc hd fun u h₁ tk₁ dw₁ hk rv hfr=>bp.rt (.of hk fun _ _ e=>nomatch e) ⟨rv.sub fun _ q=>.inl q,fun b o e=>hk b o (S.keep b o e),fun hf=>((hfr hf).old S.keep).sub fun _ q=>.inl q⟩)) (inv_ret hc)
theorem mI{s:Heap}{own own₁:Own}{x:String}{L:Addr}{h₁ h₂:Heap}(ho:∀ x a,own₁ x=some a→own x=some a)(hk:KH s h₁)(hx:own₁ x=some L)(hs:∀ b,b≠L→∀ {o},gat h₁ b=some o→gat h₂ b=some o)(hL:∃ o,gat h₂ L=some o):Tr s env own h₂ own₁:=
 ⟨fun b o e _ hn=>hs b (fun q=>hn x (ho x b (q▸hx))) (hk b o e),fun b o e=>by
  by_cases q:b=L
  ·exact q▸hL
  ·exact⟨o,hs b q (hk b o e)⟩,fun y a e=>.inl (ho y a e)⟩
theorem n9{k:KD}{x:Str}(h:bB k x=true):eA k x=true:=bN h fun _ h=>h
theorem xi_append{x:String}{e:ME}{r:Fl×St}{C:Prop}(h:exS cf (.append x e) σ=some r)(k:∀ d ds,evE cf (vis σ) e=some d→(Mine.settle d e.names σ).lookup x=some (true,.list ds)→ds.length<big→(.next,aD (Mine.settle d e.names σ) x (true,.list (ds++[d])))=r→C):C:=
 bi (a:=evE cf (vis σ) e) (f:=fun d=>match (Mine.settle d e.names σ).lookup x with
  | some (true,.list ds)=>if ds.length<big then some (Fl.next,aD (Mine.settle d e.names σ) x (true,.list (ds++[d]))) else Option.none
  | _=>Option.none) h fun d hd h=>by
  cases hl:(Mine.settle d e.names σ).lookup x with
  | none=>rw[hl] at h;exact ak h
  | some p=>
   rw[hl] at h
   obtain⟨o,dd⟩:=p
   cases o with
   | false=>exact ak h
   | true=>cases dd with
    | list ds=>exact aV h fun hb e=>k d ds hd hl hb e
    | _=>exact ak h
theorem ss_append(Z:Cx prog w A base mg mb cf)(x:String)(e:ME):SS prog w A base cf (.append x e):=fun s env st H₀ ent own m σ r E hc S hev=>
 xi_append hev fun d ds hd hds hlen er=>er▸nr.rec (motive:=fun st _=>wpAny (model prog w) A (exec st env) (bp w base ent env H₀ s own (.next,aD (Mine.settle d e.names σ) x (true,.list (ds++[d])))) E s) (fun {yp ap a p pos} hst hline hc=>by
  have S':=S.settle d e.names
  refine (S'.owned x _ hds).elim fun L q=>fq.rec (motive:=fun _=>_) (fun {vs n} q4 q5 q6=>?_) q.2.2
  have hstar:starEach [a] env=[(false,eval a env)]:=gy hc
  refine wpAny_Expr (wpAny_Call_append rfl (by rw[hstar];rfl) (by simpa using hline) (by rw[hstar];rfl) (ei S.rep (n9 hst) q.2.1 ⟨L,vs,rfl,⟨_,n,q4,rfl,rfl,rfl⟩,?_⟩)) (by unfold interactive;rw[S.rep.kind];rfl) rfl
  refine jC Z S hc hd fun u h₁ tk₁ dw₁ hk rv=>?_
  have q4':=Heap.of_gt (hk _ _ (Heap.gt_of q4))
  refine wpAny_list_append_plain (items:=vs) ⟨n,q4'⟩ (fun h₂ hl₂ hs₂=>?_) (q6.size.symm▸q5)
  have hl₂':∃ n',h₂.get? L=some (eG (vs.push u) n'):=hl₂
  have m1:Mv L h₁ h₂:=fun b o hb e=>g1 hs₂ (bz q4') b hb e
  have LH:∀ b,(Hot env H₀ (cM own d e.names) b∨b=L)→Hot env H₀ (cM own d e.names) b:=fun b q'=>q'.elim id fun q'=>q'▸.inr (.inr ⟨x,q.1⟩)
  have own2:fq w.params h₂ (Hot env H₀ (cM own d e.names)) L (ds++[d]):=hl₂'.elim fun n' e'=>⟨e',by rw[List.length_append];exact hlen,by
   rw[Array.toList_push]
   exact ((q6.keeps hk).append (.cons ((fJ rv).sub LH) .nil)).mono (fun b o hn e=>m1 b o (fun q=>hn (.inr q)) e) fun _ _ _ q=>q⟩
  exact bp.nx (mI (fun _ _ e=>eR e) hk q.1 (fun b hb _ e=>m1 b _ hb e) (cx.ex (d:=.list _) own2)) ((S'.keeps hk).turn hds q.1 hs₂ (d:=.list _) own2)) (inv_append hc)
theorem xi_setk{x:String}{ke e:ME}{r:Fl×St}{C:Prop}(h:exS cf (.setk x ke e) σ=some r)(k:∀ d dk ks vs,evE cf (vis σ) e=some d→evE cf (vis σ) ke=some dk→(Mine.settle dk ke.names (Mine.settle d e.names σ)).lookup x=some (true,.dict ks vs)→cB dk ks=true→ks.length<big →
  (.next,aD (Mine.settle dk ke.names (Mine.settle d e.names σ)) x (true,.dict (cw ks vs dk d).1 (cw ks vs dk d).2))=r→C):C:=
 bi (a:=evE cf (vis σ) e) (f:=fun d=>oE (evE cf (vis σ) ke) fun dk=>match (Mine.settle dk ke.names (Mine.settle d e.names σ)).lookup x with
  | some (true,.dict ks vs)=>if (cB dk ks&&decide (ks.length<big))=true then some (Fl.next,aD (Mine.settle dk ke.names (Mine.settle d e.names σ)) x (true,.dict (cw ks vs dk d).1 (cw ks vs dk d).2)) else Option.none
  | _=>Option.none) h fun d hd h=>bi h fun dk hdk h=>by
  cases hl:(Mine.settle dk ke.names (Mine.settle d e.names σ)).lookup x with
  | none=>rw[hl] at h;exact ak h
  | some p=>
   rw[hl] at h
   obtain⟨o,dd⟩:=p
   cases o with
   | false=>exact ak h
   | true=>cases dd with
    | dict ks vs=>exact aV h fun hb e=>bN hb fun h1 h2=>k d dk ks vs hd hdk hl h1 (of_decide_eq_true h2) e
    | _=>exact ak h
theorem less_less{own:Own}{d:D}{ns ms:List String}:∀ x a,(cM own d ns).less ms x=some a→own.less ms x=some a:=fun x a e=>by
 unfold Own.less at e ⊢;split at e <;> first | cases e | (rename_i hx;rw[if_neg hx];exact eR e)
theorem ss_setk(Z:Cx prog w A base mg mb cf)(x:String)(ke e:ME):SS prog w A base cf (.setk x ke e):=fun s env st H₀ ent own m σ r E hc S hev=>
 xi_setk hev fun d dk ks vs hd hdk hds hc1 hc2 er=>er▸sy.rec (motive:=fun st _=>wpAny (model prog w) A (exec st env) (bp w base ent env H₀ s own (.next,aD (Mine.settle dk ke.names (Mine.settle d e.names σ)) x (true,.dict (cw ks vs dk d).1 (cw ks vs dk d).2))) E s) (fun {yp i p v pos} hst hci hcv=>by
  have S':=(S.settle d e.names).settle dk ke.names
  refine (S'.owned x _ hds).elim fun L q=>wpAny_Assign_Subscript (jC Z S hcv hd fun u h₁ tk₁ dw₁ hk rv=>ei (s:={ s with heap:=h₁,toks:=tk₁,drawn:=dw₁ }) (S.rep.keeps hk) (n9 hst) q.2.1 ?_) (by cases v <;> rfl)
  have Sk:a9 w base ent ({ s with heap:=h₁,toks:=tk₁,drawn:=dw₁ }:Shared).heap env H₀ own m σ:=S.keeps hk
  refine jC Z Sk hci hdk fun kv h₂ tk₂ dw₂ hk2 rk=>?_
  have k02:KH s.heap h₂:=fun b o e=>hk2 b o (hk b o e)
  have LHot:∀ b,Hot env H₀ (cM (cM own d e.names) dk ke.names) b∨b=L→Hot env H₀ (cM (cM own d e.names) dk ke.names) b:=fun b z=>z.elim id fun z=>z▸.inr (.inr ⟨x,q.1⟩)
  have So:jT w.params h₂ (Hot env H₀ (cM (cM own d e.names) dk ke.names)) L ks vs:=(S'.keeps k02).ownAt hds q.1
  refine jB (s:={ s with heap:=h₂,toks:=tk₂,drawn:=dw₂ }) Z.hu.u1 So ((fJ (rk.sub fun _ q=>q.mono (fun _ q=>q) less_less)).sub LHot) ((fJ rv).mono (fun b o _ e=>hk2 b o e) fun b o _ q=>(LHot b q).mono (fun _ q=>q) fun _ _=>eR) hc1 hc2 fun h' tk dw hs own2=>?_
  have nt:∀ o,h₂.get? L=some o→a8 o=false:=cx.notTab (d:=.dict _ _) So
  exact bp.nx (mI (fun _ a e=>eR (eR e)) k02 q.1 (fun b hb _ e=>g1 hs nt b hb e) (cx.ex (d:=.dict _ _) own2)) ((S'.keeps k02).turn hds q.1 hs (d:=.dict _ _) own2)) (inv_setk hc)
theorem wp_S{M:Model}{s:Shared}{r:Fl×St}{E:Value→Shared→Prop}{c:Sem Flow}{Q:Flow→Shared→Prop}(hq:wpAny M A c (bp w base ent env H₀ s own r) E s)
  (hn:∀ h tk dw own' m,r.1=.next→Tr s.heap env own h own'→a9 w base ent h env H₀ own' m r.2→Q .next { s with heap:=h,toks:=tk,drawn:=dw })
  (hr:∀ h tk dw fr d v,r.1=.ret fr d→Tr s.heap env own h pS→qR w ent h H₀ v fr d→Q (.ret v) { s with heap:=h,toks:=tk,drawn:=dw }):wpAny M A c Q E s:=
 wpAny_mono hq (fun f s' q=>q Q hn hr) fun _ _ e=>e
theorem pF:SSs prog w A base cf []:=fun s env ss H₀ ent own m σ r E hc S hev=>
 jO (C:=fun ss=>wpAny (model prog w) A (execs ss env) (bp w base ent env H₀ s own r) E s) hc (wpAny_execs_nil (Option.some.inj hev▸bp.nx (tk:=s.toks) (dw:=s.drawn) (.keeps fun _ _ e=>e) S))
theorem xi_cons{a:MS}{l:List MS}{r:Fl×St}{C:Prop}(h:bn cf (a::l) σ=some r)(k1:∀ σ₁,exS cf a σ=some (.next,σ₁)→bn cf l σ₁=some r→C)(k2:∀ fr d,exS cf a σ=some r→r.1=.ret fr d→C):C:=by
 rw[km] at h
 cases ha:exS cf a σ with
 | none=>rw[ha] at h;exact ak h
 | some p=>
  rw[ha] at h
  obtain⟨fl,σ₁⟩:=p
  cases fl with
  | next=>exact k1 σ₁ ha h
  | ret fr d=>exact k2 fr d (ha.trans h) (congrArg Prod.fst (Option.some.inj h)).symm
theorem nH{a:MS}{l:List MS}(ha:SS prog w A base cf a)(hl:SSs prog w A base cf l):SSs prog w A base cf (a::l):=fun s env ss H₀ ent own m σ r E hc S hev=>by
 cases ss with
 | nil=>cases hc
 | cons st ss'=>
  exact bN hc fun hc1 hc2=>xi_cons hev (fun σ₁ h1 h2=>wpAny_execs_cons (wp_S (ha s env st H₀ ent own m σ _ E hc1 S h1) (fun h tk dw own' m' _ t S'=>be (hl _ env ss' H₀ ent own' m' σ₁ r E hc2 S' h2) fun f s₂ q=>q.trans t) fun _ _ _ _ _ _ e _ _=>nomatch e))
   fun fr d h1 h2=>wpAny_execs_cons (wp_S (ha s env st H₀ ent own m σ r E hc1 S h1) (fun _ _ _ _ _ e _ _=>nomatch h2.symm.trans e) fun h tk dw fr d v e t R Q _ hr=>hr h tk dw fr d v e t R)
theorem xi_ite{c:ME}{t f:List MS}{r:Fl×St}{C:Prop}(h:exS cf (.ite c t f) σ=some r)(k:∀ d b,evE cf (vis σ) c=some d→br d=some b→bn cf (if b then t else f) σ=some r→C):C:=
 bi (a:=evE cf (vis σ) c) (f:=fun d=>match br d with
   | some true=>bn cf t σ
   | some false=>bn cf f σ
   | Option.none=>Option.none) h fun d hd h=>by
  cases ht:br d with
  | none=>rw[ht] at h;exact ak h
  | some b=>rw[ht] at h;cases b <;> exact k d _ hd ht h
theorem ss_ite(Z:Cx prog w A base mg mb cf){c:ME}{t f:List MS}(ht:SSs prog w A base cf t)(hf:SSs prog w A base cf f):SS prog w A base cf (.ite c t f):=fun s env st H₀ ent own m σ r E hc S hev=>
 xi_ite hev fun d b hd hb he=>IIte.rec (motive:=fun st _=>wpAny (model prog w) A (exec st env) (bp w base ent env H₀ s own r) E s) (fun {v b' o p} hc h1 h2=>wpAny_If (run_T Z S hc hd hb fun h₁ tk₁ dw₁ hk=>by
  cases b with
  | true=>exact be (ht _ env _ H₀ ent own m σ r E h1 (S.keeps hk) he) fun f s₂ q=>q.trans (.keeps hk)
  | false=>exact be (hf _ env _ H₀ ent own m σ r E h2 (S.keeps hk) he) fun f s₂ q=>q.trans (.keeps hk))) (inv_ite hc)
noncomputable def eD(w:World)(base ent:Heap)(env:Env)(H₀:Addr→Prop)(s:Shared)(own:Own)(J:List D→Own→St→Prop)(K:Bool→D→St→Prop)(rest:List D)(f:Flow)(s':Shared):Prop:=
 ∀ Q:Flow→Shared→Prop,(∀ h tk dw own' m σ,J rest own' σ→Tr s.heap env own h own'→a9 w base ent h env H₀ own' m σ→Q .next { s with heap:=h,toks:=tk,drawn:=dw }) →
  (∀ h tk dw fr d v σ,K fr d σ→Tr s.heap env own h pS→qR w ent h H₀ v fr d→Q (.ret v) { s with heap:=h,toks:=tk,drawn:=dw })→Q f s'
noncomputable def nf(f:Flow):Flow:=match f with | .cont=>.next | f=>f
theorem nf_in{P:Flow→Prop}(h:P .next→P .cont)(f:Flow)(q:P (nf f)):P f:=match f,q with
 | .cont,q=>h q
 | .next,q=>q
 | .brk,q=>q
 | .ret _,q=>q
theorem jpost_nf{s s':Shared}{J:List D→Own→St→Prop}{K:Bool→D→St→Prop}{rest:List D}{f:Flow}(q:eD w base ent env H₀ s own J K rest f s'):eD w base ent env H₀ s own J K rest (nf f) s':=fun Q hn hr=>q (fun f s=>Q (nf f) s) hn hr
inductive sE(w:World)(base ent h1:Heap)(env:Env)(H₀:Addr→Prop)(I:Addr)(own:Own)(its:List D)(Stt:Nat→Heap→Prop)(J:List D→Own→St→Prop)(s:Shared)(k:Nat):Shared→Prop
 | mk {h tk dw done rest own' m' σ'} (dr:its=done++rest) (st:Stt done.length h) (S:a9 w base ent h env (fun b=>H₀ b∨b=I) own' m' σ') (t:Tr h1 env own h own') (fr:J rest own' σ') (kn:k=rest.length+1) :
  sE w base ent h1 env H₀ I own its Stt J s k { s with heap:=h,toks:=tk,drawn:=dw }
theorem ownS_nil(own:Own)(d:D):cM own d []=own:=by
 unfold cM;split
 ·rfl
 ·exact kL own
noncomputable def nv(prog:Program)(w:World)(A:Around)(base ent:Heap)(env:Env)(x:String)(J:List D→Own→St→Prop)(K:Bool→D→St→Prop)(b:List Stmt):Prop:=
 ∀ (s:Shared) (H₁:Addr→Prop) (own:Own) (m:Str→Option Value) (σ:St) (dv:D) (rest:List D) (E:Value→Shared→Prop),J (dv::rest) own σ→a9 w base ent s.heap env H₁ (own.set x none) m (aD σ x (false,dv)) →
  wpAny (model prog w) A (execs b env) (fun f s'=>eD w base ent env H₁ s (own.set x none) J K rest (nf f) s') E s
section
variable {h1 hh1:Heap} {own₀ own':Own} {its done rest:List D} {fp:List Addr} {P:Nat→Value→Prop} {Stt:Nat→Heap→Prop}
theorem hot_tr(t:Tr h1 env own₀ h own')(hn:gat h1 I=none){b:Addr}{o:Obj}(e:gat h1 b=some o)(q:Hot env (fun b=>H₀ b∨b=I) own' b):Hot env H₀ own₀ b:=
 (qs q).elim (fun q=>q.imp id fun q=>q.imp id fun q=>q.elim fun z q=>(t.o z b q).elim (fun q=>⟨z,q⟩) fun q=>bD e q) fun q=>bD e (q▸hn)
theorem kk_tr(t:Tr h1 env own₀ h own')(hk:Mv I h h')(hn:gat h1 I=none){b:Addr}{o:Obj}(hh:¬ Hot env H₀ own₀ b)(e:gat h1 b=some o):gat h' b=some o:=
 hk b o (fun q=>bD e (q▸hn)) (t.k b o e (fun q=>hh (.inr (.inl q))) fun z q=>hh (.inr (.inr ⟨z,q⟩)))
theorem tr_I(t:Tr h1 env own₀ h own')(hk:Mv I h h')(hn:gat h1 I=none):Tr h1 env own₀ h' own':=
 ⟨fun b o e hf ho=>hk b o (fun q=>bD e (q▸hn)) (t.k b o e hf ho),fun b o e=>(t.x b o e).elim fun o' e'=>⟨o',hk b o' (fun q=>bD e (q▸hn)) e'⟩,t.o⟩
theorem lT(W:Walks prog w A I fp [I] its.length P Stt)(fpo:∀ b∈fp,b=I∨(¬ Hot env H₀ own₀ b∧∃ o,gat h1 b=some o))(tab:∀ b∈fp,∀ i h o,Stt i h→h.get? b=some o→a8 o=false){own₁:Own}{i:Nat}(st:Stt i h)(t:Tr h1 env own₀ h own')(u:Tr h env own' h' own₁)(nI:¬ frm env I)(nO:∀ z,own' z≠some I):Stt i h':=
 cQ W tab i h h' st fun b hb o e=>(fpo b hb).elim (fun q=>q▸(u.k I o (q▸e) nI nO)) fun q=>u.k b o e (fun z=>q.1 (.inr (.inl z))) fun z y=>q.2.elim fun o' e'=>(t.o z b y).elim (fun y=>q.1 (.inr (.inr ⟨z,y⟩))) fun y=>bD e' y
end
theorem fbody_inv{bf:D→St→Option (Fl×St)}{dv:D}{rest:List D}{σ:St}{r:Fl×St}{C:Prop}(h:bU bf (dv::rest) σ=some r)(k:∀ rb,bf dv σ=some rb→(rb.1=.next→bU bf rest rb.2=some r)→(∀ fr d,rb.1=.ret fr d→(.ret fr d,rb.2)=r)→C):C:=by
 cases e:bf dv σ with
 | none=>rw[bU,e] at h;exact ak h
 | some rb=>
  rw[bU,e] at h
  obtain⟨fl,σ₁⟩:=rb
  cases fl with
  | next=>exact k _ e (fun _=>h) fun _ _ e=>nomatch e
  | ret fr d=>exact k _ e (fun e=>nomatch e) fun fr' d' q=>(congrArg (fun f=>(f,σ₁)) q.symm).trans (Option.some.inj h)
theorem for_turn{x:String}{yp:Pos}{b:List Stmt}{its done rest:List D}{dv:D}{J:List D→Own→St→Prop}{K:Bool→D→St→Prop}(hb:nv prog w A base ent env x J K b)
  {s:Shared} {own own₀ own':Own} {m':Str→Option Value} {σ':St} {h1:Heap} {tk:Nat} {dw:Drawn} {k:Nat} {fp:List Addr} {P:Nat→Value→Prop} {Stt:Nat→Heap→Prop}
  (hst:bB env.kindOf (Str.ofString x)=true) (W:Walks prog w A I fp [I] its.length P Stt) (fpo:∀ b∈fp,b=I∨(¬ Hot env H₀ own₀ b∧∃ o,gat h1 b=some o)) (item:∀ i v,i<its.length→P i v→∃ d,its[i]?=some d∧Rep w.params h1 (Hot env H₀ own₀) v d) (live:∀ i h,Stt i h→∃ o,gat h I=some o) (tab:∀ b∈fp,∀ i h o,Stt i h→h.get? b=some o→a8 o=false)
  (new:gat h1 I=none) (nIf:¬ frm env I) (nIe:gat ent I=none) (tS:Tr s.heap env own h1 own₀)
  (dr:its=done++dv::rest) (st:Stt done.length h) (S':a9 w base ent h env (fun b=>H₀ b∨b=I) own' m' σ') (t:Tr h1 env own₀ h own') (hfor:J (dv::rest) own' σ') (kn:k=(dv::rest).length+1)
  {NE:Value→Shared→Prop} {R:Shared→Prop} :
  wpAny (model prog w) A (pyNext (.ref I)) (fun o s₁=>match o with
   | none=>R s₁
   | some v=>wpAny (model prog w) A (assign (.Name (Str.ofString x) yp) env v) (fun _ s₂=>wpAny (model prog w) A (execs b env) (fun f s₃=>match f with
     | .next | .cont=>∃ m,m<k∧sE w base ent h1 env H₀ I own₀ its Stt J s m s₃
     | .brk=>eD w base ent env H₀ s own J K [] .next s₃
     | .ret v=>eD w base ent env H₀ s own J K [] (.ret v) s₃) NE s₂) NE s₁) NE { s with heap:=h,toks:=tk,drawn:=dw }:=by
 have hlt:done.length<its.length:=by rw[dr,List.length_append];exact Nat.lt_add_of_pos_right (Nat.succ_pos _)
 refine W.item done.length _ _ _ hlt st fun v h₁ tk₁ hPv st₁ hk₁=>?_
 have m1:Mv I h h₁:=fun b o hb e=>gu W tab st hk₁ b o (fun q=>hb (List.mem_singleton.mp q)) e
 have SI:=S'.turnI m1 (live _ _ st₁) nIf nIe
 have t₁:=tr_I t m1 new
 have rv:Rep w.params h₁ (Hot env (fun b=>H₀ b∨b=I) own') v dv:=(item _ v hlt hPv).elim fun d q=>by
  have e:d=dv:=by
   have e1:=q.1
   rw[dr,List.getElem?_append_right (Nat.le_refl _),Nat.sub_self] at e1
   exact (Option.some.inj e1).symm
  exact e▸q.2.mono (fun b o hn e=>kk_tr t m1 new hn e) fun b o e q=>hot_tr t new e q
 refine wpAny_assign_Name (gx (s:={ s with heap:=h₁,toks:=tk₁,drawn:=dw }) SI.rep (fh hst) fun h₂ tk₂ dw₂ a R₂ ha hs=>?_)
 have q3:=gZ (s:={ s with heap:=h₁,toks:=tk₁,drawn:=dw }) (x:=x) (ns:=[]) (d:=dv) (fr:=false) (v:=v) (h₁:=h₁) (h₂:=h₂) (a:=a) (X:=fun _=>False) SI (fun _ _ e=>e)
  (by rw[kL];exact rv.sub fun _ q=>q.elim id False.elim) (fun e=>nomatch e) R₂ (ha.imp id fun e=>⟨_,e⟩) (fun _ q=>q.elim) fun b hb _ _ e=>(hs.g b hb).trans e
 rw[settle_nil,ownS_nil] at q3
 have st₂:=lT W fpo tab st₁ t₁ q3.2 nIf fun z q=>(S'.own1 z I q).2.1 (.inr rfl)
 have t₂:=t₁.trans q3.2
 exact be (hb { s with heap:=h₂,toks:=tk₂,drawn:=dw₂ } _ own' _ σ' dv rest _ hfor q3.1) fun f s₃ q=>nf_in (P:=fun f=>match f with
     | .next | .cont=>∃ m,m<k∧sE w base ent h1 env H₀ I own₀ its Stt J s m s₃
     | .brk=>eD w base ent env H₀ s own J K [] .next s₃
     | .ret v=>eD w base ent env H₀ s own J K [] (.ret v) s₃) id f <| q (fun f s₃=>match f with
     | .next | .cont=>∃ m,m<k∧sE w base ent h1 env H₀ I own₀ its Stt J s m s₃
     | .brk=>eD w base ent env H₀ s own J K [] .next s₃
     | .ret v=>eD w base ent env H₀ s own J K [] (.ret v) s₃) (fun h₃ tk₃ dw₃ own₃ m₃ σ₃ e u S₃=>
   ⟨rest.length+1,by rw[kn];exact Nat.lt_succ_self _,.mk (done:=done++[dv]) (rest:=rest) (dr.trans (List.append_cons ..)) (by rw[List.length_append];exact lT W fpo tab st₂ t₂ u nIf fun z q=>(q3.1.own1 z I q).2.1 (.inr rfl)) S₃ (t₂.trans u) e rfl⟩)
  fun h₃ tk₃ dw₃ fr d v σ₃ e u R Q _ hr=>hr h₃ tk₃ dw₃ fr d v σ₃ e (tS.trans (t₂.trans u)) ⟨R.rep.sub fun _ q=>.inl q,R.keep,fun hf=>(R.fr hf).sub fun _ q=>.inl q⟩
theorem k6{x:String}{yp pos:Pos}{it:Expr}{b:List Stmt}{ns:List String}{its:List D}{J:List D→Own→St→Prop}{K:Bool→D→St→Prop}
  {s:Shared} {env:Env} {H₀:Addr→Prop} {ent:Heap} {own:Own} {m:Str→Option Value} {σ:St} {E:Value→Shared→Prop} (hb:nv prog w A base ent env x J K b) (S:a9 w base ent s.heap env H₀ own m σ) (hst:bB env.kindOf (Str.ofString x)=true) (hset:dC it=true)
  (hsrc:∀ Q:Value→Shared→Prop,(∀ I h1 h2 tk2 dw2,KH s.heap h1→KH h1 h2→gat h1 I=none→(∃ o,gat h2 I=some o)→mF prog w A h1 (Hot env H₀ (own.less ns)) its I h2→Q (.ref I) { s with heap:=h2,toks:=tk2,drawn:=dw2 })→wpAny (model prog w) A (eval it env) (fun xv s₁=>wpAny (model prog w) A (pyIter xv) Q E s₁) E s)
  (hev:J its (own.less ns) (freeze ns σ)):wpAny (model prog w) A (exec (.For (.Name (Str.ofString x) yp) it b [] pos) env) (eD w base ent env H₀ s own J K []) E s:=by
 refine wpAny_For (hsrc _ fun I h1 h2 tk2 dw2 k01 k12 fresh ex IW=>?_) (gQ hset)
 have S0:=(S.freeze ns).keeps k01
 have S2:=S0.addH (I:=I) k12 fresh ex
 have nIf:¬ frm env I:=fun q=>(dQ S0.rep q).elim fun o e=>bD e fresh
 have nIe:gat ent I=none:=iF S.keep (iF k01 fresh)
 have tS:Tr s.heap env own h1 (own.less ns):=.of k01 fun _ _=>cX
 refine IW.rec fun {fp P Stt} W st fpo item live tab=>codeAny_forLoop (sE w base ent h1 env H₀ I (own.less ns) its Stt J s) (fun k s' q=>?_) (its.length+1) (.mk (done:=[]) (rest:=its) rfl st S2 (.keeps k12) hev rfl)
 obtain @⟨h,tk,dw,done,rest,own',m',σ',dr,st,S',t,hfor,kn⟩:=q
 cases rest with
 | cons dv rest=>exact for_turn hb hst W fpo item live tab fresh nIf nIe tS dr st S' t hfor kn
 | nil=>
  rw[List.append_nil] at dr
  subst dr
  refine W.done _ _ _ st fun h' tk' hk'=>?_
  have m1:Mv I h h':=fun b o hb e=>gu W tab st hk' b o (fun q=>hb (List.mem_singleton.mp q)) e
  have t':=tr_I t m1 fresh
  exact wpAny_execs_nil fun Q hn _=>hn _ _ dw _ _ _ hfor (tS.trans t') (S'.leave m1 (fun c hc=>(S0.hot.ex c (.inl hc)).elim fun b' q=>q.elim fun o q=>(t'.x b' o q.2).elim fun o' e'=>⟨b',o',q.1,e'⟩) nIf nIe)
theorem qN{x:String}{body:List MS}{b:List Stmt}{ent:Heap}{env:Env}{r:Fl×St}(hb:SSs prog w A base cf body)(hcb:eX env.kindOf b body=true) :
  nv prog w A base ent env x (fun rest _ σ=>bU (fun it σ=>bn cf body (aD σ x (false,it))) rest σ=some r) (fun fr d σ=>(.ret fr d,σ)=r) b:=fun s H₁ own m σ dv rest E hfor S=>
 fbody_inv hfor fun rb h1 h2 h3=>be (hb s env b H₁ ent _ m _ rb E hcb S h1) fun f s' q Q hn hr=>q (fun f s=>Q (nf f) s) (fun h tk dw own' m' e t S'=>hn h tk dw own' m' rb.2 (h2 e) t S') fun h tk dw fr d v e t R=>hr h tk dw fr d v rb.2 (h3 fr d e) t R
theorem pZ{s s':Shared}{r:Fl×St}{bf:D→St→Option (Fl×St)}{f:Flow}(q:eD w base ent env H₀ s own (fun rest _ σ=>bU bf rest σ=some r) (fun fr d σ=>(.ret fr d,σ)=r) [] f s'):bp w base ent env H₀ s own r f s':=fun Q hn hr=>
 q Q (fun h tk dw own' m σ e t S=>have e:(Fl.next,σ)=r:=Option.some.inj e;hn h tk dw own' m (e▸rfl) t (e▸S)) fun h tk dw fr d v σ e t R=>hr h tk dw fr d v (e▸rfl) t R
theorem xi_for{x:String}{src:ME}{body:List MS}{r:Fl×St}{C:Prop}(h:exS cf (.for_ x src body) σ=some r)(k:∀ d its,evE cf (vis σ) src=some d→d.items=some its→bU (fun it σ=>bn cf body (aD σ x (false,it))) its (freeze src.names σ)=some r→C):C:=
 bi (a:=evE cf (vis σ) src) (f:=fun d=>oEs d.items fun its=>bU (fun it σ=>bn cf body (aD σ x (false,it))) its (freeze src.names σ)) h fun d hd h=>dJ h fun its hi h=>k d its hd hi h
theorem ss_for(Z:Cx prog w A base mg mb cf){x:String}{src:ME}{body:List MS}(hb:SSs prog w A base cf body):SS prog w A base cf (.for_ x src body):=fun s env st H₀ ent own m σ r E hc S hev=>
 IFor.rec (motive:=fun st _=>wpAny (model prog w) A (exec st env) (bp w base ent env H₀ s own r) E s) (fun hst hset hcs hcb=>xi_for hev fun d its hd hits he=>be (k6 (qN hb hcb) S hst hset (fun Q k=>jC Z S hcs hd fun u h₁ tk₁ dw₁ hk rv=>jY (kR (s:={ s with heap:=h₁,toks:=tk₁,drawn:=dw₁ }) rv Z.hh hits) fun I h tk dw k12 fr ex W=>k I h₁ h tk dw hk k12 fr ex W) he) fun _ _ q=>pZ q) (inv_for hc)
theorem scal_post{P:Params}{h:Heap}{H:Addr→Prop}{v:Value}{d:D}{X:Prop}(r:Rep P h H v d)(hs:d.scalar=true)(x:X):match (generalizing:=false) v with | .ref _=>False | _=>X:=by
 cases d with
 | none=>exact r.noneE (C:=fun v=>match (generalizing:=false) v with | .ref _=>False | _=>X) x
 | bool b=>exact r.boolE (C:=fun v=>match (generalizing:=false) v with | .ref _=>False | _=>X) x
 | int i=>exact r.intE (C:=fun v=>match (generalizing:=false) v with | .ref _=>False | _=>X) fun _=>x
 | str i=>exact r.strE (C:=fun v=>match (generalizing:=false) v with | .ref _=>False | _=>X) fun _=>x
 | _=>cases hs
theorem xi_expr{e:ME}{r:Fl×St}{C:Prop}(h:exS cf (.expr e) σ=some r)(k:∀ d,evE cf (vis σ) e=some d→d.scalar=true→(.next,σ)=r→C):C:=
 bi (a:=evE cf (vis σ) e) (f:=fun d=>if d.scalar=true then some (Fl.next,σ) else Option.none) h fun d hd h=>aV h fun hs e=>k d hd hs e
theorem swaps_none{v:Expr}(h:mS v=true){l:Nat}{env:Env}:swapsWith v none l env=pure false:=by
 cases v with
 | ListComp | SetComp | DictComp=>cases h
 | _=>rfl
theorem ss_expr(Z:Cx prog w A base mg mb cf)(e:ME):SS prog w A base cf (.expr e):=fun s env st H₀ ent own m σ r E hc S hev=>
 xi_expr hev fun d hd hs er=>er▸sB.rec (motive:=fun st _=>wpAny (model prog w) A (exec st env) (bp w base ent env H₀ s own (.next,σ)) E s) (fun hn hc=>wpAny_Expr (jC Z S hc hd fun u h₁ tk₁ dw₁ hk rv=>scal_post rv hs (bp.nx (.keeps hk) (S.keeps hk))) (by unfold interactive;rw[S.rep.kind];rfl) (swaps_none hn)) (inv_expr hc)
theorem xi_forr{x:String}{src:ME}{body:List MS}{r:Fl×St}{C:Prop}(h:exS cf (.forr x src body) σ=some r)(k:∀ ds,evE cf (vis σ) src=some (.tup ds)→bU (fun it σ=>bn cf body (aD σ x (false,it))) ds.reverse (freeze src.names σ)=some r→C):C:=by
 rw[pA] at h
 split at h
 ·exact k _ ‹_› h
 ·exact ak h
theorem ss_forr(Z:Cx prog w A base mg mb cf){x:String}{src:ME}{body:List MS}(hb:SSs prog w A base cf body):SS prog w A base cf (.forr x src body):=fun s env st H₀ ent own m σ r E hc S hev=>
 sA.rec (motive:=fun st _=>wpAny (model prog w) A (exec st env) (bp w base ent env H₀ s own r) E s) (fun hst hg hcs hcb=>xi_forr hev fun ds hds he=>be (k6 (qN hb hcb) S hst rfl (fun Q k=>PyProof.Rows.Call_Name rfl (dO Z.G (f:="reversed") (by decide) S.rep (S.freeze src.names).hot hg (de (qY hcs) (Calls.spliced_cons (
  jC Z S hcs hds fun u h₁ tk₁ dw₁ hk rv=>Calls.spliced_nil (be (iter_rvs (s:={ s with heap:=h₁,toks:=tk₁,drawn:=dw₁ }) rv Z.hh) fun v s₂ q₂=>jY (s:={ s with heap:=h₁,toks:=tk₁,drawn:=dw₁ }) q₂ fun I h tk dw k12 fr ex W=>k I h₁ h tk dw hk k12 fr ex W)))))) he) fun _ _ q=>pZ q) (inv_forr hc)
end
end Mine
namespace Mine
open PySem PySem.SeqAt
noncomputable def gh(i:Nat):String:=String.ofList (List.replicate (i+1) '#')
theorem gh_list(i:Nat):(gh i).toList=List.replicate (i+1) '#':=String.toList_ofList
theorem m7(i:Nat):(gh i).toList.length=i+1:=by rw[gh_list,List.length_replicate]
theorem sa{i j:Nat}(h:gh i=gh j):i=j:=Nat.succ.inj ((m7 i).symm.trans ((congrArg (fun s=>s.toList.length) h).trans (m7 j)))
theorem gh_ne{i:Nat}{x:String}(h:x.toList.length≤i):gh i≠x:=fun e=>Nat.not_succ_le_self i (Nat.le_trans (Nat.le_of_eq ((m7 i).symm.trans (congrArg (fun s=>s.toList.length) e))) h)
theorem gh_fresh(names:List (Str×NameKind)):∃ N,∀ i,N≤i→names.lookup (Str.ofString (gh i))=none:=by
 induction names with
 | nil=>exact⟨0,fun _ _=>rfl⟩
 | cons p names ih=>
  obtain⟨N,h⟩:=ih
  refine⟨max N p.1.cps.size,fun i hi=>?_⟩
  have ne:(Str.ofString (gh i) == p.1)=false:=beq_false_of_ne fun e=>by
   have q:(Str.ofString (gh i)).cps.size=i+1:=by rw[Str.ofString_eq_toList,List.size_toArray,List.length_map,m7]
   exact Nat.not_succ_le_self i (Nat.le_trans (Nat.le_of_eq (q.symm.trans (congrArg (·.cps.size) e))) (Nat.le_trans (Nat.le_max_right _ _) hi))
  rw[List.lookup_cons,ne]
  exact h i (Nat.le_trans (Nat.le_max_left _ _) hi)
section
variable {w:World} {base ent h h₂:Heap} {env:Env} {H₀:Addr→Prop} {own:Own} {m:Str→Option Value} {σ:St}
theorem a7.ghost(R:a7 h env m){x:Str}{v:Value}(hx:env.kindOf x=none):a7 h env (upd m x v):=
 have ne:∀ {y k},env.kindOf y=some k→upd m x v y=m y:=fun {y k} e=>if_neg fun q=>nomatch (q▸e).symm.trans hx
 {R with
  loc:=R.loc.elim fun ml q=>⟨ml,q.1,fun y hy=>(q.2 y hy).trans (ne hy).symm⟩
  cell:=fun y hy=>(R.cell y hy).elim fun c q=>⟨c,q.1,(hy.elim ne ne).symm▸q.2⟩ }
theorem a9.adopt(S:a9 w base ent h env H₀ own m σ){x:String}(hx:env.kindOf (Str.ofString x)=none){b:Addr}{ds:List D}(k:KH h h₂)(hb:gat h b=none)(hn:¬ H₀ b)(o:fq w.params h₂ (Hot env H₀ own) b ds) :
  a9 w base ent h₂ env H₀ (own.set x (some b)) (upd m (Str.ofString x) (.ref b)) (aD σ x (true,.list ds)):=
 S.set ((S.rep.keeps k).ghost hx) (fun b o _ e=>k b o e) (fun _ a o _ e=>k a o e) (fun b o e=>⟨o,k b o e⟩) (fun b o e=>k b o (S.keep b o e)) (fun c e=>Option.some.inj e▸⟨hb,hn,cx.ex (d:=.list ds) o⟩) nofun
  fun _=>⟨b,rfl,rfl,o.mono (fun _ e=>e) (fun _ _ _ e=>e) fun c o _ q=>q.elim (fun q=>.inl (.inl q)) fun q=>q.elim (fun q=>.inl (.inr (.inl q))) fun q=>q.elim fun y q=>cW q (fun _ q=>.inr (Option.some.inj q).symm) fun _ q=>.inl (.inr (.inr ⟨y,q⟩))⟩
end
noncomputable abbrev GL:=List (D×Addr×List D)
noncomputable def GL.v(G:GL):List (D×List D):=G.map fun q=>(q.1,q.2.2)
noncomputable def GL.k(G:GL):List D:=G.map (·.1)
noncomputable def GL.p(G:GL):List D:=G.map fun q=>.ptr q.2.1
theorem oq{k r:D}{q:D×List D}{G2:List (D×List D)}(hq:aQ q.1 k=true):∀ {G1:List (D×List D)},(∀ p∈G1,aQ p.1 k=false)→qX k r (G1++q::G2)=G1++(q.1,q.2++[r])::G2
 | [],_=>if_pos hq
 | p::G1,h=>(if_neg (by rw[h p (.head _)];nofun)).trans (congrArg (p::·) (oq hq fun p hp=>h p (.tail _ hp)))
theorem oo{k r:D}:∀ {G:List (D×List D)},(∀ p∈G,aQ p.1 k=false)→qX k r G=G++[(k,[r])]
 | [],_=>rfl
 | p::G,h=>(if_neg (by rw[h p (.head _)];nofun)).trans (congrArg (p::·) (oo fun p hp=>h p (.tail _ hp)))
theorem oA{k:D}{q:D×Addr×List D}{G2:GL}(hq:aQ q.1 k=true):∀ {G1:GL},(∀ p∈G1,aQ p.1 k=false)→jS (GL.k (G1++q::G2)) (GL.p (G1++q::G2)) k=some (.ptr q.2.1)
 | [],_=>if_pos hq
 | p::G1,h=>(if_neg (by rw[h p (.head _)];nofun)).trans (oA hq fun p hp=>h p (.tail _ hp))
theorem oy{k d:D}:∀ {G:GL},(∀ p∈G,aQ p.1 k=false)→cw G.k G.p k d=(G.k++[k],G.p++[d])
 | [],_=>rfl
 | p::G,h=>(if_neg (by rw[h p (.head _)];nofun)).trans (by
  show (p.1::(cw (GL.k G) (GL.p G) k d).1,D.ptr p.2.1::(cw (GL.k G) (GL.p G) k d).2)=_
  rw[oy fun p hp=>h p (.tail _ hp)];rfl)
theorem nK{k:D}:∀ {G:GL},(G.k.any fun x=>aQ x k)=true→∃ G1 q G2,G=G1++q::G2∧aQ q.1 k=true∧∀ p∈G1,aQ p.1 k=false
 | p::G,h=>by
  cases hp:aQ p.1 k with
  | true=>exact⟨[],p,G,rfl,hp,fun _ q=>nomatch q⟩
  | false=>
   have h':(aQ p.1 k||(GL.k G).any fun x=>aQ x k)=true:=h
   rw[hp] at h'
   obtain⟨G1,q,G2,e,h1,h2⟩:=nK (G:=G) h'
   exact⟨p::G1,q,G2,congrArg (p::·) e,h1,fun x hx=>(List.mem_cons.mp hx).elim (fun e=>e▸hp) (h2 x)⟩
theorem none_of_any{k:D}{G:GL}(h:(G.k.any fun x=>aQ x k)=false):∀ p∈G,aQ p.1 k=false:=fun p hp=>by
 cases e:aQ p.1 k with
 | false=>rfl
 | true=>exact absurd e (List.any_eq_false.mp h p.1 (List.mem_map.mpr ⟨p,hp,rfl⟩))
structure GS(N:Nat)(σ₀:St)(G:GL)(own:Own)(σ:St):Prop where
 tk:∀ q∈G,q.1.isTK=true
 gr:σ.lookup "groups"=some (true,.dict G.k G.p)
 gs:∀ i q,G[i]?=some q→σ.lookup (gh (N+i))=some (true,.list q.2.2)∧own (gh (N+i))=some q.2.1
 sm:∀ x∈fO,σ.lookup x=σ₀.lookup x
theorem kP{k:D}{G:GL}(hk:k.isTK=true)(h:∀ q∈G,q.1.isTK=true):cB k G.k=true:=by
 unfold cB
 rw[hk,show (GL.k G).all D.isTK=true from List.all_eq_true.mpr fun d hd=>(List.mem_map.mp hd).elim fun q z=>z.2▸h q z.1]
 exact Bool.or_true _
theorem fQ{N i:Nat}(hN:6≤N):gh (N+i)≠"groups"∧gh (N+i)≠"row"∧gh (N+i)≠"own"∧∀ x∈fO,gh (N+i)≠x:=
 have hi:6≤N+i:=Nat.le_trans hN (Nat.le_add_right _ _)
 have l:∀ x:String,x.toList.length≤6→gh (N+i)≠x:=fun x h=>gh_ne (Nat.le_trans h hi)
 ⟨l _ (by decide),l _ (by decide),l _ (by decide),fun x hx=>l x ((by decide:∀ x∈fO,x.toList.length≤6) x hx)⟩
theorem GS.other{N:Nat}{σ₀ σ σ':St}{G:GL}{own own':Own}(hN:6≤N)(g:GS N σ₀ G own σ)(h:∀ x,x≠"row"→x≠"own"→(own' x=own x∨x∈fO)∧σ'.lookup x=σ.lookup x):GS N σ₀ G own' σ' where
 tk:=g.tk
 gr:=(h _ (by decide) (by decide)).2.trans g.gr
 gs:=fun i q e=>have z:=fQ (i:=i) hN;have y:=h _ z.2.1 z.2.2.1;⟨y.2.trans (g.gs i q e).1,(y.1.elim id fun q=>absurd rfl (z.2.2.2 _ q)).trans (g.gs i q e).2⟩
 sm:=fun x hx=>(h x (by rintro rfl;exact absurd hx (by decide)) (by rintro rfl;exact absurd hx (by decide))).2.trans (g.sm x hx)
end Mine
namespace Mine
open PySem PySem.SeqAt
section
variable {prog:Program} {w:World} {A:Around} {base:Heap} {mg mb:Str→Option Value} {cf:CF}
variable {s:Shared} {ent:Heap} {env:Env} {H₀:Addr→Prop} {own:Own} {m:Str→Option Value} {σ σ₀:St} {E:Value→Shared→Prop} {N n:Nat} {G G1 G2:GL} {pl k dv:D} {GF:List (D×List D)} {rest:List D}
theorem grp_new(Z:Cx prog w A base mg mb cf){gn on v:Expr}{sp pos:Pos}(hN:6≤N)(hgh:∀ i,N≤i→env.kindOf (Str.ofString (gh i))=none)(hcg:aH env.kindOf gn (.var "groups")=true)(hco:aH env.kindOf on (.var "own")=true)(hcv:aH env.kindOf v (.lst [])=true)
  (S:a9 w base ent s.heap env H₀ own m σ) (g:GS N σ₀ G own σ) (hk:k.isTK=true) (ho:σ.lookup "own"=some (false,k)) (hno:∀ p∈G,aQ p.1 k=false) (hl:G.length<big) {Q:Flow→Shared→Prop}
  (K:∀ h tk dw own' m' σ' b,a9 w base ent h env H₀ own' m' σ'→Tr s.heap env own h own'→GS N σ₀ (G++[(k,b,[])]) own' σ'→(∀ x,x≠"groups"→(∀ i,x≠gh (N+i))→σ'.lookup x=σ.lookup x)→Q .next { s with heap:=h,toks:=tk,drawn:=dw }) :
  wpAny (model prog w) A (exec (.Assign [.Subscript gn on sp] v pos) env) Q E s:=by
 refine wpAny_Assign_Subscript (rH Z S hcv (d:=.list []) (fr:=true) rfl fun u h₁ tk₁ dw₁ hk1 rv hfr=>?_) (by cases v <;> rfl)
 replace hfr:=hfr rfl
 obtain @⟨b,hb,o⟩:=hfr
 rw[show (ME.lst []).names=[] from rfl,kL] at o rv
 have hH:=cx.off o rv
 have S1:=S.adopt (hgh _ (Nat.le_add_right N G.length)) hk1 hb (fun q=>hH (.inl q)) o
 have z:=fQ (i:=G.length) hN
 have l1:∀ x,x≠gh (N+G.length)→(aD σ (gh (N+G.length)) (true,D.list [])).lookup x=σ.lookup x:=fun x hx=>by rw[aG,if_neg hx]
 have lg:(aD σ (gh (N+G.length)) (true,D.list [])).lookup "groups"=some (true,.dict G.k G.p):=(l1 _ z.1.symm).trans g.gr
 have lo:(aD σ (gh (N+G.length)) (true,D.list [])).lookup "own"=some (false,k):=(l1 _ z.2.2.1.symm).trans ho
 refine (S1.owned _ _ lg).elim fun gA qg=>(S1.plain _ _ lo).elim fun kv qk=>?_
 refine oU.rec (motive:=fun gn _=>wpAny _ _ (eval gn env) _ _ _) (fun hvg=>ei (s:={ s with heap:=h₁,toks:=tk₁,drawn:=dw₁ }) S1.rep hvg qg.2.1 ?_) (fi hcg)
 refine oU.rec (motive:=fun on _=>wpAny _ _ (eval on env) _ _ _) (fun hvo=>ei (s:={ s with heap:=h₁,toks:=tk₁,drawn:=dw₁ }) S1.rep hvo qk.1 ?_) (fi hco)
 have LH:∀ c,Hot env H₀ (own.set (gh (N+G.length)) (some b)) c∨c=gA→Hot env H₀ (own.set (gh (N+G.length)) (some b)) c:=fun c z=>z.elim id fun z=>z▸.inr (.inr ⟨_,qg.1⟩)
 refine jB (s:={ s with heap:=h₁,toks:=tk₁,drawn:=dw₁ }) (d:=.ptr b) Z.hu.u1 qg.2.2 (qk.2.sub LH) rfl (kP hk g.tk) (by unfold GL.k;rw[List.length_map];exact hl) fun h' tk dw hs own2=>?_
 rw[oy hno] at own2
 have S2:=S1.turn lg qg.1 hs (d:=.dict _ _) own2
 have nt:∀ o,h₁.get? gA=some o→a8 o=false:=cx.notTab (d:=.dict _ _) qg.2.2
 have oe:∀ x,x≠gh (N+G.length)→own.set (gh (N+G.length)) (some b) x=own x:=fun x hx=>if_neg hx
 have gown:own "groups"=some gA:=(oe _ z.1.symm).symm.trans qg.1
 refine K h' tk dw _ _ _ b S2 ⟨fun c o e _ hn=>g1 hs nt c (fun q=>hn _ (q▸gown)) (hk1 c o e),fun c o e=>(Classical.em (c=gA)).elim (fun q=>q▸cx.ex (d:=.dict _ _) own2) fun q=>⟨o,g1 hs nt c q (hk1 c o e)⟩,fun x a e=>cW e (fun _ q=>.inr (Option.some.inj q▸hb)) fun _ q=>.inl q⟩ ⟨?_,?_,?_,?_⟩ fun x h1 h2=>?_
 ·exact fun q hq=>(List.mem_append.mp hq).elim (g.tk q) fun hq=>List.mem_singleton.mp hq▸hk
 ·rw[aG,if_pos rfl];unfold GL.k GL.p;rw[List.map_append,List.map_append];rfl
 ·intro i q e
  have zi:=fQ (i:=i) hN
  rw[aG,if_neg zi.1]
  by_cases hi:i<G.length
  ·rw[List.getElem?_append_left hi] at e
   have ne:gh (N+i)≠gh (N+G.length):=fun q=>Nat.ne_of_lt hi (Nat.add_left_cancel (sa q))
   exact⟨(l1 _ ne).trans (g.gs i q e).1,(oe _ ne).trans (g.gs i q e).2⟩
  ·have e':i=G.length:=by
    have:=(List.getElem?_eq_some_iff.mp e).1
    rw[List.length_append] at this
    exact Nat.le_antisymm (Nat.lt_succ_iff.mp this) (Nat.not_lt.mp hi)
   subst e'
   rw[List.getElem?_append_right (Nat.le_refl _),Nat.sub_self] at e
   rw[← Option.some.inj e,aG,if_pos rfl]
   exact⟨rfl,if_pos rfl⟩
 ·intro x hx
  rw[aG,if_neg (by rintro rfl;exact absurd hx (by decide))]
  exact (l1 x fun q=>z.2.2.2 x hx q.symm).trans (g.sm x hx)
 ·rw[aG,if_neg h1];exact l1 x (h2 _)
theorem grp_app(Z:Cx prog w A base mg mb cf){recv a:Expr}{ap cp pos:Pos}(hN:6≤N)(hcr:aH env.kindOf recv (.sub (.var "groups") (.var "own"))=true)(hca:aH env.kindOf a (.var "row")=true)(hline:(ap.endLine == cp.line)=true){q:D×Addr×List D}
  (S:a9 w base ent s.heap env H₀ own m σ) (g:GS N σ₀ (G1++q::G2) own σ) (hk:k.isTK=true) (ho:σ.lookup "own"=some (false,k)) (hr:σ.lookup "row"=some (false,dv)) (hq:aQ q.1 k=true) (hno:∀ p∈G1,aQ p.1 k=false) (hl:q.2.2.length<big) {Q:Flow→Shared→Prop}
  (K:∀ h tk dw σ',a9 w base ent h env H₀ own m σ'→Tr s.heap env own h own→GS N σ₀ (G1++(q.1,q.2.1,q.2.2++[dv])::G2) own σ'→Q .next { s with heap:=h,toks:=tk,drawn:=dw }) :
  wpAny (model prog w) A (exec (.Expr (.Call (.Attribute recv (Str.ofString "append") ap) [a] [] cp) pos) env) Q E s:=by
 have hd:evE cf (vis σ) (.sub (.var "groups") (.var "own"))=some (.ptr q.2.1):=by
  rw[sd,eJ,eJ,bE,bE,g.gr,ho]
  exact (if_pos (kP hk g.tk)).trans (oA hq hno)
 have gq:=g.gs G1.length q (by rw[List.getElem?_append_right (Nat.le_refl _),Nat.sub_self];rfl)
 have hstar:starEach [a] env=[(false,eval a env)]:=gy hca
 have hb:attributeBase recv (Str.ofString "append") env (eval recv env)=eval recv env:=(j7 hcr).rec fun _ _ _=>rfl
 refine wpAny_Expr (wpAny_Call_append hb (by rw[hstar];rfl) hline (by rw[hstar];rfl) (jC Z S hcr hd fun u h₁ tk₁ dw₁ hk1 rv=>?_)) (by unfold interactive;rw[S.rep.kind];rfl) rfl
 have rv:u=.ref q.2.1:=rv
 subst rv
 have S1:=S.keeps hk1
 have o:fq w.params h₁ (Hot env H₀ own) q.2.1 q.2.2:=S1.ownAt gq.1 gq.2
 refine o.rec fun {vs n} o1 o2 o3=>⟨q.2.1,vs,rfl,⟨_,n,o1,rfl,rfl,rfl⟩,?_⟩
 refine (S1.plain _ _ hr).elim fun rvv qr=>oU.rec (motive:=fun a _=>wpAny _ _ (eval a env) _ _ _) (fun hva=>ei (s:={ s with heap:=h₁,toks:=tk₁,drawn:=dw₁ }) S1.rep hva qr.1 ?_) (fi hca)
 refine wpAny_list_append_plain (items:=vs) ⟨n,o1⟩ (fun h₂ hl₂ hs₂=>?_) (o3.size.symm▸o2)
 have hl₂':∃ n',h₂.get? q.2.1=some (eG (vs.push rvv) n'):=hl₂
 have m1:Mv q.2.1 h₁ h₂:=fun b o hb e=>g1 hs₂ (bz o1) b hb e
 have LH:∀ c,Hot env H₀ own c∨c=q.2.1→Hot env H₀ own c:=fun c z=>z.elim id fun z=>z▸.inr (.inr ⟨_,gq.2⟩)
 have own2:fq w.params h₂ (Hot env H₀ own) q.2.1 (q.2.2++[dv]):=hl₂'.elim fun n' e'=>⟨e',by rw[List.length_append];exact hl,by
  rw[Array.toList_push]
  exact (o3.append (.cons (qr.2.sub LH) .nil)).mono (fun b o hn e=>m1 b o (fun q=>hn (.inr q)) e) fun _ _ _ q=>q⟩
 refine K h₂ _ _ _ (S1.turn gq.1 gq.2 hs₂ (d:=.list _) own2) (mI (fun _ _ e=>e) hk1 gq.2 (fun b hb _ e=>m1 b _ hb e) (cx.ex (d:=.list _) own2)) ⟨?_,?_,?_,?_⟩
 ·exact fun p hp=>(List.mem_append.mp hp).elim (fun hp=>g.tk p (List.mem_append_left _ hp)) fun hp=>(List.mem_cons.mp hp).elim (fun e=>e▸g.tk q (List.mem_append_right _ (.head _))) fun hp=>g.tk p (List.mem_append_right _ (.tail _ hp))
 ·rw[aG,if_neg (fQ hN).1.symm,g.gr];unfold GL.k GL.p;rw[List.map_append,List.map_append,List.map_append,List.map_append];rfl
 ·intro i p e
  by_cases hi:i=G1.length
  ·subst hi
   rw[List.getElem?_append_right (Nat.le_refl _),Nat.sub_self] at e
   rw[← Option.some.inj e,aG,if_pos rfl]
   exact⟨rfl,gq.2⟩
  ·have e2:(G1++q::G2)[i]?=some p:=by
    rw[← e]
    by_cases h:i<G1.length
    ·rw[List.getElem?_append_left h,List.getElem?_append_left h]
    ·have h':=Nat.lt_of_le_of_ne (Nat.not_lt.mp h) (Ne.symm hi)
     rw[List.getElem?_append_right (Nat.not_lt.mp h),List.getElem?_append_right (Nat.not_lt.mp h)]
     obtain⟨j,hj⟩:=Nat.exists_eq_succ_of_ne_zero (Nat.sub_ne_zero_of_lt h')
     rw[hj];rfl
   rw[aG,if_neg fun q=>hi (Nat.add_left_cancel (sa q))]
   exact g.gs i p e2
 ·intro x hx
  rw[aG,if_neg fun q=>(fQ hN).2.2.2 x hx q.symm]
  exact g.sm x hx
end
end Mine
namespace Mine
open PySem PySem.SeqAt
theorem look_settle{d:D}{ns:List String}{σ:St}{x:String}(h:x ∉ ns∨∃ e,σ.lookup x=some (false,e)):(settle d ns σ).lookup x=σ.lookup x:=by
 unfold settle
 cases d.scalar with
 | true=>rfl
 | false=>
  show (freeze ns σ).lookup x=_
  rw[aW]
  rcases h with h | ⟨e,h⟩
  ·have:ns.contains x=false:=Bool.eq_false_iff.mpr fun q=>h (List.contains_iff_mem.mp q)
   rw[this]
   cases σ.lookup x with
   | none=>rfl
   | some p=>exact congrArg some (Prod.ext (Bool.and_true _) rfl)
  ·rw[h];rfl
theorem grpD_inv{cf:CF}{pl dv:D}{rest:List D}{G GF:List (D×List D)}{C:Prop}(h:jP cf pl (dv::rest) G=some GF)(K:∀ k,cf.call "cells_at" [dv,pl]=some (k,false)→k.isTK=true→jP cf pl rest (qX k dv G)=some GF→C):C:=by
 rw[jP] at h
 cases e:cf.call "cells_at" [dv,pl] with
 | none=>rw[e] at h;exact ak h
 | some p=>
  rw[e] at h
  obtain⟨k,fr⟩:=p
  refine bQ h fun hc h=>bN hc fun h1 h2=>?_
  cases fr with
  | true=>cases h2
  | false=>exact K k e h1 h
inductive GJ(cf:CF)(pl:D)(GF:List (D×List D))(N n:Nat)(σ₀:St)(rest:List D)(own:Own)(σ:St):Prop
 | mk (G:GL) (g:GS N σ₀ G own σ) (go:jP cf pl rest G.v=some GF) (ln:∀ q∈G,q.2.2.length+rest.length≤n) (lg:G.length+rest.length≤n)
theorem v_no{k:D}{G:GL}(h:∀ p∈G,aQ p.1 k=false):∀ p∈G.v,aQ p.1 k=false:=fun p hp=>(List.mem_map.mp hp).elim fun p' z=>z.2▸h p' z.1
theorem keyEq_self{k:D}(h:k.isTK=true):aQ k k=true:=(nA h).elim fun c e=>e▸(iK c c).trans (decide_eq_true rfl)
section
variable {prog:Program} {w:World} {A:Around} {base:Heap} {mg mb:Str→Option Value} {cf:CF}
variable {ent:Heap} {env:Env} {σ₀:St} {N n:Nat} {pl:D} {GF:List (D×List D)}
theorem qz(Z:Cx prog w A base mg mb cf){s:Shared}{H₁:Addr→Prop}{own own':Own}{m':Str→Option Value}{σ':St}{s3:Stmt}{k dv:D}{rest:List D}{q:D×Addr×List D}{G1 G2:GL}{h:Heap}{tk:Nat}{dw:Drawn}{E:Value→Shared→Prop}(hN:6≤N)(hn:n≤big)(c3:grp3 env.kindOf s3=true)(hk:k.isTK=true)
  (S:a9 w base ent h env H₁ own' m' σ') (t:Tr s.heap env own h own') (g:GS N σ₀ (G1++q::G2) own' σ') (ho:σ'.lookup "own"=some (false,k)) (hr:σ'.lookup "row"=some (false,dv)) (hq:aQ q.1 k=true) (hno:∀ p∈G1,aQ p.1 k=false)
  (go:jP cf pl rest (G1.v++(q.1,q.2.2++[dv])::G2.v)=some GF) (ln:∀ p∈G1++q::G2,p.2.2.length+(dv::rest).length≤n) (lg:(G1++q::G2).length+rest.length≤n) :
  wpAny (model prog w) A (execs [s3] env) (eD w base ent env H₁ s own (GJ cf pl GF N n σ₀) (fun _ _ _=>False) rest) E { s with heap:=h,toks:=tk,drawn:=dw }:=
 ju (C:=fun s3=>wpAny (model prog w) A (execs [s3] env) (eD w base ent env H₁ s own (GJ cf pl GF N n σ₀) (fun _ _ _=>False) rest) E { s with heap:=h,toks:=tk,drawn:=dw }) c3 fun v p c=>dG (e:=v) c fun at_ as ks cp c=>bN c fun c0 c=>jO (l:=ks) c0 (dH (l:=as) c fun a c=>mA (e:=at_) c fun recv nm ap c=>nl c fun c1=>eqb (a:=nm) c1 fun c2 c3 c4=>
  have lq:=ln q (List.mem_append_right _ (.head _))
  wpAny_execs_cons (grp_app (s:={ s with heap:=h,toks:=tk,drawn:=dw }) Z hN c3 c4 c2 S g hk ho hr hq hno (Nat.lt_of_lt_of_le (Nat.lt_of_lt_of_le (Nat.lt_add_of_pos_right (Nat.succ_pos _)) lq) hn) fun h' tk dw σ2 S2 t2 g2=>wpAny_execs_nil fun Q hn' _=>
   hn' h' tk dw own' m' σ2 (.mk _ g2 (by unfold GL.v at go ⊢;rw[List.map_append];exact go) (fun p hp=>(List.mem_append.mp hp).elim (fun hp=>Nat.le_trans (Nat.add_le_add_left (Nat.le_succ _) _) (ln p (List.mem_append_left _ hp))) fun hp=>(List.mem_cons.mp hp).elim (fun e=>by
     rw[e,List.length_append]
     exact Nat.le_trans (Nat.le_of_eq (Nat.add_assoc _ 1 _)) (Nat.le_trans (Nat.le_of_eq (by rw[Nat.add_comm 1];rfl)) lq)) fun hp=>Nat.le_trans (Nat.add_le_add_left (Nat.le_succ _) _) (ln p (List.mem_append_right _ (.tail _ hp))))
    (by rw[List.length_append] at lg ⊢;exact lg)) (t.trans t2) S2))
theorem grp_body(Z:Cx prog w A base mg mb cf)(hN:6≤N)(hgh:∀ i,N≤i→env.kindOf (Str.ofString (gh i))=none)(hn:n≤big)(hpl:σ₀.lookup "places"=some (false,pl)){s1 s2 s3:Stmt}(c1:grp1 env.kindOf s1=true)(c2:grp2 env.kindOf s2=true)(c3:grp3 env.kindOf s3=true) :
  nv prog w A base ent env "row" (GJ cf pl GF N n σ₀) (fun _ _ _=>False) [s1,s2,s3]:=fun s H₁ own m σ dv rest E hJ S=>by
 refine be (Q:=eD w base ent env H₁ s (own.set "row" none) (GJ cf pl GF N n σ₀) (fun _ _ _=>False) rest) ?_ fun _ _ q=>jpost_nf q
 obtain⟨G,g,go,ln,lg⟩:=hJ
 refine grpD_inv go fun k hcall hk go=>?_
 have g0:GS N σ₀ G (own.set "row" none) (aD σ "row" (false,dv)):=g.other hN fun x h1 _=>⟨.inl (if_neg h1),by rw[aG,if_neg h1]⟩
 have lp:(aD σ "row" (false,dv)).lookup "places"=some (false,pl):=(g0.sm _ (by decide)).trans hpl
 have lr:(aD σ "row" (false,dv)).lookup "row"=some (false,dv):=by rw[aG,if_pos rfl]
 have hd:evF cf (vis (aD σ "row" (false,dv))) (.call "cells_at" [.var "row",.var "places"])=some (k,false):=by
  rw[iQ,ld,ld,evs_nil,eJ,eJ,bE,bE,lr,lp];exact hcall
 refine kk.rec (motive:=fun s1 _=>wpAny (model prog w) A (execs [s1,s2,s3] env) _ E s) (fun {p v pos} hst hc=>?_) (kX (x:="own") (e:=.call "cells_at" [.var "row",.var "places"]) c1)
 refine wpAny_execs_cons (iW Z hst hc S hd ((n3 hc).swap rfl _ _ _) fun u h tk dw Sa ta=>?_)
 generalize hσa:aD (settle k (ME.call "cells_at" [.var "row",.var "places"]).names (aD σ "row" (false,dv))) "own" (false,k)=σa at Sa
 generalize hoa:(cM (own.set "row" none) k (ME.call "cells_at" [.var "row",.var "places"]).names).set "own" (mR false u)=owna at Sa ta
 have la:∀ x,x≠"own"→x="row"∨x="places"∨(x≠"row"∧x≠"places")→σa.lookup x=(aD σ "row" (false,dv)).lookup x:=fun x h1 h2=>by
  rw[← hσa,aG,if_neg h1]
  exact look_settle (h2.elim (fun e=>.inr ⟨dv,e▸lr⟩) fun h2=>h2.elim (fun e=>.inr ⟨pl,e▸lp⟩) fun h2=>.inl fun q=>d4 (show x∈["row","places"] from q) h2.1 h2.2)
 have ga:GS N σ₀ G owna σa:=g0.other hN fun x h1 h2=>by
  by_cases hp:x="places"
  ·exact⟨.inr (hp▸by decide),la x h2 (.inr (.inl hp))⟩
  ·refine⟨.inl ?_,la x h2 (.inr (.inr ⟨h1,hp⟩))⟩
   rw[← hoa]
   refine (if_neg h2).trans ?_
   unfold cM
   split
   ·rfl
   ·exact if_neg fun q=>d4 (show x∈["row","places"] from q) h1 hp
 have loa:σa.lookup "own"=some (false,k):=by rw[← hσa,aG,if_pos rfl]
 have lra:σa.lookup "row"=some (false,dv):=(la _ (by decide) (.inl rfl)).trans lr
 refine qL (C:=fun s2=>wpAny (model prog w) A (execs [s2,s3] env) _ E _) c2 fun v2 b2 o2 p2 c=>fF c fun hct ho2 c=>jO (l:=o2) ho2 (dH (l:=b2) c fun st2 c=>?_)
 have hdt:evE cf (vis σa) (.cmp .NotIn (.var "own") (.var "groups"))=some (.bool (!(G.k.any fun x=>aQ x k))):=by
  rw[ev_cmp,eJ,eJ,bE,bE,loa,ga.gr]
  show (kH k (.dict G.k G.p)).map (fun x=>D.bool (!x))=_
  rw[show kH k (.dict G.k G.p)=some (G.k.any fun x=>aQ x k) from if_pos (kP hk ga.tk)];rfl
 refine wpAny_execs_cons (wpAny_If (run_T (s:={ s with heap:=h,toks:=tk,drawn:=dw }) Z Sa hct hdt rfl fun h2 tk2 dw2 hk2=>?_))
 have Sb:=Sa.keeps hk2
 have tb:Tr s.heap env (own.set "row" none) h2 owna:=ta.trans (.keeps hk2)
 cases hany:G.k.any fun x=>aQ x k with
 | true=>
  obtain⟨G1,q,G2,e,hq,hno⟩:=nK hany
  subst e
  refine wpAny_execs_nil (qz Z hN hn c3 hk Sb tb ga loa lra hq hno ?_ ln (Nat.le_trans (Nat.add_le_add_left (Nat.le_succ _) _) lg))
  have e:GL.v (G1++q::G2)=GL.v G1++(q.1,q.2.2)::GL.v G2:=by unfold GL.v;rw[List.map_append];rfl
  rw[e,oq (q:=(q.1,q.2.2)) hq (v_no hno)] at go
  exact go
 | false=>
  have hno:=none_of_any hany
  rw[if_pos (show (!false)=true from rfl)]
  refine gj c fun ts v pos c=>?_
  refine dH (l:=ts) c fun tt c=>?_
  refine iU (e:=tt) c fun gn on sp c=>fF c fun hcg hco hcl=>?_
  have hG:G.length<n:=Nat.lt_of_lt_of_le (Nat.lt_add_of_pos_right (Nat.succ_pos _)) lg
  refine wpAny_execs_cons (grp_new (s:={ s with heap:=h2,toks:=tk2,drawn:=dw2 }) Z hN hgh hcg hco hcl Sb ga hk loa hno (Nat.lt_of_lt_of_le hG hn) fun h3 tk3 dw3 own3 m3 σ3 b S3 t3 g3 l3=>wpAny_execs_nil ?_)
  refine qz (q:=(k,b,[])) (G2:=[]) Z hN hn c3 hk S3 (tb.trans t3) g3 ((l3 _ (by decide) fun i=>(fQ hN).2.2.1.symm).trans loa) ((l3 _ (by decide) fun i=>(fQ hN).2.1.symm).trans lra) (keyEq_self hk) hno ?_ (fun p hp=>(List.mem_append.mp hp).elim (ln p) fun hp=>?_) ?_
  ·rw[oo (v_no hno)] at go
   exact go
  ·rw[List.mem_singleton.mp hp]
   exact Nat.le_trans (Nat.add_le_add_right (Nat.zero_le _) _) lg
  ·rw[List.length_append]
   exact Nat.le_trans (Nat.le_of_eq (by rw[Nat.add_assoc,Nat.add_comm [_].length];rfl)) lg
theorem ptrs_lists{P:Params}{h:Heap}{H:Addr→Prop}{G:GL}{l:List Value}(hG:∀ q∈G,Rep P h H (.ref q.2.1) (.list q.2.2))(r:aq P h H l G.p):aq P h H l (G.map fun q=>.list q.2.2):=by
 induction G generalizing l with
 | nil=>exact r
 | cons q G ih=>
  cases r with
  | mk h1 h2=>
   have h1:_=Value.ref q.2.1:=h1
   subst h1
   exact .cons (hG q (.head _)) (ih (fun q hq=>hG q (.tail _ hq)) h2)
theorem jG{σ:St}{x:String}{p:Bool×D}(e:(σ.filter fun p=>fO.contains p.1).lookup x=some p):x∈fO∧σ.lookup x=some p:=by
 induction σ with
 | nil=>cases e
 | cons q σ ih=>
  rw[List.filter_cons] at e
  rw[List.lookup_cons]
  cases hx:x == q.1 with
  | true=>
   have e1:=eq_of_beq hx
   cases hc:fO.contains q.1 with
   | true=>
    rw[hc,if_pos rfl,List.lookup_cons,hx] at e
    exact⟨e1▸List.contains_iff_mem.mp hc,e⟩
   | false=>
    rw[hc,if_neg Bool.false_ne_true] at e
    have:=(ih e).1
    rw[e1,← List.contains_iff_mem,hc] at this;cases this
  | false=>
   split at e
   ·rw[List.lookup_cons,hx] at e;exact ih e
   ·exact ih e
theorem grp_end{s:Shared}{h:Heap}{H₀:Addr→Prop}{own:Own}{m:Str→Option Value}{σ:St}(hN:6≤N){rest:List D}(hr:rest=[])(J:GJ cf pl GF N n σ₀ rest own σ)(S:a9 w base ent h env H₀ own m σ) :
  ∃ own',(∀ x a,own' x=some a→own x=some a)∧a9 w base ent h env H₀ own' m (r8 σ₀ GF):=by
 subst hr
 obtain⟨G,g,go,_,_⟩:=J
 have go:G.v=GF:=Option.some.inj go
 subst go
 have S1:=S.freeze ("groups"::(List.range G.length).map fun i=>gh (N+i))
 have hx:∀ x∈fO,x ∉ "groups"::(List.range G.length).map fun i=>gh (N+i):=fun x hx q=>(List.mem_cons.mp q).elim (fun e=>absurd (e▸hx:"groups"∈fO) (by decide)) fun q=>(List.mem_map.mp q).elim fun i z=>(fQ hN).2.2.2 x hx z.2
 generalize hns:"groups"::(List.range G.length).map (fun i=>gh (N+i))=ns at S1 hx
 have fz:∀ x∈ns,∀ d,σ.lookup x=some (true,d)→(freeze ns σ).lookup x=some (false,d):=fun x hx d e=>by rw[aW,e,Option.map_some,List.contains_iff_mem.mpr hx];rfl
 have hlist:∀ q∈G,Rep w.params h (Hot env H₀ (own.less ns)) (.ref q.2.1) (.list q.2.2):=fun q hq=>by
  obtain⟨i,hi,e⟩:=List.getElem_of_mem hq
  have gi:=g.gs i q (e▸List.getElem?_eq_getElem hi)
  obtain⟨v,h1,h2⟩:=S1.plain _ _ (fz _ (hns▸.tail _ (List.mem_map.mpr ⟨i,List.mem_range.mpr hi,rfl⟩)) _ gi.1)
  obtain⟨a,h3,h4,_⟩:=S.owned _ _ gi.1
  have ea:a=q.2.1:=Option.some.inj (h3.symm.trans gi.2)
  exact ea▸Option.some.inj (h1.symm.trans h4)▸h2
 obtain⟨v,hm,rv⟩:=S1.plain _ _ (fz "groups" (hns▸.head _) _ g.gr)
 have rd:Rep w.params h (Hot env H₀ (own.less ns)) v (.dict (G.v.map (·.1)) (G.v.map fun q=>.list q.2)):=by
  have e1:G.v.map (·.1)=G.k:=by unfold GL.v GL.k;rw[List.map_map];rfl
  have e2:G.v.map (fun q=>D.list q.2)=G.map fun q=>.list q.2.2:=by unfold GL.v;rw[List.map_map];rfl
  rw[e1,e2]
  exact lQ.rec (motive:=fun v _=>lQ w.params h (Hot env H₀ (own.less ns)) G.k _ _ v) (fun ho hn hl h1 h2 hh hk hd hs=>.mk ho hn hl h1 (ptrs_lists hlist h2) hh hk hd hs) rv
 refine⟨own.less ns,fun _ _=>cX,{ S1 with plain:=fun y d e=>gz e (fun ey ep=>?_) fun _ e=>?_,owned:=fun y d e=>gz e (fun _ ep=>nomatch (Prod.mk.inj ep).1) fun _ e=>?_ }⟩
 ·exact⟨v,ey▸hm,(Prod.mk.inj ep).2▸rd⟩
 ·have q:=jG e
  refine S1.plain y d ?_
  rw[aW,(g.sm y q.1).trans q.2];rfl
 ·have q:=jG e
  refine S1.owned y d ?_
  rw[aW,(g.sm y q.1).trans q.2,Option.map_some,show ns.contains y=false from Bool.eq_false_iff.mpr fun z=>hx y q.1 (List.contains_iff_mem.mp z)];rfl
theorem isNew_inv{o:Option (Bool×D)}(h:rY o=true):o=some (true,.dict [] []):=by
 unfold rY at h
 split at h
 ·rfl
 ·cases h
theorem xi_grp{σ:St}{r:Fl×St}{C:Prop}(h:exS cf .grp σ=some r)(K:∀ rs pl GF,σ.lookup "rows"=some (false,.list rs)→σ.lookup "places"=some (false,pl)→σ.lookup "groups"=some (true,.dict [] [])→jP cf pl rs []=some GF→(.next,r8 σ GF)=r→C):C:=by
 rw[q9] at h
 cases hg:r7 cf σ with
 | none=>rw[hg] at h;exact ak h
 | some σ'=>
  rw[hg] at h
  unfold r7 at hg
  split at hg
  ·split at hg
   ·exact bQ hg fun h1 hg=>bh hg fun GF h2 e=>K _ _ GF ‹_› ‹_› (isNew_inv h1) h2 (e▸Option.some.inj h)
   ·cases hg
  ·cases hg
theorem ss_grp(Z:Cx prog w A base mg mb cf):SS prog w A base cf .grp:=fun s env st H₀ ent own m σ r E hc S hev=>xi_grp hev fun rs pl GF hrs hpl hgr hD er=>by
 obtain⟨N0,hN0⟩:=gh_fresh env.scope.names
 have hN:6≤max N0 6:=Nat.le_max_right _ _
 have hgh:∀ i,max N0 6≤i→env.kindOf (Str.ofString (gh i))=none:=fun i hi=>hN0 i (Nat.le_trans (Nat.le_max_left _ _) hi)
 have hd:evE cf (vis σ) (.var "rows")=some (.list rs):=by rw[eJ,bE,hrs];rfl
 have hlen:rs.length≤big:=(S.plain _ _ hrs).elim fun v q=>q.2.listE (C:=fun _=>rs.length≤big) fun _ _ _ _ _ hl _=>hl
 have fz:∀ x d,σ.lookup x=some (false,d)→(freeze ["rows"] σ).lookup x=some (false,d):=fun x d e=>by rw[aW,e];rfl
 have fy:∀ x,x≠"rows"→(freeze ["rows"] σ).lookup x=σ.lookup x:=fun x hx=>by
  rw[aW,show["rows"].contains x=false from Bool.eq_false_iff.mpr fun q=>hx (List.mem_singleton.mp (List.contains_iff_mem.mp q))]
  cases σ.lookup x with
  | none=>rfl
  | some p=>exact congrArg some (Prod.ext (Bool.and_true _) rfl)
 have fs:∀ x∈fO,(freeze ["rows"] σ).lookup x=σ.lookup x:=fun x _=>(Classical.em (x="rows")).elim (fun e=>e▸(fz _ _ hrs).trans hrs.symm) (fy x)
 refine er▸lB (C:=fun st=>wpAny (model prog w) A (exec st env) (bp w base ent env H₀ s own (.next,r8 σ GF)) E s) hc fun t it b o p c=>bN c fun c0 c=>jO (l:=o) c0 (bo (e:=t) c fun y yp c=>lP c fun c1=>eqb (a:=y) c1 fun hst hset hcs c=>c3_inv (l:=b) c fun s1 s2 s3 c=>fF c fun b1 b2 b3=>
  be (k6 (ns:=["rows"]) (grp_body (ent:=ent) (GF:=GF) Z hN hgh hlen (σ₀:=σ) hpl b1 b2 b3) S hst hset (fun Q k=>jC Z S hcs hd fun u h₁ tk₁ dw₁ hk rv=>jY (kR (s:={ s with heap:=h₁,toks:=tk₁,drawn:=dw₁ }) rv Z.hh rfl) fun I h tk dw k12 fr ex W=>k I h₁ h tk dw hk k12 fr ex W)
   (.mk [] ⟨fun _ q=>(nomatch q),(fy _ (by decide)).trans hgr,fun i q e=>(by rw[List.getElem?_nil] at e;cases e),fs⟩ hD (fun _ q=>nomatch q) (Nat.le_of_eq (Nat.zero_add _)))) fun f s' q=>?_)
 refine q _ (fun h tk dw own' m' σ' J t S'=>?_) fun _ _ _ _ _ _ _ k=>k.elim
 obtain⟨own2,h1,S2⟩:=grp_end (s:=s) hN rfl J S'
 exact bp.nx (t.trans (.of (fun _ _ e=>e) h1)) S2
end
end Mine
namespace Mine
open PySem PySem.SeqAt
section
variable {prog:Program} {w:World} {A:Around} {base:Heap} {mg mb:Str→Option Value} {cf:CF}
theorem all_S(Z:Cx prog w A base mg mb cf)(ms:MS):SS prog w A base cf ms:=
 MS.rec (motive_1:=SS prog w A base cf) (motive_2:=SSs prog w A base cf) (fun x e=>ss_assign Z x e) (fun x e=>ss_append Z x e) (fun x k e=>ss_setk Z x k e) (fun c t f ht hf=>ss_ite Z ht hf) (fun x src body h=>ss_for Z h) (fun e=>ss_ret Z e)
  (fun s env st H₀ ent own m σ r E hc S hev=>ak hev)
  (ss_grp Z)
  (fun x src body h=>ss_forr Z h)
  (fun e=>ss_expr Z e)
  pF (fun a r ha hr=>nH ha hr) ms
theorem all_Ss(Z:Cx prog w A base mg mb cf)(ms:List MS):SSs prog w A base cf ms:=List.rec (motive:=SSs prog w A base cf) pF (fun a r hr=>nH (all_S Z a) hr) ms
end
end Mine
namespace Mine
open PySem PySem.SeqAt

noncomputable def lK(h:Heap)(cd:Value)(q:Str):Prop:=∃ c o vs t,cd=.ref c∧gat h c=some o∧o.cls=.type "code"∧o.data=.fields vs∧vs[1]?=some (.str q t)
theorem lK.rec{h:Heap}{cd:Value}{q:Str}(x:lK h cd q):h.CodeRec cd q:=x.elim fun c x=>x.elim fun o x=>x.elim fun vs x=>x.elim fun t x=>⟨c,o,vs,t,x.1,Heap.of_gt' x.2.1 (by rw[x.2.2.1];nofun),x.2.2.2⟩
theorem lK.keeps{h h':Heap}{cd:Value}{q:Str}(x:lK h cd q)(hk:KH h h'):lK h' cd q:=x.elim fun c x=>x.elim fun o x=>x.elim fun vs x=>x.elim fun t x=>⟨c,o,vs,t,x.1,hk _ _ x.2.1,x.2.2⟩
structure FnAt(base:Heap)(mg:Str→Option Value)(f:String)(fn:Fn)(a:Addr)(o:Obj)(fd:FuncData)(body:List Stmt):Prop where
 f1:mg (Str.ofString f)=some (.ref a)
 f2:gat base a=some o
 f3:o.data=.func fd
 f4:fd.body=.stmts body
 f5:fd.closure=[]
 f6:fd.globals=mainGlobals
 f7:fd.builtins=builtinsNs
 f8:lK base fd.code fd.qualname
 f9:fd.params.posonlyargs=[]
 f10:fd.params.kwonlyargs=[]
 f11:fd.params.vararg=none
 f12:fd.params.kwarg=none
 f13:fd.defaults=.none
 f14:fd.params.args.map (·.arg)=fn.params.map Str.ofString
 f15:fn.params.Nodup
 f16:fd.scope.kind=.function
 f17:fd.scope.isCoroutine=false
 f18:fd.scope.isGenerator=false
 f19:(fd.scope.names.map (·.1)).Nodup
 f20:(∀ p∈fd.scope.names,p.2≠.free)
 f21:(∀ x∈fn.params,fd.scope.names.lookup (Str.ofString x)=some .local∨fd.scope.names.lookup (Str.ofString x)=some .cell)
 f22:eX (fun x=>fd.scope.names.lookup x) body fn.body=true
 f23:(jf (fun x=>fd.scope.names.lookup x)=true→fd.code=.ref oc∧fd.qualname=ph)
structure FnOk(base:Heap)(mg:Str→Option Value)(f:String)(fn:Fn):Prop where
 ok:∃ a o fd body,FnAt base mg f fn a o fd body

theorem ma{r:List (Str×Value)}{n:Str}(h:¬ n∈r.map (·.1)):r.lookup n=none:=by
 cases q:r.lookup n with
 | none=>rfl
 | some c=>exact absurd (List.mem_map_of_mem (f:=(·.1)) (mem_of_lookup q)) h
theorem bindL_eq{k:KD}(binds:List (Str×Value))(m:Str→Option Value)(x:Str)(hn:(binds.map (·.1)).Nodup)(hk:k x=some .local):bindL k binds m x=(binds.lookup x).or (m x):=by
 induction binds generalizing m with
 | nil=>rfl
 | cons p r ih=>
  have hn:=List.nodup_cons.mp hn
  unfold bindL
  rw[ih _ hn.2,aM]
  by_cases h:x=p.1
  ·subst h
   rw[ma hn.1,if_pos rfl,if_pos hk]
   exact if_pos rfl
  ·rw[if_neg h]
   split
   ·exact congrArg _ (if_neg h)
   ·rfl
theorem bindC_eq{k:KD}(binds:List (Str×Value))(m:Str→Option Value)(x:Str)(hn:(binds.map (·.1)).Nodup)(hk:k x≠some .local):bindC k binds m x=(binds.lookup x).or (m x):=by
 induction binds generalizing m with
 | nil=>rfl
 | cons p r ih=>
  have hn:=List.nodup_cons.mp hn
  unfold bindC
  rw[ih _ hn.2,aM]
  by_cases h:x=p.1
  ·subst h
   rw[ma hn.1,if_pos rfl,if_neg hk]
   exact if_pos rfl
  ·rw[if_neg h]
   split
   ·rfl
   ·exact congrArg _ (if_neg h)
theorem lookup_zip_map{h:Heap}{P:Params}{H:Addr→Prop}{ns:List String}{vs:List Value}{ds:List D}{x:String}{d:D}(r:aq P h H vs ds)(e:(ns.zip ds).lookup x=some d):∃ v,((ns.map Str.ofString).zip vs).lookup (Str.ofString x)=some v∧Rep P h H v d:=by
 induction ns generalizing vs ds with
 | nil=>cases e
 | cons n ns ih=>
  cases ds with
  | nil=>cases e
  | cons d' ds=>
   refine dg.rec (motive:=fun vs _=>∃ v,(((n::ns).map Str.ofString).zip vs).lookup (Str.ofString x)=some v∧Rep P h H v d) (fun hv hr=>?_) r
   rw[List.zip_cons_cons,List.lookup_cons] at e
   rw[List.map_cons,List.zip_cons_cons,aM]
   by_cases h:x=n
   ·subst h
    rw[beq_self_eq_true] at e
    exact⟨_,if_pos rfl,Option.some.inj e▸hv⟩
   ·rw[show (x == n)=false from beq_eq_false_iff_ne.mpr h] at e
    rw[if_neg (fun q=>h (cE q))]
    exact ih hr e
theorem iI(x:String)(ns:List String)(ds:List D):((ns.zip ds).map fun p=>(p.1,(false,p.2))).lookup x=((ns.zip ds).lookup x).map fun d=>(false,d):=by
 generalize ns.zip ds=l
 induction l with
 | nil=>rfl
 | cons p l ih=>
  rw[List.map_cons,List.lookup_cons,List.lookup_cons]
  cases x == p.1 with
  | true=>rfl
  | false=>exact ih

section
variable {prog:Program} {w:World} {base:Heap} {mg mb:Str→Option Value} {P:List (String×Fn)} {X:CF}
theorem rT{a b k j n m l:Nat}(h:a≤b+k)(h2:b+m<l)(h3:k+j+n≤m:=by decide):a+j+n<l:=Nat.lt_of_le_of_lt (Nat.le_trans (Nat.add_le_add_right (Nat.add_le_add_right h j) n) (by rw[Nat.add_assoc b,Nat.add_assoc b];exact Nat.add_le_add_left h3 b)) h2
theorem call_fn(G:GOk mg mb base){A₀:Around}{cf:CF}(hh:A₀.handled=none)(hd:A₀.depth+10<recursionLimit)(hu:A₀.units+40<cLine)(C:∀ A,oR A₀ A→∀ env,dn prog w base mg cf (A.deeper env)){f:String}{fn:Fn}(F:FnOk base mg f fn){ds:List D}(hl:ds.length=fn.params.length)
  {r:Fl×St} (hev:bn cf fn.body ((fn.params.zip ds).map fun p=>(p.1,(false,p.2)))=some r) {d:D} {fr:Bool} (hrn:r.1=.next→d=.none∧fr=false) (hrr:∀ fr' d',r.1=.ret fr' d'→d'=d∧fr'=fr) :
  ∃ a o fd,mg (Str.ofString f)=some (.ref a)∧gat base a=some o∧o.data=.func fd ∧
  ∀ A,oR A₀ A→∀ (s:Shared) (H:Addr→Prop) (vs:List Value) (E:Value→Shared→Prop),HOk base s.heap H→aq w.params s.heap H vs ds→wpAny (model prog w) A (PySem.call (.ref a) vs) (bI w s H d fr) E s:=by
 refine F.ok.elim fun a q=>q.elim fun o q=>q.elim fun fd q=>q.elim fun body q=>q.rec fun f1 f2 f3 f4 f5 f6 f7 f8 f9 f10 f11 f12 f13 f14 f15 f16 f17 f18 f19 f20 f21 f22 f23=>⟨a,o,fd,f1,f2,f3,fun A hN s H vs E hw hvs=>?_⟩
 replace hh:A.handled=none:=hN.handled.trans hh
 have hrm:np (A.deeper default):=⟨rT hN.units hu,rT hN.depth hd⟩
 replace hd:A.depth<recursionLimit:=Nat.lt_of_le_of_lt hN.depth (Nat.lt_of_le_of_lt (Nat.add_le_add_left (by decide) _) hd)
 have hnames:(fd.params.args.map (·.arg)).Nodup:=f14▸List.pairwise_map.mpr (f15.imp fun hne e=>hne (cE e))
 have hlen:(fd.params.args.map (·.arg)).length=vs.length:=by rw[f14,List.length_map,hvs.length,hl]
 have hbn:((((fd.params.args.map (·.arg)).zip vs)).map (·.1))=fd.params.args.map (·.arg):=jX hlen
 have hnb:((((fd.params.args.map (·.arg)).zip vs)).map (·.1)).Nodup:=hbn.symm▸hnames
 have cellAt:∀ x,fd.scope.names.lookup x=some .cell→∃ c,(callEnvC fd s.heap.objs.size a).cells.lookup x=some c:=fun x hx=>(dM fd.scope.names (s.heap.objs.size+1) x (mem_of_lookup hx)).elim fun c hc=>cN hc
 refine wpAny_call (codeAny_call_cells (binds:=(fd.params.args.map (·.arg)).zip vs) hd (Heap.of_gt (hw.keep _ _ f2) (bT (by rw[f3];nofun))) f3 (NoLimit.keepG G.lim hw.keep) (f8.keeps hw.keep).rec f4 (gk (vals:=vs) f9 f10 f11 f12 f13 hnames hlen) f5 (fun x hx=>?_) (fun s₁ ic=>?_) f17 f18 f16)
 ·have hx':x.1∈fn.params.map Str.ofString:=f14▸hbn▸List.mem_map_of_mem hx
  exact (List.mem_map.mp hx').elim fun z q=>q.2▸(f21 z q.1).imp id fun e=>⟨e,(cellAt _ e).elim fun c h=>by rw[show (cellsFrom (s.heap.objs.size+1) fd.scope.names []).lookup (Str.ofString z)=some c from h];rfl⟩
 ·obtain⟨h₁,tk₁,rfl,hk⟩:=ic.toInCall.done
  replace hk:=Heap.gt_up hk
  have cge:∀ x c,(callEnvC fd s.heap.objs.size a).cells.lookup x=some c→@LT.lt Nat _ s.heap.objs.size c:=fun x c hc=>ic.above x c (mem_of_lookup hc)
  have R:a7 h₁ (callEnvC fd s.heap.objs.size a) (fun x=>((fd.params.args.map (·.arg)).zip vs).lookup x):=by
   refine⟨f16,f6,f7,⟨_,ic.toInCall.ns,fun x hx=>?_⟩,fun x hx=>?_,fun x y c h1 h2=>name_of_addr ic.apart (mem_of_lookup h1) (mem_of_lookup h2),fun x c hc e=>Nat.lt_irrefl _ (e▸cge x c hc),fun x c hc=>j9 (ic.cell x c hc),fun ho=>⟨(f23 ho).1,by show fd.qualname++_=_;rw[(f23 ho).2];rfl⟩⟩
   ·rw[bindL_eq _ _ x hnb hx,Option.or_none]
   ·have hcell:fd.scope.names.lookup x=some .cell:=hx.elim id fun q=>absurd rfl (f20 _ (mem_of_lookup q))
    refine (cellAt x hcell).elim fun c hc=>⟨c,hc,?_⟩
    have:=ic.cell x c hc
    rwa [bindC_eq _ _ x hnb (by rw[show (callEnvC fd s.heap.objs.size a).kindOf x=_ from hcell];nofun),Option.or_none] at this
  have frn:∀ b,frm (callEnvC fd s.heap.objs.size a) b→gat s.heap b=none:=fun b q=>q.elim (fun q=>q▸b9 _) fun q=>q.elim fun x q=>Heap.gt_none_of_le (Nat.le_of_lt (cge x b q))
  have hot:∀ b,Hot (callEnvC fd s.heap.objs.size a) H (fun _=>none) b→H b∨frm (callEnvC fd s.heap.objs.size a) b:=fun b q=>q.imp id fun q=>q.elim id fun q=>q.elim fun _ e=>ak e
  have S:a9 w base s.heap h₁ (callEnvC fd s.heap.objs.size a) H (fun _=>none) (fun x=>((fd.params.args.map (·.arg)).zip vs).lookup x) ((fn.params.zip ds).map fun p=>(p.1,(false,p.2))):=by
   refine⟨R,fun x d' e=>?_,fun x d' e=>?_,⟨fun b o' e=>hk b o' (hw.keep b o' e),fun b q=>(hot b q).elim (fun q=>(hw.ex b q).elim fun b' z=>z.elim fun o' z=>⟨b',o',z.1,hk _ _ z.2⟩) fun q=>(dQ R q).elim fun o' ho'=>⟨b,o',Nat.le_refl _,ho'⟩,fun b o' e q=>(hot b q).elim (hw.off b o' e) fun q=>bD (hw.keep b o' e) (frn b q)⟩,hk,frn,fun x c e=>ak e,fun x y c e=>ak e,fun x c e=>ak e⟩
   ·rw[iI] at e
    exact bh e fun d'' e1 e2=>(lookup_zip_map (ns:=fn.params) hvs e1).elim fun v q=>⟨v,f14▸q.1,(Prod.mk.inj e2).2▸q.2.mono (fun b o' _ e=>hk b o' e) fun b o' e q=>(hot b q).elim id fun q=>bD e (frn b q)⟩
   ·rw[iI] at e
    exact bh e fun _ _ e2=>nomatch (Prod.mk.inj e2).1
  exact wp_S (all_Ss ⟨G,C A hN (callEnvC fd s.heap.objs.size a),hh,⟨hrm.units,hrm.depth⟩⟩ (A:=A.deeper (callEnvC fd s.heap.objs.size a)) fn.body { s with heap:=h₁,toks:=tk₁ } (callEnvC fd s.heap.objs.size a) body H s.heap (fun _=>none) _ _ r _ f22 S hev)
   (fun h' tk' dw' own' m' e _ S'=>⟨.mk h' tk' dw' S'.keep,(hrn e).1▸rfl,fun q=>nomatch (hrn e).2.symm.trans q⟩) fun h' tk' dw' fr' d' v e _ R=>(hrr _ _ e).1▸(hrr _ _ e).2▸⟨.mk h' tk' dw' R.keep,R.rep,R.fr⟩

theorem AOk.zero{A:Around}{n:Nat}(h:AOk A n):AOk A 0:=⟨h.handled,Nat.lt_of_le_of_lt (Nat.add_le_add_right (Nat.add_le_add_left (Nat.zero_le _) _) _) h.depth,Nat.lt_of_le_of_lt (Nat.add_le_add_right (Nat.add_le_add_left (Nat.zero_le _) _) _) h.units⟩
theorem AOk.deeper{A A':Around}{n:Nat}(h:AOk A (n+1))(hN:oR A A')(env:Env):AOk (A'.deeper env) n:=⟨hN.handled.trans h.handled,Nat.lt_of_le_of_lt (by
  have:=hN.depth
  show A'.depth+1+2 * n+20≤A.depth+2 * (n+1)+20
  omega) h.depth,Nat.lt_of_le_of_lt (by
  have:=hN.units
  show A'.units+3+13 * n+100≤A.units+13 * (n+1)+100
  omega) h.units⟩
theorem callN_sound(G:GOk mg mb base)(HF:∀ f fn,P.lookup f=some fn→FnOk base mg f fn)(HX:∀ A,AOk A 0→dn prog w base mg X A)(n:Nat):∀ (A:Around),AOk A n→dn prog w base mg (am P X n) A:=by
 induction n with
 | zero=>exact fun A hA=>⟨fun f ds d fr h=>ak h,(HX A hA).glob⟩
 | succ n ih=>
  refine fun A hA=>⟨fun f ds d fr h=>?_,(HX A hA.zero).glob⟩
  simp only[am] at h
  cases hf:P.lookup f with
  | none=>rw[hf] at h;exact (HX A hA.zero).call f ds d fr h
  | some fn=>
   rw[hf] at h
   refine bQ h fun hl h=>?_
   have hd:A.depth+10<recursionLimit:=Nat.lt_of_le_of_lt (Nat.add_le_add (Nat.le_add_right _ _) (by decide)) hA.depth
   have hu:A.units+40<cLine:=Nat.lt_of_le_of_lt (Nat.add_le_add (Nat.le_add_right _ _) (by decide)) hA.units
   cases he:bn (am P X n) fn.body ((fn.params.zip ds).map fun p=>(p.1,(false,p.2))) with
   | none=>rw[he] at h;exact ak h
   | some r=>
    rw[he] at h
    obtain⟨fl,σ⟩:=r
    refine call_fn G hA.handled hd hu (fun A' hN env=>ih _ (hA.deeper hN env)) (HF f fn hf) hl he ?_ ?_
    ·intro q
     have q:fl=.next:=q
     subst q
     exact⟨(Prod.mk.inj (Option.some.inj h)).1.symm,(Prod.mk.inj (Option.some.inj h)).2.symm⟩
    ·intro fr' d' q
     have q:fl=.ret fr' d':=q
     subst q
     exact Prod.mk.inj (Option.some.inj h)
end
end Mine
namespace Mine
open PySem PySem.SeqAt PySem.W PyProof.Rows

noncomputable def chkFn(d:DefRec)(fn:Fn):Bool:=
 (d.params.posonlyargs.isEmpty&&d.params.kwonlyargs.isEmpty&&d.params.vararg.isNone&&d.params.kwarg.isNone&&d.params.args.map (·.arg) == fn.params.map Str.ofString)&&(decide fn.params.Nodup &&
 d.scope.kind == .function&&!d.scope.isCoroutine&&!d.scope.isGenerator&&decide (d.scope.names.map (·.1)).Nodup)&&(d.scope.names.all (fun p=>p.2 != .free) &&
 fn.params.all (fun x=>d.scope.names.lookup (Str.ofString x) == some .local||d.scope.names.lookup (Str.ofString x) == some .cell)&&eX (fun x=>d.scope.names.lookup x) d.body fn.body&&(!jf (fun x=>d.scope.names.lookup x)||d.name == ph))
noncomputable def nj(recs:List DefRec)(P:List (String×Fn)):Bool:=P.all fun q=>match recs.find? (fun d=>d.name == Str.ofString q.1) with
 | some d=>chkFn d q.2
 | none=>false
noncomputable def ki(p:Program)(loose:List Str):Bool:=((recsOf p).map (·.name)).contains ph&&cj.all fun f=>!startupNames.contains (Str.ofString f)&&!loose.contains (Str.ofString f)&&!((recsOf p).map (·.name)).contains (Str.ofString f)&&!((litsOf p).map (·.1)).contains (Str.ofString f)&&!((clssOf p loose).map (·.name)).contains (Str.ofString f)

theorem mem_of_lookupS{α:Type}{l:List (String×α)}{x:String}{c:α}(h:l.lookup x=some c):(x,c)∈l:=by
 induction l with
 | nil=>cases h
 | cons p l ih=>
  rw[List.lookup_cons] at h
  cases e:x == p.1 with
  | true=>rw[e] at h;exact (show (x,c)=p from Prod.ext (eq_of_beq e) (Option.some.inj h).symm)▸.head _
  | false=>rw[e] at h;exact .tail _ (ih h)

noncomputable def TbOk(mg:Str→Option Value)(h:Heap):Prop:=∃ a o fd c vs,mg ph=some (.ref a)∧h.get? a=some o∧o.data=.func fd∧fd.code=.ref oc∧h.get? oc=some c∧c.data=.fields vs∧vs[11]?=some (.ref tb)
theorem TbOk.keeps{mg:Str→Option Value}{h h':Heap}(x:TbOk mg h)(hk:∀ b o,h.get? b=some o→h'.get? b=some o):TbOk mg h':=
 x.elim fun a x=>x.elim fun o x=>x.elim fun fd x=>x.elim fun c x=>x.elim fun vs x=>⟨a,o,fd,c,vs,x.1,hk _ _ x.2.1,x.2.2.1,x.2.2.2.1,hk _ _ x.2.2.2.2.1,x.2.2.2.2.2⟩
theorem cRef_inv{v:Option Value}{f:Addr→Bool}{C:Prop}(h:cRef v f=true)(k:∀ a,v=some (.ref a)→f a=true→C):C:=by
 cases v with
 | none=>cases h
 | some v=>cases v with
  | ref a=>exact k a rfl h
  | _=>cases h
theorem oJ{v:Option Obj}{f:Data→Bool}{C:Prop}(h:cObj v f=true)(k:∀ o,v=some o→f o.data=true→C):C:=by
 cases v with
 | none=>cases h
 | some v=>exact k v rfl h
theorem tb_of(s:Shared)(e:tbAt s=true):TbOk (s.heap.nsMap mainGlobals) s.heap:=by
 refine cRef_inv e fun a ha e=>oJ e fun o ho e=>?_
 generalize hd:o.data=dt at e
 cases dt with
 | func fd=>
  refine bN e fun e1 e=>oJ e fun c hc e=>?_
  generalize hd2:c.data=dt at e
  cases dt with
  | fields vs=>exact⟨a,o,fd,c,vs,ha,ho,hd,eq_of_beq e1,hc,hd2,eq_of_beq e⟩
  | _=>cases e
 | _=>cases e
theorem lam_of{p:Program}{loose:List Str}{mean:ExcName→Option Value}{mg mb:Str→Option Value}{h:Heap}(T:Top p loose mean mg mb h)(hB:ki p loose=true)(hT:TbOk mg h):h.IsCode oc tb #[]∧h.TableAt oc tb #[]∧h.BuiltinsAt mg tb:=by
 refine Classical.byContradiction fun hG=>bN hB fun hB _=>?_
 obtain⟨d,hd,hn⟩:=List.mem_map.mp (List.contains_iff_mem.mp hB)
 obtain⟨a',o',fd',c,Pl,g1,g2,g3,g4,g5,g6⟩:=T.tab d hd
 obtain⟨a,o,fd,oc',vs,q1,q2,q3,q4,q5,q6,q7⟩:=hT
 rw[hn,q1] at g1;cases g1
 rw[q2] at g2;cases g2
 rw[q3] at g3;cases g3
 have e1:c=oc:=(Value.ref.inj ((show Value.ref oc=Value.ref c from q4.symm.trans g4))).symm
 subst e1
 obtain⟨o1,v1,r1,_,r2,r3⟩:=g6.1
 rw[q5] at r1;cases r1
 rw[q6] at r2;cases r2
 have e2:Pl=tb:=(Value.ref.inj (Option.some.inj (q7.symm.trans r3))).symm
 subst e2
 obtain⟨bm,ob,b1,b2,b3,b4,b5,b6⟩:=T.bmain
 refine hG ⟨g5,g6,bm,ob,b1,b2,fun q=>?_,fun q=>?_,b3,b4,b5,b6⟩
 ·obtain⟨o,es,ep,e,hd,_⟩:=T.g
  rw[q,e] at b3;cases b3;rw[hd] at b6;cases b6
 ·rw[q,g6.2] at b3;cases b3;cases b4

theorem notT:∀ {b:Bool},(!b)=true→b=false
 | false,_=>rfl
theorem fnOk_of{p:Program}{loose:List Str}{mean:ExcName→Option Value}{mg mb:Str→Option Value}{h:Heap}(T:Top p loose mean mg mb h)(htb:TbOk mg h)(htt:h.TableAt oc tb #[]){P:List (String×Fn)}(hP:nj (recsOf p) P=true){f:String}{fn:Fn}(hf:P.lookup f=some fn):FnOk h mg f fn:=by
 refine Classical.byContradiction fun hG=>?_
 have this:=List.all_eq_true.mp hP _ (mem_of_lookupS hf)
 dsimp only at this
 cases hd:(recsOf p).find? (fun d=>d.name == Str.ofString f) with
 | none=>rw[hd] at this;cases this
 | some d=>
  rw[hd] at this
  have hn:d.name=Str.ofString f:=eq_of_beq (List.find?_some (p:=fun d:DefRec=>d.name == Str.ofString f) hd)
  have hm:=List.mem_of_find?_eq_some hd
  obtain⟨a,o,pm,code,doc,h1,h2,h3,h4⟩:=T.fn d hm
  refine fF this fun k1 k2 k3=>lP k1 fun c1 c2 c3 c4 c5=>lP k2 fun c6 c7 c8 c9 c10=>nl k3 fun c11 c12 c13 c14=>?_
  have h5:lK h code d.name:=by
   obtain⟨a',o',fd',c,Pl,g1,g2,g3,g4,_,⟨oc,vc,g5,g6,_⟩,_⟩:=T.tab d hm
   rw[h1] at g1;cases g1
   rw[h2] at g2;cases g2
   rw[h3] at g3;cases g3
   obtain⟨c',o'',vs,t,q1,q2,q3,q4⟩:=h4
   have q5:c'=c:=Value.ref.inj (show Value.ref c'=Value.ref c from q1.symm.trans g4)
   subst q5
   rw[q2] at g5;cases g5
   have hne:c'≠tb:=fun q=>by
    rw[q,htt.2] at q2
    rw[← Option.some.inj q2] at g6;cases g6
   exact⟨c',_,vs,t,q1,by rw[Heap.gt_ne hne];exact q2,g6,q3,q4⟩
  refine hG ⟨a,o,_,d.body,hn▸h1,Heap.gt_of h2 (bT (by rw[h3];nofun)),h3,rfl,rfl,rfl,rfl,h5,List.isEmpty_iff.mp c1,List.isEmpty_iff.mp c2,Option.isNone_iff_eq_none.mp c3,Option.isNone_iff_eq_none.mp c4,rfl,eq_of_beq c5,of_decide_eq_true c6,eq_of_beq c7,notT c8,notT c9,of_decide_eq_true c10,fun q hq=>bne_iff_ne.mp (List.all_eq_true.mp c11 q hq),fun x hx=>(Bool.or_eq_true_iff.mp (List.all_eq_true.mp c12 x hx)).imp eq_of_beq eq_of_beq,c13,fun ho=>?_⟩
  have hl:d.name=ph:=(Bool.or_eq_true_iff.mp c14).elim (fun q=>by rw[show jf (fun x=>d.scope.names.lookup x)=true from ho] at q;cases q) eq_of_beq
  obtain⟨a',o',fd',_,_,q1,q2,q3,q4,_⟩:=htb
  rw[hl,q1] at h1;cases h1
  rw[q2] at h2;cases h2
  rw[q3] at h3;cases h3
  exact⟨q4,hl⟩

theorem gOk_of{p:Program}{loose:List Str}{mean:ExcName→Option Value}{mg mb:Str→Option Value}{h:Heap}(T:Top p loose mean mg mb h)(hB:ki p loose=true)(hT:TbOk mg h):GOk mg mb h:=by
 refine⟨T.g,T.b,T.nolimit,fun f hf=>⟨?_,?_⟩,lam_of T hB hT⟩
 ·refine bN hB fun _ hB=>lP (List.all_eq_true.mp hB f hf) fun c1 c2 c3 c4 c5=>?_
  simp only[Bool.not_eq_true',List.contains_eq_mem,decide_eq_false_iff_not] at c1 c2 c3 c4 c5
  exact T.free _ c1 c2 c3 c4 c5
 ·rw[T.builtins]
  ·have:(cj.all fun f=>bootBuiltins (Str.ofString f) == some (cJ f))=true:=by decide +kernel
   exact eq_of_beq (List.all_eq_true.mp this f hf)
  ·have:(cj.all fun f=>Str.ofString f != Str.ofString "__name__")=true:=by decide +kernel
   exact bne_iff_ne.mp (List.all_eq_true.mp this f hf)

theorem oldK_of{h h':Heap}(htb:∃ c,h.TableAt c tb #[])(hk:KH h h'):OldK h h':=by
 obtain⟨c,ht⟩:=htb
 have one:∀ b o,h.get? b=some o→h'.get? b=some o∨b=tb∧o=qV∧∃ xs,h'.get? b=some { cls:=.none,data:=.fields xs }:=fun b o e=>by
  by_cases hb:b=tb
  ·subst hb
   have eo:o=qV:=Option.some.inj (e.symm.trans ht.2)
   obtain⟨o',e',⟨_,q⟩ | ⟨_,_,xs,q,_⟩⟩:=Heap.gt_some (hk _ _ (Heap.gt_good ht.2 fD.empty))
   ·cases q rfl
   ·exact .inr ⟨rfl,eo,xs,q▸e'⟩
  ·have q:=hk b o (by rw[Heap.gt_ne hb];exact e)
   rw[Heap.gt_ne hb] at q
   exact .inl q
 refine⟨fun b o e=>?_,fun b o e=>?_⟩
 ·rcases one b o e with q | ⟨rfl,rfl,xs,q⟩
  ·exact .inl q
  ·exact .inr (.inl ⟨ht.isCodeTable,rfl,#[],xs,rfl,by rw[q,Array.empty_append]⟩)
 ·rcases one b o e with q | ⟨_,_,xs,q⟩
  ·exact⟨_,q⟩
  ·exact⟨_,q⟩
theorem wellInts{P:Params}{h:Heap}{H:Addr→Prop}{ns:List Int}{vs:List Value}(hw:WellAll P h vs (ofPys (ns.map PyData.int))):aq P h H vs (ns.map .int):=by
 induction ns generalizing vs with
 | nil=>cases hw;rfl
 | cons n ns ih=>
  cases hw with
  | cons h1 h2=>
   cases h1
   exact .mk (.mk _) (ih h2)
theorem aOk_top{N:Nat}(hN:N≤300):AOk callerA N:=⟨rfl,by
  show 1+claimMargin+2 * N+20<recursionLimit
  have e1:claimMargin=300:=rfl
  have e2:recursionLimit=1000:=rfl
  omega,by
  show 4+13 * N+100<cLine
  have e2:cLine=9900:=rfl
  omega⟩
theorem law_fin{l:OpenLaw}{w:World}{s₀ s₁:Shared}{mg mb:Str→Option Value}{p:Program}{loose:List Str}{mean mean':ExcName→Option Value}{P:List (String×Fn)}{X:CF}(N:Nat)(T:Top p loose mean mg mb s₁.heap)
  (hP:nj (recsOf p) P=true) (hB:ki p loose=true) (hN:N≤300) (HX:∀ A,AOk A 0→dn l.prog w s₁.heap mg X A) (htb:TbOk mg s₁.heap)
  {fa a:Addr} {ns:List Int} (hmg:mg (Str.ofString "law")=some (.ref fa)) (hg:s₁.gens=#[]) (hw:Well w.params s₁.heap (.ref a) (ofPy (PyData.list (ns.map PyData.int)))) (hlen:¬ ((63:Nat):Int)<(ns.length:Int))
  (hpure:∃ fr,(am P X N).call "law" [.list (ns.map .int)]=some (.bool true,fr)) :
  wpAny (model l.row.toRowW.prog w) callerA (call (.ref fa) [.ref a]) (fun v s'=>GoodWG l.row.toRowW.claim (classAt s₀.heap) mean' [ofPy (PyData.list (ns.map PyData.int))] s₁ (.ok (.ret v)) s')
   (fun e s'=>GoodWG l.row.toRowW.claim (classAt s₀.heap) mean' [ofPy (PyData.list (ns.map PyData.int))] s₁ (.error e) s') s₁:=by
 have G:=gOk_of T hB htb
 have hrep:Rep w.params s₁.heap (fun _=>False) (.ref a) (.list (ns.map .int)):=by
  cases hw with
  | list ho hr=>exact .mk ho (fun q=>q) (by rw[List.length_map];exact Nat.le_trans (Int.ofNat_le.mp (Int.not_lt.mp hlen)) (by decide)) (wellInts (by simpa using hr))
 refine hpure.elim fun fr hp=>((callN_sound (prog:=l.prog) (w:=w) G (fun f fn hf=>fnOk_of T htb G.lam.2.1 hP hf) HX N callerA (aOk_top hN)).call "law" _ _ fr hp).elim fun a' q=>q.elim fun o q=>q.elim fun fd q=>?_
 have e:a'=fa:=Value.ref.inj (Option.some.inj (q.1.symm.trans hmg))
 subst e
 refine be (q.2.2.2 callerA (.refl _) s₁ (fun _=>False) [.ref a] _ ⟨fun _ _ e=>e,fun _ q=>q.elim,fun _ _ _ q=>q⟩ (.cons hrep .nil)) fun v s' q=>q.rec fun k r _=>?_
 refine bj.rec (motive:=fun s' _=>GoodWG l.row.toRowW.claim (classAt s₀.heap) mean' [ofPy (PyData.list (ns.map PyData.int))] s₁ (.ok (.ret v)) s') (fun h' tk dw hk=>?_) k
 rw[show v=.bool true from r]
 exact⟨.inl ⟨.bool true,.bool true,[],rfl,fun _=>rfl,.bool true,postW_of (r:=l.row.toRowW) rfl (w_eq_bool (w_res rfl) w_lit) rfl,fun _=>⟨.nil,fun _ h=>nomatch h⟩⟩,oldK_of ⟨_,G.lam.2.1⟩ hk,rfl,.of_eq hg⟩
end Mine
namespace Mine
open PySem
noncomputable def Run(cf:CF)(ss:List MS)(σ:St)(d:D)(fr:Bool):Prop:=fin (bn cf ss σ)=some (d,fr)
structure Stp(cf:CF)(s:MS)(σ σ':St):Prop where
 go:∀ r,bn cf (s::r) σ=bn cf r σ'
section
variable {cf:CF} {ρ:List (String×D)} {σ σ':St} {a b c e:ME} {d x y:D} {i j:Int} {fr:Bool} {r t f body:List MS} {z:String}
theorem ax(h:evE cf ρ e=some d)(hc:j6 e=none)(hf:frF e d=fr):evF cf ρ e=some (d,fr):=by
 unfold evF;rw[hc,h];show some (d,frF e d)=_;rw[hf]
theorem aK{g:String}{as:List ME}{ds:List D}(h:bF cf ρ as=some ds)(hc:cf.call g ds=some (d,fr)):evF cf ρ (.call g as)=some (d,fr):=by
 rw[iQ,h];exact hc
theorem ay{g:String}{as:List ME}{ds:List D}(h:bF cf ρ as=some ds)(hc:cf.call g ds=some (d,fr)):evE cf ρ (.call g as)=some d:=by
 rw[e_call,h];show (cf.call g ds).map _=_;rw[hc];rfl
theorem ad{es:List ME}{ds:List D}(h:evE cf ρ e=some d)(hs:bF cf ρ es=some ds):bF cf ρ (e::es)=some (d::ds):=by
 rw[es_cons,h,hs];rfl
theorem ao{op:Operator}(ha:evE cf ρ a=some x)(hb:evE cf ρ b=some y)(h:du op x y=some d):evE cf ρ (.bin op a b)=some d:=by
 rw[e_bin,ha,hb];exact h
theorem oN(h:-lim<j∧j<lim):du .Mult (.int i) (.int j)=some (.int (i * j)):=if_pos (.inr h)
theorem lF(h:-lim<i∧i<lim):du .Mult (.int i) (.int j)=some (.int (i * j)):=if_pos (.inl h)
theorem aS(h:0<j∧j<lim):du .FloorDiv (.int i) (.int j)=some (.int (i / j)):=if_pos h
theorem aI(h:0<j):du .Mod (.int i) (.int j)=some (.int (i % j)):=if_pos h
theorem qQ(h:-dU<i∧i<dU∧0≤j∧j≤100):du .Pow (.int i) (.int j)=some (.int (i ^ j.toNat)):=if_pos h
theorem bY:du .Add (.int i) (.int j)=some (.int (i+j)):=rfl
theorem pu:du .Sub (.int i) (.int j)=some (.int (i - j)):=rfl
theorem aA{op:CmpOp}(ha:evE cf ρ a=some x)(hb:evE cf ρ b=some y)(h:dZ op x y=some d):evE cf ρ (.cmp op a b)=some d:=by
 rw[e_cmp,ha,hb];exact h
theorem av(ha:evE cf ρ a=some x)(hb:evE cf ρ b=some y)(h:aT x y=some d):evE cf ρ (.sub a b)=some d:=by
 rw[e_sub,ha,hb];exact h
theorem qU{l h:ME}{u v:D}(ha:evE cf ρ a=some x)(hl:evE cf ρ l=some u)(hh:evE cf ρ h=some v)(hd:slD x u v=some d):evE cf ρ (.sl a l h)=some d:=by
 rw[e_sl,ha,hl,hh];exact hd
theorem jy{k:Bool}(ha:evE cf ρ a=some x)(h:br x=some k):evE cf ρ (.not a)=some (.bool (!k)):=by
 rw[e_not,ha];show (br x).map _=_;rw[h];rfl
theorem lU{T:String}{k:Bool}(ha:evE cf ρ a=some x)(h:kT x T=some k):evE cf ρ (.isi a T)=some (.bool k):=by
 rw[e_isi,ha];show (kT x T).map _=_;rw[h];rfl
theorem cn{g:String}{as:List ME}{ds:List D}(ha:bF cf ρ as=some ds)(h:eZ g ds=some d):evE cf ρ (.blt g as)=some d:=by
 rw[e_blt,ha];exact h
theorem bx{as:List ME}{ds:List D}(ha:bF cf ρ as=some ds)(h:ds.length≤big):evE cf ρ (.tup as)=some (.tup ds):=by
 rw[e_tup,ha];exact if_pos h
theorem cR{as:List ME}{ds:List D}(ha:bF cf ρ as=some ds)(h:ds.length≤big):evE cf ρ (.lst as)=some (.list ds):=by
 rw[e_lst,ha];exact if_pos h
theorem v_sset(ha:evE cf ρ a=some x)(h:ku x=some d):evE cf ρ (.sset a)=some d:=by rw[e_sset,ha];exact h
theorem v_lcp{ds:List D}(ha:evE cf ρ a=some x)(h:n0 x=some ds):evE cf ρ (.lcp a)=some (.list ds):=by
 rw[e_lcp,ha];show (n0 x).map _=_;rw[h];rfl
theorem gY{elt src:ME}{cs:List ME}{its ds:List D}(ha:evE cf ρ src=some x)(hi:x.items=some its)(hl:its.length≤big)(h:bk (jL cf ρ elt z cs) its=some ds):evE cf ρ (.comp elt z src cs)=some (.list ds):=by
 rw[e_comp,ha];show (match x.items with | some its=>_ | none=>_)=_;rw[hi];show (if its.length≤big then _ else _)=_;rw[if_pos hl,h];rfl

theorem gK{k l:Bool}{r':List ME}(ha:evE cf ρ a=some (.bool k))(hb:k=true→evE cf ρ (.bop .And (b::r'))=some (.bool l)):evE cf ρ (.bop .And (a::b::r'))=some (.bool (k&&l)):=by
 rw[e_bop,b_and,ha,pQ]
 cases k with
 | false=>rfl
 | true=>exact hb rfl
theorem gX{k l:Bool}{r':List ME}(ha:evE cf ρ a=some (.bool k))(hb:k=false→evE cf ρ (.bop .Or (b::r'))=some (.bool l)):evE cf ρ (.bop .Or (a::b::r'))=some (.bool (k||l)):=by
 rw[e_bop,b_or,ha,pQ]
 cases k with
 | true=>rfl
 | false=>exact hb rfl
theorem bS{op:BoolOp}(ha:evE cf ρ a=some d):evE cf ρ (.bop op [a])=some d:=ha
theorem au(h:evF cf (vis σ) e=some (d,fr)):Stp cf (.assign z e) σ (aD (settle d e.names σ) z (fr,d)):=⟨fun r=>rf (by rw[lR,h])⟩
theorem ee{ds:List D}(h:evE cf (vis σ) e=some d)(hl:(settle d e.names σ).lookup z=some (true,.list ds))(hb:ds.length<big):Stp cf (.append z e) σ (aD (settle d e.names σ) z (true,.list (ds++[d]))):=⟨fun r=>rf (by rw[xs_append,h];dsimp only;rw[hl];exact if_pos hb)⟩
theorem pe{k:ME}{dk:D}{ks vs:List D}(h:evE cf (vis σ) e=some d)(hk:evE cf (vis σ) k=some dk)(hl:(settle dk k.names (settle d e.names σ)).lookup z=some (true,.dict ks vs))(hb:(cB dk ks&&decide (ks.length<big))=true) :
  Stp cf (.setk z k e) σ (aD (settle dk k.names (settle d e.names σ)) z (true,.dict (cw ks vs dk d).1 (cw ks vs dk d).2)):=⟨fun r=>rf (by rw[xs_setk,h];dsimp only;rw[hk];dsimp only;rw[hl];exact if_pos hb)⟩
theorem p_grp(h:r7 cf σ=some σ'):Stp cf .grp σ σ':=⟨fun r=>rf (by rw[q9,h])⟩
theorem aC{s:MS}(h:Stp cf s σ σ')(k:Run cf r σ' d fr):Run cf (s::r) σ d fr:=by unfold Run;rw[h.go];exact k
theorem bb{k:Bool}(h:evE cf (vis σ) c=some x)(hx:br x=some k)(ht:k=true→Run cf (t++r) σ d fr)(hf:k=false→Run cf (f++r) σ d fr):Run cf (.ite c t f::r) σ d fr:=by
 unfold Run;rw[re h hx]
 cases k with
 | true=>exact ht rfl
 | false=>exact hf rfl
theorem aP(h:evF cf (vis σ) e=some (d,fr))(hv:e.varOf=none):Run cf (.ret e::r) σ d fr:=by unfold Run;rw[pB (x_rv hv h)];rfl
theorem dT(h:σ.lookup z=some (fr,d)):Run cf (.ret (.var z)::r) σ d fr:=by unfold Run;rw[pB (x_rx h)];rfl
theorem fu{src:ME}{its:List D}(hs:evE cf (vis σ) src=some x)(hi:x.items=some its)(h:bU (cH cf body z) its (freeze src.names σ)=some (.next,σ'))(k:Run cf r σ' d fr):Run cf (.for_ z src body::r) σ d fr:=by
 unfold Run;rw[rg hs hi,h];exact k
theorem pd{src:ME}{its:List D}(hs:evE cf (vis σ) src=some x)(hi:x.items=some its)(h:bU (cH cf body z) its (freeze src.names σ)=some (.ret fr d,σ')):Run cf (.for_ z src body::r) σ d fr:=by
 unfold Run;rw[rg hs hi,h];rfl
theorem hZ(h:evE cf (vis σ) e=some d)(hd:d.scalar=true):Stp cf (.expr e) σ σ:=⟨fun r=>rf (by rw[xs_expr,h];exact if_pos hd)⟩
theorem r_forr{src:ME}{ds:List D}(hs:evE cf (vis σ) src=some (.tup ds))(h:bU (cH cf body z) ds.reverse (freeze src.names σ)=some (.next,σ'))(k:Run cf r σ' d fr):Run cf (.forr z src body::r) σ d fr:=by
 unfold Run;rw[x_forr _ _ _ _ _ _ hs,h,thenS_next];exact k
theorem aB{P:List (String×Fn)}{X:CF}{g:String}{ps:List String}{bd:List MS}{n:Nat}{args:List D}(h:P.lookup g=some ⟨ps,bd⟩)(hl:args.length=ps.length)(k:Run (am P X n) bd ((ps.zip args).map fun p=>(p.1,(false,p.2))) d fr) :
  (am P X (n+1)).call g args=some (d,fr):=by rw[qK n args h hl];exact k
theorem kG{k:Bool}{α:Prop}(h:k=true)(h':k=false):α:=by rw[h] at h';cases h'
theorem jv{u v:Str}(h:u.length+v.length≤big):du .Add (.str u) (.str v)=some (.str (u++v)):=if_pos h
theorem bin_sm{u:Str}{k:Int}(h:0≤k∧k≤1000∧u.length≤1000):du .Mult (.str u) (.int k)=some (.str (Txt.mul u k)):=if_pos h
theorem sub_s{u:Str}{k:Int}(h:0≤k∧k<u.length∧u.length≤big):aT (.str u) (.int k)=some (.str (bC u k.toNat)):=if_pos h
theorem lZ{u:List D}{k:Nat}(h:k<u.length)(he:u[k]?=some d):aT (.list u) (.int k)=some d:=by
 show (idx k u.length).bind _=_
 have:idx (k:Int) u.length=some k:=if_pos ⟨Int.natCast_nonneg k,Int.ofNat_lt.mpr h⟩
 rw[this];exact he
theorem sub_t{u:List D}{k:Nat}(h:k<u.length)(he:u[k]?=some d):aT (.tup u) (.int k)=some d:=lZ h he
theorem kg{k:Nat}(h:k≤big):eZ "range" [.int k]=some (.rng 0 k):=by
 show (if _ then _ else _)=_
 exact if_pos (by omega)
theorem len_s{u:Str}(h:u.length≤big):eZ "len" [.str u]=some (.int u.length):=if_pos h
noncomputable def Rex(cf:CF)(ss:List MS)(σ:St)(Q:D→Bool→Prop):Prop:=∃ d fr,Q d fr∧Run cf ss σ d fr
variable {Q:D→Bool→Prop}
theorem aU{s:MS}(h:Stp cf s σ σ')(k:Rex cf r σ' Q):Rex cf (s::r) σ Q:=let ⟨d,fr,q,k⟩:=k;⟨d,fr,q,aC h k⟩
theorem cD{k:Bool}(h:evE cf (vis σ) c=some x)(hx:br x=some k)(ht:k=true→Rex cf (t++r) σ Q)(hf:k=false→Rex cf (f++r) σ Q):Rex cf (.ite c t f::r) σ Q:=by
 cases k with
 | true=>obtain⟨d,fr,q,k⟩:=ht rfl;exact⟨d,fr,q,bb h hx (fun _=>k) nofun⟩
 | false=>obtain⟨d,fr,q,k⟩:=hf rfl;exact⟨d,fr,q,bb h hx nofun fun _=>k⟩
theorem bL(h:evF cf (vis σ) e=some (d,fr))(hv:e.varOf=none)(q:Q d fr):Rex cf (.ret e::r) σ Q:=⟨d,fr,q,aP h hv⟩
theorem rJ(h:σ.lookup z=some (fr,d))(q:Q d fr):Rex cf (.ret (.var z)::r) σ Q:=⟨d,fr,q,dT h⟩
theorem rK(h:σ=σ')(k:Rex cf r σ' Q):Rex cf r σ Q:=h▸k
theorem q_for{src:ME}{its:List D}(hs:evE cf (vis σ) src=some x)(hi:x.items=some its)(h:bU (cH cf body z) its (freeze src.names σ)=some (.next,σ'))(k:Rex cf r σ' Q):Rex cf (.for_ z src body::r) σ Q:=
 let ⟨d,fr,q,k⟩:=k;⟨d,fr,q,fu hs hi h k⟩
theorem q_forR{src:ME}{its:List D}(hs:evE cf (vis σ) src=some x)(hi:x.items=some its)(h:bU (cH cf body z) its (freeze src.names σ)=some (.ret fr d,σ'))(q:Q d fr):Rex cf (.for_ z src body::r) σ Q:=⟨d,fr,q,pd hs hi h⟩
theorem cA{P:List (String×Fn)}{X:CF}{g:String}{ps:List String}{bd:List MS}{n:Nat}{args:List D}(h:P.lookup g=some ⟨ps,bd⟩)(hl:args.length=ps.length)(k:Rex (am P X n) bd ((ps.zip args).map fun p=>(p.1,(false,p.2))) Q) :
  ∃ d fr,Q d fr∧(am P X (n+1)).call g args=some (d,fr):=let ⟨d,fr,q,k⟩:=k;⟨d,fr,q,aB h hl k⟩
theorem gW{elt src:ME}{k:Nat}(hk:k≤1000)(R:D→Prop)(hs:evE cf ρ src=some (.int k))(h:∀ i:Nat,i<k→∃ d,R d∧evE cf ((z,.int i)::ρ) elt=some d) :
  ∃ ds:List D,ds.length=k∧(∀ d∈ds,R d)∧evE cf ρ (.blt "tuple" [.comp elt z (.blt "range" [src]) []])=some (.tup ds):=by
 obtain⟨ds,e,hl,hq⟩:=oF (jL cf ρ elt z []) (fun _ d=>R d) ((List.range k).map fun (i:Nat)=>D.int (i:Int)) (by
  intro it hit
  obtain⟨i,hi,rfl⟩:=List.mem_map.mp hit
  obtain⟨d,q,e⟩:=h i (List.mem_range.mp hi)
  exact⟨d,q,gG e⟩)
 have hb:k≤big:=Nat.le_trans hk (by decide)
 have hl':((List.range k).map fun (i:Nat)=>D.int (i:Int)).length=k:=by simp
 refine⟨ds,hl.trans hl',fun d hd=>let ⟨_,_,q⟩:=hq d hd;q,?_⟩
 exact cn (ad (gY (cn (ad hs (ai _ _)) (kg hb)) (d7 k) (Nat.le_trans (Nat.le_of_eq hl') hb) e) (ai _ _)) rfl
noncomputable def Out(cf:CF)(ss:List MS)(σ:St)(R:Fl→St→Prop):Prop:=∃ fl σ',R fl σ'∧bn cf ss σ=some (fl,σ')
variable {R:Fl→St→Prop}
theorem aN{s:MS}(h:Stp cf s σ σ')(k:Out cf r σ' R):Out cf (s::r) σ R:=let ⟨fl,s',q,k⟩:=k;⟨fl,s',q,(h.go r).trans k⟩
theorem ef{k:Bool}(h:evE cf (vis σ) c=some x)(hx:br x=some k)(ht:k=true→Out cf (t++r) σ R)(hf:k=false→Out cf (f++r) σ R):Out cf (.ite c t f::r) σ R:=by
 unfold Out;rw[re h hx]
 cases k with
 | true=>exact ht rfl
 | false=>exact hf rfl
theorem o_ret(h:evF cf (vis σ) e=some (d,fr))(hv:e.varOf=none)(q:R (.ret fr d) σ):Out cf (.ret e::r) σ R:=⟨_,_,q,pB (x_rv hv h)⟩
theorem cq(q:R .next σ):Out cf [] σ R:=⟨_,_,q,x_nil cf σ⟩
theorem bg(h:evF cf (vis σ) e=some (d,fr))(hc:d.isCell=true):Stp cf (.assign z e) σ (aD σ z (fr,d)):=by
 have:=au (z:=z) h
 unfold settle at this
 rwa [if_pos (by cases d <;> first | rfl | cases hc)] at this
theorem mh(p:D→Bool)(I:St→Prop)(fr:Bool)(d:D):∀ (its:List D),(∀ it∈its,∀ σ,I σ→Out cf body (aD σ z (false,it)) fun fl σ'=>if p it=true then fl=.ret fr d else fl=.next∧I σ') →
  ∀ σ,I σ→∃ σ',(its.any p=true→bU (cH cf body z) its σ=some (.ret fr d,σ'))∧(its.any p=false→I σ'∧bU (cH cf body z) its σ=some (.next,σ'))
 | [],_,σ,hσ=>⟨σ,nofun,fun _=>⟨hσ,rfl⟩⟩
 | it::r,h,σ,hσ=>by
  obtain⟨fl,σ₁,q,e⟩:=h it (.head _) σ hσ
  rw[List.any_cons,bK,e]
  cases hp:p it with
  | true=>
   rw[if_pos hp] at q
   subst q
   exact⟨σ₁,fun _=>rfl,nofun⟩
  | false=>
   rw[if_neg (by rw[hp];exact Bool.false_ne_true)] at q
   obtain⟨rfl,i1⟩:=q
   exact mh p I fr d r (fun i hi=>h i (.tail _ hi)) σ₁ i1
theorem iH(I:List D→St→Prop):∀ (its pre:List D) (σ:St),I pre σ→(∀ a it b σ,pre++its=a++it::b→I a σ→Out cf body (aD σ z (false,it)) fun fl σ'=>fl=.next∧I (a++[it]) σ') →
  ∃ σ',I (pre++its) σ'∧bU (cH cf body z) its σ=some (.next,σ')
 | [],pre,σ,h,_=>⟨σ,by simpa using h,rfl⟩
 | it::r,pre,σ,h,hs=>by
  obtain⟨fl,σ₁,⟨rfl,i1⟩,e⟩:=hs pre it r σ rfl h
  obtain⟨σ₂,i2,e2⟩:=iH I r (pre++[it]) σ₁ i1 fun a i b s h=>hs a i b s (by simpa using h)
  exact⟨σ₂,by simpa using i2,by rw[bK,e];exact e2⟩
end

noncomputable def nu(ρ:List (String×D))(x:String)(d:D):Prop:=ρ.lookup x=some d
noncomputable def Has(σ:St)(x:String)(d:D):Prop:=∃ fr,σ.lookup x=some (fr,d)
noncomputable def cG(σ:St)(x:String)(d:D):Prop:=σ.lookup x=some (true,d)
section
variable {cf:CF} {ρ:List (String×D)} {σ:St} {x y:String} {d e:D} {v:Bool×D} {ns:List String} {fr:Bool}
theorem cT:nu ((x,d)::ρ) x d:=by unfold nu;rw[List.lookup_cons,beq_self_eq_true]
theorem bP(h:(x == y)=false)(k:nu ρ x d):nu ((y,e)::ρ) x d:=by unfold nu;rw[List.lookup_cons,h];exact k
theorem aa(h:Has σ x d):nu (vis σ) x d:=by obtain⟨fr,h⟩:=h;unfold nu;rw[bE,h];rfl
theorem az:Has (aD σ x (fr,d)) x d:=⟨fr,by rw[aG,if_pos rfl]⟩
theorem al(h:(x == y)=false)(k:Has σ x d):Has (aD σ y v) x d:=let ⟨fr,k⟩:=k;⟨fr,by rw[aG,if_neg (by rintro rfl;rw[beq_self_eq_true] at h;cases h)];exact k⟩
theorem cP(k:Has σ x d):Has (freeze ns σ) x d:=let ⟨fr,k⟩:=k;⟨_,by rw[aW,k];rfl⟩
theorem aw(k:Has σ x d):Has (settle e ns σ) x d:=by unfold settle;split;exact k;exact cP k
theorem ag:Has ((x,(fr,d))::σ) x d:=⟨fr,by rw[List.lookup_cons,beq_self_eq_true]⟩
theorem aj(h:(x == y)=false)(k:Has σ x d):Has ((y,v)::σ) x d:=let ⟨fr,k⟩:=k;⟨fr,by rw[List.lookup_cons,h];exact k⟩
theorem qy(k:cG σ x d):Has σ x d:=⟨true,k⟩
theorem eO:cG (aD σ x (true,d)) x d:=by unfold cG;rw[aG,if_pos rfl]
theorem d9(h:(x == y)=false)(k:cG σ x d):cG (aD σ y v) x d:=by unfold cG;rw[aG,if_neg (by rintro rfl;rw[beq_self_eq_true] at h;cases h)];exact k
theorem lL(h:ns.contains x=false)(k:cG σ x d):cG (freeze ns σ) x d:=by unfold cG;rw[aW,k];show some (true&&!ns.contains x,d)=_;rw[h];rfl
theorem fH(h:ns.contains x=false)(k:cG σ x d):cG (settle e ns σ) x d:=by unfold settle;split;exact k;exact lL h k
theorem o_for{src:ME}{z:String}{body r:List MS}{its:List D}{σ':St}{R:Fl→St→Prop}(hs:evE cf (vis σ) src=some d)(hi:d.items=some its)(h:bU (cH cf body z) its (freeze src.names σ)=some (.next,σ'))(k:Out cf r σ' R):Out cf (.for_ z src body::r) σ R:=by
 unfold Out;rw[rg hs hi,h];exact k
theorem rh:evE cf ρ (.neg (.int 1))=some (.int (-1)):=rfl
theorem ae(h:nu ρ x d):evE cf ρ (.var x)=some d:=h
end

set_option maxRecDepth 100000
set_option maxHeartbeats 4000000
noncomputable def jo:Fn:=⟨["one","other"],[
  .ite (.cmp .NotEq (.isi (.var "one") "str") (.isi (.var "other") "str")) [.ret (.isi (.var "other") "str")] [],
  .ret (.cmp .Lt (.var "one") (.var "other"))]⟩
noncomputable def fn_law_before:Fn:=⟨["_law_one","_law_other"],[
  .ite (.bop .And [.isi (.var "_law_one") "str",.isi (.var "_law_other") "str"]) [.ret (.cmp .Lt (.var "_law_one") (.var "_law_other"))] [],
  .ite (.bop .Or [.isi (.var "_law_one") "str",.isi (.var "_law_other") "str"]) [.ret (.isi (.var "_law_other") "str")] [],
  .ret (.cmp .Lt (.var "_law_one") (.var "_law_other"))]⟩
noncomputable def fn_law_alike:Fn:=⟨["_law_one","_law_other"],[
  .ite (.bop .Or [.isi (.var "_law_one") "str",.isi (.var "_law_other") "str"]) [.ret (.bop .And [.isi (.var "_law_one") "str",.isi (.var "_law_other") "str",.cmp .Eq (.var "_law_one") (.var "_law_other")])] [],
  .ret (.cmp .Eq (.var "_law_one") (.var "_law_other"))]⟩
noncomputable def fU:Fn:=⟨["_law_cell"],[
  .assign "_law_some" (.str " !\"#$&'()*+,-./0123456789:;<=>?@ABCDEFGHIJKLMNOPQRSTUVWXYZ[\\]^_`"),
  .assign "_law_some" (.bin .Add (.var "_law_some") (.str "abcdefghijklmnopqrstuvwxyz{|}~")),
  .ret (.sub (.var "_law_some") (.bin .Mod (.var "_law_cell") (.int 94)))]⟩
noncomputable def ge:Fn:=⟨["_law_script","_law_k"],[
  .ite (.cmp .Lt (.var "_law_k") (.blt "len" [.var "_law_script"])) [.ret (.sub (.var "_law_script") (.var "_law_k"))] [],
  .ret (.int 0)]⟩
noncomputable def dX:Fn:=⟨["_law_cell"],[
  .assign "_law_way" (.bin .Mod (.var "_law_cell") (.int 9)),
  .assign "_law_rest" (.bin .FloorDiv (.var "_law_cell") (.int 9)),
  .ite (.cmp .Lt (.var "_law_way") (.int 4)) [.ret (.bin .Sub (.bin .Mod (.var "_law_rest") (.int 4)) (.int 1))] [],
  .ite (.cmp .Eq (.var "_law_way") (.int 4)) [.ret (.bin .Sub (.bin .Mod (.var "_law_rest") (.int 2000001)) (.int 1000000))] [],
  .ite (.cmp .Eq (.var "_law_way") (.int 5)) [.ret (.sub (.lst [.str "a",.str "b",.str "1",.str "0",.str "-1",.str "col",.str "is",.str "count"]) (.bin .Mod (.var "_law_rest") (.int 8)))] [],
  .ite (.cmp .Eq (.var "_law_way") (.int 6)) [.ret (.bin .Mult (.call "_law_sign_by" [.var "_law_rest"]) (.bin .Mod (.bin .FloorDiv (.var "_law_rest") (.int 94)) (.int 100)))] [],
  .ite (.cmp .Eq (.var "_law_way") (.int 7)) [.ret (.bin .Add (.bin .Sub (.bin .Mod (.bin .Pow (.bin .Add (.bin .Mod (.var "_law_rest") (.bin .Pow (.int 10) (.int 60))) (.int 3)) (.int 9)) (.bin .Sub (.bin .Mult (.int 2) (.bin .Pow (.int 10) (.int 60))) (.int 1))) (.bin .Pow (.int 10) (.int 60))) (.int 1))] [],
  .assign "_law_word" (.sl (.str "any word") .none (.bin .Mod (.var "_law_rest") (.int 9))),
  .assign "_law_at" (.bin .Mod (.bin .FloorDiv (.var "_law_rest") (.int 9)) (.bin .Add (.blt "len" [.var "_law_word"]) (.int 1))),
  .ret (.bin .Add (.bin .Add (.sl (.var "_law_word") .none (.var "_law_at")) (.call "_law_sign_by" [.bin .FloorDiv (.var "_law_rest") (.int 81)])) (.sl (.var "_law_word") (.var "_law_at") .none))]⟩
noncomputable def iO:Fn:=⟨["_law_cell","_law_k"],[
  .ret (.bin .Mod (.bin .Pow (.bin .Mod (.bin .Add (.bin .Mult (.var "_law_cell") (.int 48271)) (.bin .Mult (.bin .Add (.var "_law_k") (.int 1)) (.int 1299721))) (.int 2147483647)) (.int 5)) (.int 2147483647))]⟩
structure BG(P:List (String×Fn)):Prop where
 sign:P.lookup "_law_sign_by"=some fU
 cell:P.lookup "_law_cell_at"=some ge
 thing:P.lookup "_law_thing_by"=some dX
 mixed:P.lookup "_law_mixed"=some iO
structure BC(P:List (String×Fn)):Prop where
 before:P.lookup "before"=some jo
 lalike:P.lookup "_law_alike"=some fn_law_alike
 lbefore:P.lookup "_law_before"=some fn_law_before
noncomputable def bX:Str:=Str.ofString " !\"#$&'()*+,-./0123456789:;<=>?@ABCDEFGHIJKLMNOPQRSTUVWXYZ[\\]^_`"++Str.ofString "abcdefghijklmnopqrstuvwxyz{|}~"
theorem signs_len:bX.length=94:=by decide +kernel
theorem bv(c:Int){k:Nat}(h:0<k):∃ m:Nat,c % (k:Int)=m∧m<k:=⟨(c % k).toNat,(Int.toNat_of_nonneg (Int.emod_nonneg _ (by omega))).symm,by have:=Int.emod_nonneg c (b:=(k:Int)) (by omega);have:=Int.emod_lt_of_pos c (b:=(k:Int)) (by omega);omega⟩
section
variable {P:List (String×Fn)} {X:CF}
theorem mL(B:BG P)(n:Nat)(c:Int):(am P X (n+1)).call "_law_sign_by" [.int c]=some (.str (bC bX (c % 94).toNat),false):=by
 have h1:(Str.ofString " !\"#$&'()*+,-./0123456789:;<=>?@ABCDEFGHIJKLMNOPQRSTUVWXYZ[\\]^_`").length+(Str.ofString "abcdefghijklmnopqrstuvwxyz{|}~").length≤big:=by decide +kernel
 have h2:0≤c % 94∧c % 94<(bX.length:Int)∧bX.length≤big:=by rw[signs_len];refine⟨by omega,by omega,by decide⟩
 refine aB B.sign rfl ?_
 have q:du .Add (.str (Str.ofString " !\"#$&'()*+,-./0123456789:;<=>?@ABCDEFGHIJKLMNOPQRSTUVWXYZ[\\]^_`")) (.str (Str.ofString "abcdefghijklmnopqrstuvwxyz{|}~"))=some (.str bX):=jv h1
 have q2:=sub_s h2
 exact aC (bg (d:=.str (Str.ofString " !\"#$&'()*+,-./0123456789:;<=>?@ABCDEFGHIJKLMNOPQRSTUVWXYZ[\\]^_`")) (fr:=false) (ax (aE _ _ _) rfl rfl) rfl) (aC (bg (d:=.str bX) (fr:=false) (ax (ao (ae (aa az)) (aE _ _ _) q) rfl rfl) rfl) (aP (ax (av (ae (aa az)) (ao (ae (aa (al rfl (al rfl ag)))) (af _ _ _) (aI (by decide))) q2) rfl rfl) rfl))
theorem pG(B:BG P)(n:Nat)(c:Int):∃ x:Str,x.length=1∧(am P X (n+1)).call "_law_sign_by" [.int c]=some (.str x,false):=⟨bC bX (c % 94).toNat,rfl,mL B n c⟩
noncomputable def gm(a b:D):Bool:=ce a b
noncomputable def bR(a b:D):Bool:=match a with
 | .int i=>(match b with | .int j=>decide (i<j) | _=>true)
 | .str x=>(match b with | .str y=>decide (x.cps.toList<y.cps.toList) | _=>false)
 | _=>false
theorem gH{a:D}{C:D→Prop}(ha:a.isCell=true)(hi:∀ i,C (.int i))(hs:∀ x,C (.str x)):C a:=by
 cases a <;> first | exact hi _ | exact hs _ | cases ha
theorem cZ(B:BG P)(n:Nat)(ns:List Int)(k:Nat):(am P X (n+1)).call "_law_cell_at" [.list (ns.map .int),.int k]=some (.int (ns.getD k 0),false):=by
 have hl:(ns.map D.int).length=ns.length:=List.length_map ..
 refine aB B.cell rfl ?_
 have hln:eZ "len" [.list (ns.map .int)]=some (.int ns.length):=by show some (D.int ((ns.map D.int).length:Nat))=_;rw[hl]
 refine bb (k:=decide ((k:Int)<ns.length)) (aA (ae (aa (aj rfl ag))) (cn (ad (ae (aa ag)) (ai _ _)) hln) rfl) rfl (fun h=>?_) fun h=>?_
 ·have h:k<ns.length:=Int.ofNat_lt.mp (of_decide_eq_true h)
  exact aP (ax (av (ae (aa ag)) (ae (aa (aj rfl ag))) (lZ (by rw[hl];exact h) (by rw[List.getElem?_map,List.getElem?_eq_getElem h,List.getD_eq_getElem?_getD,List.getElem?_eq_getElem h];rfl))) rfl rfl) rfl
 ·have h:ns.length≤k:=Nat.not_lt.mp fun q=>of_decide_eq_false h (Int.ofNat_lt.mpr q)
  rw[List.getD_eq_getElem?_getD,List.getElem?_eq_none h]
  exact aP (ax (af _ _ _) rfl rfl) rfl
theorem mixed(B:BG P)(n:Nat)(c k:Int):∃ r:Int,0≤r∧(am P X (n+1)).call "_law_mixed" [.int c,.int k]=some (.int r,false):=by
 have hp:-dU<(c * 48271+(k+1) * 1299721) % 2147483647∧(c * 48271+(k+1) * 1299721) % 2147483647<dU∧(0:Int)≤5∧(5:Int)≤100:=by
  have h1:(2147483647:Int)<dU:=by decide +kernel
  generalize dU=pl at *
  generalize c * 48271+(k+1) * 1299721=z
  omega
 have q:=qQ hp
 exact⟨((c * 48271+(k+1) * 1299721) % 2147483647) ^ (5:Int).toNat % 2147483647,Int.emod_nonneg _ (by decide),aB B.mixed rfl (aP (ax (ao (ao (ao (ao (ao (ae (aa ag)) (af _ _ _) (oN (by decide))) (ao (ao (ae (aa (aj rfl ag))) (af _ _ _) bY) (af _ _ _) (oN (by decide))) bY) (af _ _ _) (aI (by decide))) (af _ _ _) q) (af _ _ _) (aI (by decide))) rfl rfl) rfl)⟩
end
noncomputable def pv(d:D):Prop:=(∃ i:Int,d=.int i∧-(10 ^ 61)<i∧i<10 ^ 61)∨∃ x:Str,d=.str x∧x.length≤200
theorem pv.cell{d:D}(h:pv d):d.isCell=true:=by rcases h with⟨i,rfl,_⟩ | ⟨x,rfl,_⟩ <;> rfl

theorem ej(x y:Str):(x++y).length=x.length+y.length:=by
 show (x.cps++y.cps).size=_
 simp[Str.length]
theorem mul_len{x:Str}(hx:x.length=1){n:Int}(h0:0≤n)(h1:n≤100):(Txt.mul x n).length≤100:=by
 unfold Txt.mul
 split
 ·decide
 ·split
  ·omega
  ·show ((List.replicate n.toNat x.cps).foldl (·++·) #[]).size≤100
   have:∀ (k:Nat) (a:Array Nat),((List.replicate k x.cps).foldl (·++·) a).size=a.size+k:=by
    intro k
    induction k with
    | zero=>intro a;simp
    | succ k ih=>
     intro a
     rw[List.replicate_succ,List.foldl_cons,ih]
     have:x.cps.size=1:=hx
     simp;omega
   rw[this];simp;omega

theorem oZ(x:Str)(j:Int)(h:x.length≤big):∃ W:Str,W.length≤x.length∧slD (.str x) .none (.int j)=some (.str W):=⟨_,Txt.slice_le _ _ _,if_pos h⟩
theorem rA(x:Str)(j:Int)(h:x.length≤big):∃ W:Str,W.length≤x.length∧slD (.str x) (.int j) .none=some (.str W):=⟨_,Txt.slice_le _ _ _,if_pos h⟩
noncomputable def T60:Int:=10 ^ 60
theorem cm{l:List D}(hn:0<l.length)(c:Int){R:D→Prop}(h:∀ d∈l,R d):∃ d,R d∧aT (.list l) (.int (c % (l.length:Int)))=some d:=by
 obtain⟨m,e,hm⟩:=bv c hn
 rw[e]
 exact⟨l[m],h _ (List.getElem_mem hm),lZ hm (List.getElem?_eq_getElem hm)⟩
theorem nB{P:List (String×Fn)}{X:CF}(B:BG P)(n:Nat)(c:Int):∃ d,pv d∧(am P X (n+2)).call "_law_thing_by" [.int c]=some (d,false):=by
 obtain⟨x,hx,hs⟩:=pG (X:=X) B n (c / 9)
 obtain⟨x',hx',hs'⟩:=pG (X:=X) B n (c / 9 / 81)
 obtain⟨y,⟨y',rfl,hy⟩,q5⟩:=cm (l:=[.str (Str.ofString "a"),.str (Str.ofString "b"),.str (Str.ofString "1"),.str (Str.ofString "0"),.str (Str.ofString "-1"),.str (Str.ofString "col"),.str (Str.ofString "is"),.str (Str.ofString "count")]) (by decide) (c / 9) (R:=fun d=>∃ x:Str,d=.str x∧x.length≤200) (by
  intro d hd
  simp only[List.mem_cons,List.not_mem_nil,or_false] at hd
  rcases hd with rfl | rfl | rfl | rfl | rfl | rfl | rfl | rfl <;> exact⟨_,rfl,by decide +kernel⟩)
 have q5':aT (.list [.str (Str.ofString "a"),.str (Str.ofString "b"),.str (Str.ofString "1"),.str (Str.ofString "0"),.str (Str.ofString "-1"),.str (Str.ofString "col"),.str (Str.ofString "is"),.str (Str.ofString "count")]) (.int (c / 9 % 8))=some (.str y'):=q5
 have hm:0≤c / 9 / 94 % 100∧c / 9 / 94 % 100≤100:=by omega
 have q6:=bin_sm (u:=x) (k:=c / 9 / 94 % 100) ⟨hm.1,Int.le_trans hm.2 (by decide),by rw[hx];decide⟩
 have p1:du .Pow (.int 10) (.int 60)=some (.int T60):=qQ (i:=10) (j:=60) (by decide +kernel)
 have t0:0<T60:=by decide +kernel
 have hz:0≤c / 9 % T60∧c / 9 % T60<T60:=⟨Int.emod_nonneg _ (by decide +kernel),Int.emod_lt_of_pos _ t0⟩
 have p2:du .Pow (.int (c / 9 % T60+3)) (.int 9)=some (.int ((c / 9 % T60+3) ^ (9:Int).toNat)):=qQ (by
  have h2:T60+3<dU:=by decide +kernel
  generalize dU=pl at *
  omega)
 have p3:du .Mult (.int 2) (.int T60)=some (.int (2 * T60)):=lF (by decide)
 have t1:0<2 * T60 - 1:=by omega
 obtain⟨W,hW,w1⟩:=oZ (Str.ofString "any word") (c / 9 % 9) (by decide +kernel)
 have hW8:W.length≤8:=Nat.le_trans hW (by decide +kernel)
 have hWb:W.length≤big:=Nat.le_trans hW8 (by decide)
 have w2:=len_s hWb
 have w3:(0:Int)<(W.length:Int)+1:=by omega
 obtain⟨U,hU,w4⟩:=oZ W (c / 9 / 9 % ((W.length:Int)+1)) hWb
 obtain⟨V,hV,w5⟩:=rA W (c / 9 / 9 % ((W.length:Int)+1)) hWb
 have hb0:(16:Nat)+1≤big:=by decide
 have w6:=jv (u:=U) (v:=x') (by omega)
 have w7:=jv (u:=U++x') (v:=V) (by rw[ej];omega)
 have g1:-(10:Int) ^ 61<c / 9 % 4 - 1∧c / 9 % 4 - 1<10 ^ 61:=by omega
 have g2:-(10:Int) ^ 61<c / 9 % 2000001 - 1000000∧c / 9 % 2000001 - 1000000<10 ^ 61:=by omega
 have g3:-(10:Int) ^ 61<(c / 9 % T60+3) ^ (9:Int).toNat % (2 * T60 - 1) - T60+1∧(c / 9 % T60+3) ^ (9:Int).toNat % (2 * T60 - 1) - T60+1<10 ^ 61:=by
  have h1:=Int.emod_nonneg ((c / 9 % T60+3) ^ (9:Int).toNat) (b:=2 * T60 - 1) (by omega)
  have h2:=Int.emod_lt_of_pos ((c / 9 % T60+3) ^ (9:Int).toNat) t1
  generalize (c / 9 % T60+3) ^ (9:Int).toNat % (2 * T60 - 1)=v at *
  have e2:(10:Int) ^ 61=10 * T60:=by decide +kernel
  rw[e2]
  generalize T60=tt at *
  omega
 have g4:(U++x'++V).length≤200:=by rw[ej,ej];omega
 have g5:=Nat.le_trans (mul_len hx hm.1 hm.2) (show 100≤200 by decide)
 have key:Rex (am P X (n+1)) dX.body [("_law_cell",(false,.int c))] fun d fr=>pv d∧fr=false:=by
  clear hm hz hW hW8 hWb hU hV hb0 hx hx' q5
  refine aU (bg (d:=.int (c % 9)) (fr:=false) (ax (ao (ae (aa ag)) (af _ _ _) (aI (by decide))) rfl rfl) rfl) (aU (bg (d:=.int (c / 9)) (fr:=false) (ax (ao (ae (aa (al rfl ag))) (af _ _ _) (aS (by decide))) rfl rfl) rfl) ?_)
  have i1:Has (aD (aD [("_law_cell",(false,.int c))] "_law_way" (false,.int (c % 9))) "_law_rest" (false,.int (c / 9))) "_law_way" (.int (c % 9)):=al rfl az
  have i2:Has (aD (aD [("_law_cell",(false,.int c))] "_law_way" (false,.int (c % 9))) "_law_rest" (false,.int (c / 9))) "_law_rest" (.int (c / 9)):=az
  generalize aD (aD [("_law_cell",(false,.int c))] "_law_way" (false,.int (c % 9))) "_law_rest" (false,.int (c / 9))=σ at *
  have rest:∀ {k:Int},0<k→evE (am P X (n+1)) (vis σ) (.bin .Mod (.var "_law_rest") (.int k))=some (.int (c / 9 % k)):=fun h=>ao (ae (aa i2)) (af _ _ _) (aI h)
  have way:∀ k:Int,evE (am P X (n+1)) (vis σ) (.cmp .Eq (.var "_law_way") (.int k))=some (.bool (c % 9 == k)):=fun _=>aA (ae (aa i1)) (af _ _ _) rfl
  have t60:evE (am P X (n+1)) (vis σ) (.bin .Pow (.int 10) (.int 60))=some (.int T60):=ao (af _ _ _) (af _ _ _) p1
  refine cD (k:=decide (c % 9<4)) (aA (ae (aa i1)) (af _ _ _) rfl) rfl (fun _=>bL (ax (ao (rest (by decide)) (af _ _ _) pu) rfl rfl) rfl ⟨.inl ⟨_,rfl,g1⟩,rfl⟩) fun _=>?_
  refine cD (way 4) rfl (fun _=>bL (ax (ao (rest (by decide)) (af _ _ _) pu) rfl rfl) rfl ⟨.inl ⟨_,rfl,g2⟩,rfl⟩) fun _=>?_
  refine cD (way 5) rfl (fun _=>bL (ax (av (x:=.list [.str (Str.ofString "a"),.str (Str.ofString "b"),.str (Str.ofString "1"),.str (Str.ofString "0"),.str (Str.ofString "-1"),.str (Str.ofString "col"),.str (Str.ofString "is"),.str (Str.ofString "count")]) rfl (rest (by decide)) q5') rfl rfl) rfl ⟨.inr ⟨_,rfl,hy⟩,rfl⟩) fun _=>?_
  refine cD (way 6) rfl (fun _=>bL (ax (ao (ay (ad (ae (aa i2)) (ai _ _)) hs) (ao (ao (ae (aa i2)) (af _ _ _) (aS (by decide))) (af _ _ _) (aI (by decide))) q6) rfl rfl) rfl ⟨.inr ⟨_,rfl,g5⟩,rfl⟩) fun _=>?_
  refine cD (way 7) rfl (fun _=>bL (ax (ao (ao (ao (ao (ao (ao (ae (aa i2)) t60 (aI t0)) (af _ _ _) bY) (af _ _ _) p2) (ao (ao (af _ _ _) t60 p3) (af _ _ _) pu) (aI t1)) t60 pu) (af _ _ _) bY) rfl rfl) rfl ⟨.inl ⟨_,rfl,g3⟩,rfl⟩) fun _=>?_
  refine aU (bg (d:=.str W) (fr:=false) (ax (qU (aE _ _ _) (jq _ _) (rest (by decide)) w1) rfl rfl) rfl) (aU (bg (d:=.int (c / 9 / 9 % ((W.length:Int)+1))) (fr:=false) (ax (ao (ao (ae (aa (al rfl i2))) (af _ _ _) (aS (by decide))) (ao (cn (ad (ae (aa az)) (ai _ _)) w2) (af _ _ _) bY) (aI w3)) rfl rfl) rfl) ?_)
  exact bL (ax (ao (ao (qU (ae (aa (al rfl az))) (jq _ _) (ae (aa az)) w4) (ay (ad (ao (ae (aa (al rfl (al rfl i2)))) (af _ _ _) (aS (by decide))) (ai _ _)) hs') w6) (qU (ae (aa (al rfl az))) (ae (aa az)) (jq _ _) w5) w7) rfl rfl) rfl ⟨.inr ⟨_,rfl,g4⟩,rfl⟩
 obtain⟨d,fr,⟨hd,rfl⟩,hr⟩:=cA (X:=X) (n:=n+1) (args:=[.int c]) B.thing rfl key
 exact⟨d,hd,hr⟩
theorem ofS_eq(a b:String):(Str.ofString a=Str.ofString b)=(a=b):=propext ⟨cE,fun h=>by rw[h]⟩
theorem ofS_beq(a b:String):(Str.ofString a == Str.ofString b)=(a == b):=by
 rw[Bool.eq_iff_iff,beq_iff_eq,beq_iff_eq,ofS_eq]
theorem str_tri(x y:Str):(decide (y.cps.toList<x.cps.toList)||(x == y))=!decide (x.cps.toList<y.cps.toList):=by
 rw[Bool.eq_iff_iff]
 simp only[Bool.or_eq_true,decide_eq_true_eq,beq_iff_eq,Bool.not_eq_true',decide_eq_false_iff_not]
 constructor
 ·rintro (h | rfl)
  ·exact List.lt_asymm h
  ·exact List.lt_irrefl _
 ·intro h
  by_cases h2:y.cps.toList<x.cps.toList
  ·exact .inl h2
  ·refine .inr ?_
   have:x.cps.toList=y.cps.toList:=List.le_antisymm (List.not_lt.mp h2) (List.not_lt.mp h)
   cases x;cases y
   congr 1
   exact Array.toList_inj.mp this
theorem tri{a b:D}(ha:a.isCell=true)(hb:b.isCell=true):(bR b a||gm a b)=!bR a b:=by
 cases a <;> first | (cases ha;done) | (cases b <;> first | (cases hb;done) | rfl | exact str_tri _ _ | skip)
 rename_i i j
 show (decide (j<i)||i == j)=!decide (i<j)
 rw[Bool.eq_iff_iff];simp;omega
theorem alike_comm{a b:D}(ha:a.isCell=true)(hb:b.isCell=true):gm a b=gm b a:=by
 cases a <;> first | (cases ha;done) | (cases b <;> first | (cases hb;done) | rfl | exact Bool.beq_comm)
theorem leaf_t{k:Bool}{A B:Prop}(hh:k=true)(h:A):if k=true then A else B:=by rw[if_pos hh];exact h
theorem leaf_f{k:Bool}{A B:Prop}(hh:k=false)(h:B):if k=true then A else B:=by rw[if_neg (by rw[hh];exact Bool.false_ne_true)];exact h
theorem m9{row:List D}{p:Nat}(h:p<row.length):aT (.tup row) (.int p)=some (row.getD p .none):=sub_t h (by rw[List.getD_eq_getElem?_getD,List.getElem?_eq_getElem h];rfl)

set_option maxRecDepth 100000
set_option maxHeartbeats 400000
noncomputable def eI:Fn:=⟨["_law_cell","_law_many_here"],[
  .assign "_law_word" (.sub (.lst [.str "same",.str "unlike",.str "before",.str "upto",.str "behind",.str "from",.str "unlike",.str "upto",.str "from"]) (.bin .Mod (.var "_law_cell") (.int 9))),
  .assign "_law_place" (.bin .Mod (.bin .FloorDiv (.var "_law_cell") (.int 9)) (.var "_law_many_here")),
  .assign "_law_rest" (.bin .FloorDiv (.bin .FloorDiv (.var "_law_cell") (.int 9)) (.var "_law_many_here")),
  .ite (.cmp .Eq (.bin .Mod (.var "_law_rest") (.int 2)) (.int 0)) [.ret (.tup [.var "_law_word",.var "_law_place",.str "col",.bin .Mod (.bin .FloorDiv (.var "_law_rest") (.int 2)) (.var "_law_many_here")])] [],
  .ret (.tup [.var "_law_word",.var "_law_place",.str "is",.call "_law_thing_by" [.bin .FloorDiv (.var "_law_rest") (.int 2)]])]⟩
noncomputable def cF:Fn:=⟨["_law_cell","_law_many_here"],[
  .ite (.bop .Or [.cmp .Eq (.var "_law_many_here") (.int 0),.cmp .Eq (.bin .Mod (.var "_law_cell") (.int 32)) (.int 15)]) [.ret (.tup [])] [],
  .ite (.cmp .Eq (.bin .Mod (.var "_law_cell") (.int 16)) (.int 14)) [.ret (.tup [.tup [.str "same",.bin .Sub (.var "_law_many_here") (.int 1),.str "col",.int 0]])] [],
  .ite (.cmp .Eq (.bin .Mod (.var "_law_cell") (.int 16)) (.int 13)) [.ret (.tup [.tup [.str "same",.int 0,.str "col",.bin .Sub (.var "_law_many_here") (.int 1)]])] [],
  .assign "_law_count" (.bin .Add (.int 1) (.bin .Mod (.bin .FloorDiv (.var "_law_cell") (.int 16)) (.int 2))),
  .ite (.cmp .Eq (.bin .Mod (.bin .FloorDiv (.var "_law_cell") (.int 32)) (.int 11)) (.int 1)) [.assign "_law_count" (.bin .Mod (.bin .FloorDiv (.var "_law_cell") (.int 352)) (.int 13))] [],
  .ret (.blt "tuple" [.comp (.call "_law_one_by" [.call "_law_mixed" [.var "_law_cell",.bin .Add (.int 40) (.var "_law_k")],.var "_law_many_here"]) "_law_k" (.blt "range" [.var "_law_count"]) []])]⟩
structure BD(P:List (String×Fn)):Prop extends BG P where
 one:P.lookup "_law_one_by"=some eI
 clause:P.lookup "_law_clause_by"=some cF
noncomputable def gJ:List String:=["same","unlike","before","upto","behind","from"]
noncomputable def tst(w:String)(p:Nat)(kd:String)(o:D):D:=.tup [.str (Str.ofString w),.int p,.str (Str.ofString kd),o]
noncomputable def Tst(m:Nat)(d:D):Prop:=∃ w p,w∈gJ∧p<m∧((∃ q:Nat,q<m∧d=tst w p "col" (.int q))∨∃ o,pv o∧d=tst w p "is" o)
theorem word_at(c:Int):∃ w,w∈gJ∧aT (.list [.str (Str.ofString "same"),.str (Str.ofString "unlike"),.str (Str.ofString "before"),.str (Str.ofString "upto"),.str (Str.ofString "behind"),.str (Str.ofString "from"),.str (Str.ofString "unlike"),.str (Str.ofString "upto"),.str (Str.ofString "from")]) (.int (c % 9))=some (.str (Str.ofString w)):=by
 obtain⟨d,⟨w,rfl,hw⟩,h⟩:=cm (l:=["same","unlike","before","upto","behind","from","unlike","upto","from"].map fun s=>D.str (Str.ofString s)) (by decide) c (R:=fun d=>∃ w,d=.str (Str.ofString w)∧w∈gJ) (by
  intro d hd
  obtain⟨w,hw,rfl⟩:=List.mem_map.mp hd
  exact⟨w,rfl,(by decide:∀ w∈["same","unlike","before","upto","behind","from","unlike","upto","from"],w∈gJ) w hw⟩)
 exact⟨w,hw,h⟩
section
variable {P:List (String×Fn)} {X:CF}
theorem one_by(B:BD P)(n:Nat)(c:Int)(m:Nat)(h0:0<m)(h1:m≤1000):∃ d,Tst m d∧(am P X (n+3)).call "_law_one_by" [.int c,.int m]=some (d,false):=by
 obtain⟨w,hw,q1⟩:=word_at c
 have q2:(0:Int)<(m:Int)∧(m:Int)<lim:=by unfold lim;omega
 have q3:=q2.1
 obtain⟨p,hp,hpm⟩:=bv (c / 9) h0
 obtain⟨q,hq,hqm⟩:=bv (c / 9 / m / 2) h0
 obtain⟨d,gd,hd⟩:=nB (X:=X) B.toBG n (c / 9 / m / 2)
 have key:Rex (am P X (n+2)) eI.body [("_law_cell",(false,.int c)),("_law_many_here",(false,.int m))] fun d fr=>Tst m d∧fr=false:=by
  refine aU (bg (d:=.str (Str.ofString w)) (fr:=false) (ax (av (x:=.list [.str (Str.ofString "same"),.str (Str.ofString "unlike"),.str (Str.ofString "before"),.str (Str.ofString "upto"),.str (Str.ofString "behind"),.str (Str.ofString "from"),.str (Str.ofString "unlike"),.str (Str.ofString "upto"),.str (Str.ofString "from")]) rfl (ao (ae (aa ag)) (af _ _ _) (aI (by decide))) q1) rfl rfl) rfl) ?_
  refine aU (bg (d:=.int (c / 9 % m)) (fr:=false) (ax (ao (ao (ae (aa (al rfl ag))) (af _ _ _) (aS (by decide))) (ae (aa (al rfl (aj rfl ag)))) (aI q3)) rfl rfl) rfl) ?_
  refine aU (bg (d:=.int (c / 9 / m)) (fr:=false) (ax (ao (ao (ae (aa (al rfl (al rfl ag)))) (af _ _ _) (aS (by decide))) (ae (aa (al rfl (al rfl (aj rfl ag))))) (aS q2)) rfl rfl) rfl) ?_
  refine cD (k:=c / 9 / m % 2 == 0) (aA (ao (ae (aa az)) (af _ _ _) (aI (by decide))) (af _ _ _) rfl) rfl (fun _=>?_) fun _=>?_
  ·exact bL (ax (bx (ad (ae (aa (al rfl (al rfl az)))) (ad (ae (aa (al rfl az))) (ad (aE _ _ _) (ad (ao (ao (ae (aa az)) (af _ _ _) (aS (by decide))) (ae (aa (al rfl (al rfl (al rfl (aj rfl ag)))))) (aI q3)) (ai _ _))))) (Nat.le_of_ble_eq_true rfl)) rfl rfl) rfl ⟨⟨w,p,hw,hpm,.inl ⟨q,hqm,by rw[hp,hq];rfl⟩⟩,rfl⟩
  ·exact bL (ax (bx (ad (ae (aa (al rfl (al rfl az)))) (ad (ae (aa (al rfl az))) (ad (aE _ _ _) (ad (ay (ad (ao (ae (aa az)) (af _ _ _) (aS (by decide))) (ai _ _)) hd) (ai _ _))))) (Nat.le_of_ble_eq_true rfl)) rfl rfl) rfl ⟨⟨w,p,hw,hpm,.inr ⟨d,gd,by rw[hp];rfl⟩⟩,rfl⟩
 obtain⟨d,fr,⟨hd,rfl⟩,hr⟩:=cA (X:=X) (n:=n+2) (args:=[.int c,.int m]) B.one rfl key
 exact⟨d,hd,hr⟩
noncomputable def Cls(m:Nat)(d:D):Prop:=∃ ts,d=.tup ts∧(∀ t∈ts,Tst m t)∧ts.length≤31
theorem clause_by(B:BD P)(n:Nat)(c:Int)(m:Nat)(h1:m≤1000):∃ d,Cls m d∧(am P X (n+4)).call "_law_clause_by" [.int c,.int m]=some (d,false):=by
 have key:Rex (am P X (n+3)) cF.body [("_law_cell",(false,.int c)),("_law_many_here",(false,.int m))] fun d fr=>Cls m d∧fr=false:=by
  have nilok:Cls m (.tup []):=⟨[],rfl,(fun _ h=>nomatch h),Nat.zero_le _⟩
  by_cases hm:m=0
  ·subst hm
   exact cD (k:=true) (gX (k:=true) (l:=true) (aA (x:=.int (0:Nat)) (ae (aa (aj rfl ag))) (af _ _ _) rfl) nofun) rfl (fun _=>bL (ax (bx (ai _ _) (Nat.zero_le _)) rfl rfl) rfl ⟨nilok,rfl⟩) nofun
  have h0:0<m:=by omega
  have em:(m:Int) - 1=((m - 1:Nat):Int):=by omega
  have one:∀ p q:Nat,p<m→q<m→Cls m (.tup [.tup [.str (Str.ofString "same"),.int p,.str (Str.ofString "col"),.int q]]):=fun p q hp hq=>⟨_,rfl,fun t ht=>List.mem_singleton.mp ht▸⟨"same",p,by decide,hp,.inl ⟨q,hq,rfl⟩⟩,Nat.le_of_ble_eq_true rfl⟩
  have s1:=one (m - 1) 0 (by omega) h0
  have s2:=one 0 (m - 1) h0 (by omega)
  rw[← em] at s1 s2
  have tail:∀ k:Nat,k≤13→Rex (am P X (n+3)) (cF.body.drop 5) [("_law_cell",(false,.int c)),("_law_many_here",(false,.int m)),("_law_count",(false,.int k))] fun d fr=>Cls m d∧fr=false:=by
   intro k hk
   obtain⟨ds,q1,q2,q3⟩:=gW (cf:=am P X (n+3)) (ρ:=vis [("_law_cell",(false,.int c)),("_law_many_here",(false,.int m)),("_law_count",(false,.int k))]) (elt:=.call "_law_one_by" [.call "_law_mixed" [.var "_law_cell",.bin .Add (.int 40) (.var "_law_k")],.var "_law_many_here"]) (z:="_law_k") (src:=.var "_law_count") (Nat.le_trans hk (by decide)) (Tst m) rfl (by
    intro i _
    obtain⟨r,_,hr⟩:=mixed (X:=X) B.toBG (n+2) c (40+i)
    obtain⟨d,td,hd⟩:=one_by (X:=X) B n r m h0 h1
    exact⟨d,td,(ay (ad (ay (ad (Eq.trans (se (am P X (n+3)) (("_law_k",D.int ↑i)::vis [("_law_cell",false,D.int c),("_law_many_here",false,D.int ↑m),("_law_count",false,D.int ↑k)]) "_law_cell") rfl) (ad (ao (af _ _ _) (Eq.trans (se (am P X (n+3)) (("_law_k",D.int ↑i)::vis [("_law_cell",false,D.int c),("_law_many_here",false,D.int ↑m),("_law_count",false,D.int ↑k)]) "_law_k") rfl) bY) (ai _ _))) hr) (ad (Eq.trans (se (am P X (n+3)) (("_law_k",D.int ↑i)::vis [("_law_cell",false,D.int c),("_law_many_here",false,D.int ↑m),("_law_count",false,D.int ↑k)]) "_law_many_here") rfl) (ai _ _))) hd)⟩)
   exact bL (ax q3 rfl rfl) rfl ⟨⟨ds,rfl,q2,q1▸Nat.le_trans hk (by decide)⟩,rfl⟩
  obtain⟨k1,e1,l1⟩:∃ k:Nat,1+c / 16 % 2=k∧k≤13:=⟨(1+c / 16 % 2).toNat,by omega,by omega⟩
  obtain⟨k2,e2,l2⟩:=bv (c / 352) (k:=13) (by decide)
  have e2:c / 352 % 13=(k2:Int):=e2
  have cell:∀ {σ:St} (k:Int) (j:Int),0<k→Has σ "_law_cell" (.int c)→evE (am P X (n+3)) (vis σ) (.cmp .Eq (.bin .Mod (.var "_law_cell") (.int k)) (.int j))=some (.bool (c % k == j)):=fun k j hk i=>aA (ao (ae (aa i)) (af _ _ _) (aI hk)) (af _ _ _) rfl
  refine cD (k:=(m:Int) == 0||c % 32 == 15) (gX (aA (ae (aa (aj rfl ag))) (af _ _ _) rfl) fun _=>bS (cell 32 15 (by decide) ag)) rfl (fun _=>bL (ax (bx (ai _ _) (Nat.zero_le _)) rfl rfl) rfl ⟨nilok,rfl⟩) fun _=>?_
  refine cD (cell 16 14 (by decide) ag) rfl (fun _=>bL (ax (bx (ad (bx (ad (aE _ _ _) (ad (ao (ae (aa (aj rfl ag))) (af _ _ _) pu) (ad (aE _ _ _) (ad (af _ _ _) (ai _ _))))) (Nat.le_of_ble_eq_true rfl)) (ai _ _)) (Nat.le_of_ble_eq_true rfl)) rfl rfl) rfl ⟨s1,rfl⟩) fun _=>?_
  refine cD (cell 16 13 (by decide) ag) rfl (fun _=>bL (ax (bx (ad (bx (ad (aE _ _ _) (ad (af _ _ _) (ad (aE _ _ _) (ad (ao (ae (aa (aj rfl ag))) (af _ _ _) pu) (ai _ _))))) (Nat.le_of_ble_eq_true rfl)) (ai _ _)) (Nat.le_of_ble_eq_true rfl)) rfl rfl) rfl ⟨s2,rfl⟩) fun _=>?_
  refine aU (bg (d:=.int k1) (fr:=false) (by rw[← e1];exact ax (ao (af _ _ _) (ao (ao (ae (aa ag)) (af _ _ _) (aS (by decide))) (af _ _ _) (aI (by decide))) bY) rfl rfl) rfl) ?_
  refine cD (k:=c / 32 % 11 == 1) (aA (ao (ao (ae (aa (al rfl ag))) (af _ _ _) (aS (by decide))) (af _ _ _) (aI (by decide))) (af _ _ _) rfl) rfl (fun _=>?_) fun _=>rK rfl (tail k1 l1)
  exact aU (bg (d:=.int k2) (fr:=false) (by rw[← e2];exact ax (ao (ao (ae (aa (al rfl ag))) (af _ _ _) (aS (by decide))) (af _ _ _) (aI (by decide))) rfl rfl) rfl) (rK rfl (tail k2 (Nat.le_of_lt l2)))
 obtain⟨d,fr,⟨hd,rfl⟩,hr⟩:=cA (X:=X) (n:=n+3) (args:=[.int c,.int m]) B.clause rfl key
 exact⟨d,hd,hr⟩
end

theorem js{cf:CF}{ρ:List (String×D)}{elt c:ME}{x:String}{it y d:D}{k:Bool}(hc:evE cf ((x,it)::ρ) c=some d)(ht:br d=some k)(he:k=true→evE cf ((x,it)::ρ) elt=some y):jL cf ρ elt x [c] it=some (if k=true then some y else none):=by
 have e:jQ cf ((x,it)::ρ) [c]=some k:=by
  show (match evE cf ((x,it)::ρ) c with | some d=>(match br d with | some t=>if t then some true else some false | none=>none) | none=>none)=_
  rw[hc];show (match br d with | some t=>_ | none=>_)=_;rw[ht];cases k <;> rfl
 unfold jL;rw[e]
 cases k with
 | true=>show (match evE cf ((x,it)::ρ) elt with | some y=>_ | none=>_)=_;rw[he rfl];rfl
 | false=>rfl
theorem ll(f:D→Option (Option D)):∀ (its:List D),(∀ it∈its,f it=some none)→bk f its=some []
 | [],_=>rfl
 | it::r,h=>by rw[bk,h it (.head _)];show (match bk f r with | none=>none | some ds=>_)=_;rw[ll f r fun i hi=>h i (.tail _ hi)]
theorem nW(i:Int):dZ .NotEq (.int i) (.int i)=some (.bool false):=by show some (D.bool (!(i == i)))=_;rw[beq_self_eq_true];rfl
theorem lm{α:Type}(f:D→Option (Option D))(h g:α→D):∀ (l:List α),(∀ a∈l,f (h a)=some (some (g a)))→bk f (l.map h)=some (l.map g)
 | [],_=>rfl
 | a::r,e=>by
  rw[List.map_cons,bk,e a (.head _)]
  show (match bk f (r.map h) with | none=>none | some ds=>_)=_
  rw[lm f h g r fun i hi=>e i (.tail _ hi)];rfl

set_option maxRecDepth 100000
set_option maxHeartbeats 400000
noncomputable def iM:Fn:=⟨["clause"],[
  .assign "found" (.lst []),
  .for_ "test" (.var "clause") [.append "found" (.sub (.var "test") (.int 1)),.ite (.cmp .Eq (.sub (.var "test") (.int 2)) (.str "col")) [.append "found" (.sub (.var "test") (.int 3))] []],
  .ret (.sset (.var "found"))]⟩
noncomputable def dW:Fn:=⟨["places","many"],[
  .for_ "place" (.var "places") [.ite (.bop .Or [.cmp .Lt (.var "place") (.int 0),.cmp .GtE (.var "place") (.var "many")]) [.bad] []]]⟩
noncomputable def eH:Fn:=⟨["query","within"],[
  .assign "word" (.sub (.var "query") (.int 0)),
  .ite (.cmp .Eq (.var "word") (.str "sieve")) [.for_ "clause" (.sub (.var "query") (.int 1)) [.expr (.call "need_columns" [.call "places_of" [.var "clause"],.var "within"])]] [],
  .ite (.cmp .Eq (.var "word") (.str "pick")) [.expr (.call "need_columns" [.sub (.var "query") (.int 1),.var "within"]),.ret (.blt "len" [.sub (.var "query") (.int 1)])] [],
  .ite (.cmp .Eq (.var "word") (.str "group")) [.expr (.call "need_columns" [.sub (.var "query") (.int 1),.var "within"]),.expr (.call "need_columns" [.comp (.sub (.var "one") (.int 1)) "one" (.sub (.var "query") (.int 2)) [],.var "within"]),.ret (.bin .Add (.blt "len" [.sub (.var "query") (.int 1)]) (.blt "len" [.sub (.var "query") (.int 2)]))] [],
  .ite (.cmp .Eq (.var "word") (.str "order")) [.expr (.call "need_columns" [.comp (.sub (.var "one") (.int 0)) "one" (.sub (.var "query") (.int 1)) [],.var "within"])] [],
  .ite (.bop .And [.cmp .Eq (.var "word") (.str "first"),.cmp .Lt (.sub (.var "query") (.int 1)) (.int 0)]) [.bad] [],
  .ret (.var "within")]⟩
noncomputable def fB:Fn:=⟨["query","first","second"],[
  .ite (.cmp .Eq (.sub (.var "query") (.int 0)) (.str "join")) [.expr (.call "need_columns" [.comp (.sub (.var "pair") (.int 0)) "pair" (.sub (.var "query") (.int 3)) [],.var "first"]),.expr (.call "need_columns" [.comp (.sub (.var "pair") (.int 1)) "pair" (.sub (.var "query") (.int 3)) [],.var "second"]),.ret (.bin .Add (.var "first") (.var "second"))] [],
  .ite (.cmp .NotEq (.var "first") (.var "second")) [.bad] [],
  .ret (.var "first")]⟩
noncomputable def ot:Fn:=⟨["query","widths"],[
  .assign "word" (.sub (.var "query") (.int 0)),
  .ite (.cmp .NotIn (.var "word") (.glob "STEPS")) [.bad] [],
  .ite (.cmp .Eq (.var "word") (.str "table")) [.ite (.cmp .NotIn (.sub (.var "query") (.int 1)) (.var "widths")) [.bad] [],.ret (.sub (.var "widths") (.sub (.var "query") (.int 1)))] [],
  .ite (.bop .Or [.cmp .Eq (.var "word") (.str "join"),.cmp .Eq (.var "word") (.str "both")]) [.assign "first" (.call "width" [.sub (.var "query") (.int 1),.var "widths"]),.assign "second" (.call "width" [.sub (.var "query") (.int 2),.var "widths"]),.ret (.call "width_of_two" [.var "query",.var "first",.var "second"])] [],
  .ret (.call "width_upon" [.var "query",.call "width" [.sub (.var "query") (.neg (.int 1)),.var "widths"]])]⟩
structure BW(P:List (String×Fn)):Prop where
 po:P.lookup "places_of"=some iM
 nc:P.lookup "need_columns"=some dW
 wu:P.lookup "width_upon"=some eH
 w2:P.lookup "width_of_two"=some fB
 wd:P.lookup "width"=some ot
noncomputable def jc(t:D):List Int:=match t with
 | .tup [_,.int p,.str k,o]=>if k == Str.ofString "col" then (match o with | .int q=>[p,q] | _=>[p]) else [p]
 | _=>[]
theorem col_t:(Str.ofString "col" == Str.ofString "col")=true:=by decide +kernel
theorem col_f:(Str.ofString "is" == Str.ofString "col")=false:=by decide +kernel
theorem pM(w:String)(p q:Nat):jc (tst w p "col" (.int q))=[(p:Int),(q:Int)]:=rfl
theorem rL(w:String)(p:Nat)(o:D):jc (tst w p "is" o)=[(p:Int)]:=rfl
theorem eq_col:dZ .Eq (.str (Str.ofString "col")) (.str (Str.ofString "col"))=some (.bool true):=by show some (D.bool (_ == _))=_;rw[col_t]
theorem eq_is:dZ .Eq (.str (Str.ofString "is")) (.str (Str.ofString "col"))=some (.bool false):=by show some (D.bool (_ == _))=_;rw[col_f]
theorem lc{m:Nat}:∀ ts:List D,(∀ t∈ts,Tst m t)→(ts.flatMap jc).length≤2 * ts.length
 | [],_=>Nat.zero_le _
 | t::ts,h=>by
  rw[List.flatMap_cons,List.length_append,List.length_cons,Nat.mul_succ,Nat.add_comm]
  refine Nat.add_le_add (lc ts fun u hu=>h u (.tail _ hu)) ?_
  obtain⟨w,p,_,_,⟨q,_,rfl⟩ | ⟨o,_,rfl⟩⟩:=h t (.head _)
  ·exact Nat.le_refl 2
  ·exact Nat.le_succ 1
theorem mq:∀ ns:List Int,kY (ns.map .int)=some ns
 | []=>rfl
 | n::ns=>by
  show (kY (ns.map .int)).map (n::·)=_
  rw[mq ns];rfl

inductive Q where
 | table (nm:Str)
 | sieve (cs:List (List D)) (q:Q)
 | pick (ps:List Nat) (q:Q)
 | group (ps:List Nat) (ss:List (String×Nat)) (q:Q)
 | order (ks:List (Nat×Bool)) (q:Q)
 | once (q:Q)
 | first (c:Nat) (q:Q)
 | join (a b:Q) (prs:List (Nat×Nat))
 | both (a b:Q)
noncomputable def sD(s:String):D:=.str (Str.ofString s)
noncomputable def aY(n:Nat):D:=.int n
noncomputable def clD(c:List D):D:=.tup c
noncomputable def dA(x:String×Nat):D:=.tup [sD x.1,aY x.2]
noncomputable def jh(k:Nat×Bool):D:=.tup [aY k.1,.bool k.2]
noncomputable def prT(k:Nat×Nat):D:=.tup [aY k.1,aY k.2]
noncomputable def Q.d:Q→D
 | table nm=>.tup [sD "table",.str nm]
 | sieve cs q=>.tup [sD "sieve",.tup (cs.map clD),q.d]
 | pick ps q=>.tup [sD "pick",.tup (ps.map aY),q.d]
 | group ps ss q=>.tup [sD "group",.tup (ps.map aY),.tup (ss.map dA),q.d]
 | order ks q=>.tup [sD "order",.tup (ks.map jh),q.d]
 | once q=>.tup [sD "once",q.d]
 | first c q=>.tup [sD "first",aY c,q.d]
 | join a b prs=>.tup [sD "join",a.d,b.d,.tup (prs.map prT)]
 | both a b=>.tup [sD "both",a.d,b.d]
noncomputable abbrev Wd:=List (Str×Nat)
noncomputable def Wd.d(W:Wd):D:=.dict (W.map fun p=>.str p.1) (W.map fun p=>aY p.2)
noncomputable def Q.wd(W:Wd):Q→Nat
 | table nm=>(W.lookup nm).getD 0
 | sieve _ q | order _ q | once q | first _ q=>q.wd W
 | pick ps _=>ps.length
 | group ps ss _=>ps.length+ss.length
 | join a b _=>a.wd W+b.wd W
 | both a _=>a.wd W
noncomputable def iY(m:Nat)(c:List D):Prop:=(∀ t∈c,Tst m t)∧c.length≤31
noncomputable def Q.ok(W:Wd):Q→Prop
 | table nm=>∃ n,W.lookup nm=some n
 | sieve cs q=>q.ok W∧(∀ c∈cs,iY (q.wd W) c)∧cs.length≤1000
 | pick ps q=>q.ok W∧(∀ p∈ps,p<q.wd W)∧ps.length≤1000
 | group ps ss q=>q.ok W∧(∀ p∈ps,p<q.wd W)∧(∀ x∈ss,x.2<q.wd W)∧ps.length≤1000∧ss.length≤1000
 | order ks q=>q.ok W∧(∀ k∈ks,k.1<q.wd W)∧ks.length≤1000
 | once q | first _ q=>q.ok W
 | join a b prs=>a.ok W∧b.ok W∧(∀ k∈prs,k.1<a.wd W∧k.2<b.wd W)∧prs.length≤5000
 | both a b=>a.ok W∧b.ok W∧a.wd W=b.wd W
noncomputable def Q.dp:Q→Nat
 | table _=>0
 | sieve _ q | order _ q | once q | first _ q | pick _ q | group _ _ q=>q.dp+1
 | join a b _ | both a b=>max a.dp b.dp+1
noncomputable def Q.cp:Q→Nat
 | table _=>0
 | sieve cs q=>cs.length+q.cp
 | pick _ q | group _ _ q | order _ q | once q | first _ q=>q.cp
 | join a b _ | both a b=>max a.cp b.cp
noncomputable def Q.pr:Q→Nat
 | table _=>0
 | sieve _ q | pick _ q | group _ _ q | order _ q | once q | first _ q=>q.pr
 | join a b prs=>max prs.length (max a.pr b.pr)
 | both a b=>max a.pr b.pr
noncomputable def pD:List String:=["count","sum","least","most"]
noncomputable def Q.nar(W:Wd)(k:Nat):Q→Prop
 | table _=>True
 | sieve _ q | pick _ q | order _ q | once q | first _ q=>q.nar W k
 | group _ ss q=>q.nar W k∧∀ s∈ss,s.1∈pD
 | join a b _=>a.nar W k∧b.nar W k∧a.wd W+b.wd W≤k
 | both a b=>a.nar W k∧b.nar W k
section
variable {P:List (String×Fn)} {X:CF} {m:Nat}
theorem places_of(B:BW P)(n:Nat){ts:List D}(ht:∀ t∈ts,Tst m t)(hl:ts.length≤31):(am P X (n+1)).call "places_of" [.tup ts]=some (.list ((fI (ts.flatMap jc)).map .int),true):=by
 have hbig:2000<big:=by decide
 refine aB B.po rfl ?_
 refine aC (au (d:=.list []) (fr:=true) rfl) ?_
 obtain⟨σ',i1,h3⟩:=iH (cf:=am P X n) (body:=[.append "found" (.sub (.var "test") (.int 1)),.ite (.cmp .Eq (.sub (.var "test") (.int 2)) (.str "col")) [.append "found" (.sub (.var "test") (.int 3))] []]) (z:="test")
  (fun a σ=>cG σ "found" (.list ((a.flatMap jc).map .int))) ts [] [("clause",(false,.tup ts)),("found",(true,.list []))] rfl (by
   rintro a it b σ hab i1
   rw[List.nil_append] at hab
   have hit:it∈ts:=by rw[hab];simp
   have hal:a.length<ts.length:=by rw[hab];simp
   have hfl:=lc a fun t h=>ht t (by rw[hab];exact List.mem_append_left _ h)
   obtain⟨w,p,hw,hp,⟨q,hq,rfl⟩ | ⟨o,ho,rfl⟩⟩:=ht it hit
   ·rw[List.flatMap_append,List.flatMap_cons,List.flatMap_nil,pM,List.map_append]
    refine aN (ee (d:=.int p) (ds:=(a.flatMap jc).map .int) (av (x:=tst w p "col" (.int q)) (y:=.int 1) (ae (aa az)) (af _ _ _) rfl) (?_:cG _ _ _) (by rw[List.length_map];omega)) ?_
    ·exact fH rfl (d9 rfl i1)
    refine ef (k:=true) (aA (av (x:=tst w p "col" (.int q)) (y:=.int 2) (ae (aa (al rfl (aw az)))) (af _ _ _) rfl) (aE _ _ _) eq_col) rfl (fun _=>?_) nofun
    refine aN (ee (d:=.int q) (ds:=(a.flatMap jc).map .int++[.int p]) (av (x:=tst w p "col" (.int q)) (y:=.int 3) (ae (aa (al rfl (aw az)))) (af _ _ _) rfl) (?_:cG _ _ _) (by rw[List.length_append,List.length_map];simp only[List.length_cons,List.length_nil];omega)) (cq ⟨rfl,?_⟩)
    ·exact fH rfl eO
    ·rw[List.append_assoc];exact eO
   ·rw[List.flatMap_append,List.flatMap_cons,List.flatMap_nil,rL,List.map_append]
    refine aN (ee (d:=.int p) (ds:=(a.flatMap jc).map .int) (av (x:=tst w p "is" o) (y:=.int 1) (ae (aa az)) (af _ _ _) rfl) (?_:cG _ _ _) (by rw[List.length_map];omega)) ?_
    ·exact fH rfl (d9 rfl i1)
    exact ef (k:=false) (aA (av (x:=tst w p "is" o) (y:=.int 2) (ae (aa (al rfl (aw az)))) (af _ _ _) rfl) (aE _ _ _) eq_is) rfl nofun fun _=>cq ⟨rfl,eO⟩)
 have hs:ku (.list ((ts.flatMap jc).map .int))=some (.list ((fI (ts.flatMap jc)).map .int)):=by
  show (if _<63 then (kY _).map _ else _)=_
  have:=lc ts ht
  rw[if_pos (by rw[List.length_map];omega),mq];rfl
 refine fu (x:=.tup ts) (its:=ts) rfl rfl h3 (aP (ax (v_sset (x:=.list ((ts.flatMap jc).map .int)) (ae (aa (qy i1))) hs) rfl rfl) rfl)

theorem fall_call{g:String}{ps:List String}{bd:List MS}{n:Nat}{args:List D}{σ':St}(h:P.lookup g=some ⟨ps,bd⟩)(hl:args.length=ps.length)(k:bn (am P X n) bd ((ps.zip args).map fun p=>(p.1,(false,p.2)))=some (.next,σ')) :
  (am P X (n+1)).call g args=some (.none,false):=by rw[qK n args h hl];show fin (bn _ bd _)=_;rw[k];rfl
theorem bZ(B:BW P)(n:Nat){ls:D}{its:List D}(hi:ls.items=some its){w:Nat}(h:∀ d∈its,∃ p:Nat,p<w∧d=.int p):(am P X (n+1)).call "need_columns" [ls,.int w]=some (.none,false):=by
 have key:∃ σ',bU (cH (am P X n) [.ite (.bop .Or [.cmp .Lt (.var "place") (.int 0),.cmp .GtE (.var "place") (.var "many")]) [.bad] []] "place") its (freeze ["places"] [("places",(false,ls)),("many",(false,.int w))])=some (.next,σ'):=by
  obtain⟨σ',_,h3⟩:=iH (cf:=am P X n) (body:=[.ite (.bop .Or [.cmp .Lt (.var "place") (.int 0),.cmp .GtE (.var "place") (.var "many")]) [.bad] []]) (z:="place") (fun _ σ=>Has σ "many" (.int w)) its [] (freeze ["places"] [("places",(false,ls)),("many",(false,.int w))]) (cP (aj rfl ag)) (by
   rintro a it b σ hab i
   rw[List.nil_append] at hab
   obtain⟨p,hp,rfl⟩:=h it (by rw[hab];simp)
   have h1:dZ .Lt (.int p) (.int 0)=some (.bool false):=by
    show some (D.bool (decide ((p:Int)<0)))=_
    rw[decide_eq_false (by omega)]
   have h2:dZ .GtE (.int p) (.int w)=some (.bool false):=by
    show some (D.bool (decide ((p:Int) ≥ w)))=_
    rw[decide_eq_false (by omega)]
   exact ef (k:=false) (x:=.bool (false||false)) (gX (k:=false) (l:=false) (aA (ae (aa az)) (af _ _ _) h1) fun _=>bS (aA (ae (aa az)) (ae (aa (al rfl i))) h2)) rfl nofun fun _=>cq ⟨rfl,al rfl i⟩)
  exact⟨σ',h3⟩
 obtain⟨σ',h3⟩:=key
 obtain⟨fl,σ2,rfl,q⟩:Out (am P X n) dW.body [("places",(false,ls)),("many",(false,.int w))] fun fl _=>fl=.next:=o_for (d:=ls) rfl hi h3 (cq rfl)
 exact fall_call B.nc rfl q
theorem gD{α:Type}{l:List α}{f:α→Nat}{w:Nat}(h:∀ x∈l,f x<w):∀ d∈l.map (fun x=>D.int (f x)),∃ p:Nat,p<w∧d=.int p:=fun d hd=>by
 obtain⟨x,hx,rfl⟩:=List.mem_map.mp hd
 exact⟨f x,h x hx,rfl⟩
theorem cls_places{w:Nat}{c:List D}(hc:iY w c):∀ d∈(fI (c.flatMap jc)).map D.int,∃ p:Nat,p<w∧d=.int p:=fun d hd=>by
 obtain⟨z,hz,rfl⟩:=List.mem_map.mp hd
 obtain⟨t,ht,hz⟩:=List.mem_flatMap.mp ((iZ z _).mp hz)
 obtain⟨w',p,_,hp,⟨q,hq,rfl⟩ | ⟨o,_,rfl⟩⟩:=hc.1 t ht
 ·rw[pM] at hz
  rcases List.mem_cons.mp hz with rfl | hz
  ·exact⟨p,hp,rfl⟩
  ·rw[List.mem_singleton.mp hz];exact⟨q,hq,rfl⟩
 ·rw[rL] at hz
  rw[List.mem_singleton.mp hz];exact⟨p,hp,rfl⟩
theorem j4{cf:CF}{ρ:List (String×D)}{z:String}{src:ME}{i:Int}{α:Type}{l:List α}{g:α→D}{f:α→D}(hs:evE cf ρ src=some (.tup (l.map g)))(hl:l.length≤big)(h:∀ x∈l,aT (g x) (.int i)=some (f x)) :
  evE cf ρ (.comp (.sub (.var z) (.int i)) z src [])=some (.list (l.map f)):=by
 refine gY hs rfl (by rw[List.length_map];exact hl) ?_
 have:∀ l':List α,(∀ x∈l',x∈l)→bk (jL cf ρ (.sub (.var z) (.int i)) z []) (l'.map g)=some (l'.map f):=fun l'=>by
  induction l' with
  | nil=>intro _;rfl
  | cons x l' ih=>
   intro hx
   rw[List.map_cons,bk,gG (d:=f x) (av (ae cT) (af _ _ _) (h x (hx x (.head _))))]
   dsimp only
   rw[ih fun y hy=>hx y (.tail _ hy)]
   rfl
 exact this l fun _ h=>h
end

set_option maxRecDepth 100000
set_option maxHeartbeats 400000
noncomputable def dN:List D:=[.str (Str.ofString "table"),.str (Str.ofString "sieve"),.str (Str.ofString "pick"),.str (Str.ofString "join"),.str (Str.ofString "group"),.str (Str.ofString "order"),.str (Str.ofString "both"),.str (Str.ofString "once"),.str (Str.ofString "first")]
noncomputable def upon:List String:=["sieve","pick","group","order","once","first"]
theorem wd_mem{W:Wd}{nm:Str}{k:Nat}(h:W.lookup nm=some k):kH (.str nm) W.d=some true∧aT W.d (.str nm)=some (.int k):=by
 have hk:cB (.str nm) (W.map fun p=>D.str p.1)=true:=by
  have:(W.map fun p=>D.str p.1).all D.isCell=true:=by rw[List.all_map];exact List.all_eq_true.mpr fun _ _=>rfl
  unfold cB;rw[this];rfl
 have go:∀ W:Wd,W.lookup nm=some k→((W.map fun p=>D.str p.1).any fun x=>aQ x (.str nm))=true∧jS (W.map fun p=>D.str p.1) (W.map fun p=>aY p.2) (.str nm)=some (.int k):=fun W=>by
  induction W with
  | nil=>intro h;cases h
  | cons p W ih=>
   intro h
   obtain⟨a,b⟩:=p
   rw[List.lookup_cons] at h
   have e:aQ (.str a) (.str nm)=(a == nm):=rfl
   by_cases hab:nm=a
   ·subst hab
    rw[beq_self_eq_true] at h
    cases h
    refine⟨by rw[List.map_cons,List.any_cons,e,beq_self_eq_true];rfl,?_⟩
    rw[List.map_cons,List.map_cons,jS,e,beq_self_eq_true];rfl
   ·rw[show (nm == a)=false from by simpa using hab] at h
    obtain⟨h1,h2⟩:=ih h
    have hba:(a == nm)=false:=by simpa using fun e=>hab e.symm
    refine⟨by rw[List.map_cons,List.any_cons,h1,Bool.or_true],?_⟩
    rw[List.map_cons,List.map_cons,jS,e,hba]
    exact h2
 obtain⟨h1,h2⟩:=go W h
 exact⟨by show (if cB _ _=true then _ else _)=_;rw[if_pos hk,h1],by show (if cB _ _=true then _ else _)=_;rw[if_pos hk];exact h2⟩
section
variable {P:List (String×Fn)} {X:CF} {W:Wd}
theorem width_table(B:BW P)(hX:X.glob "STEPS"=some (.tup dN))(n:Nat){nm:Str}{k:Nat}(h:W.lookup nm=some k):(am P X (n+1)).call "width" [(Q.table nm).d,W.d]=some (.int k,false):=by
 obtain⟨h1,h2⟩:=wd_mem h
 have hg:(am P X n).glob "STEPS"=some (.tup dN):=(m4 P X n "STEPS").trans hX
 have h3:dZ .NotIn (.str nm) W.d=some (.bool false):=by show (kH _ _).map _=_;rw[h1];rfl
 refine aB B.wd rfl ?_
 show Run _ _ [("query",(false,.tup [sD "table",.str nm])),("widths",(false,W.d))] _ _
 generalize W.d=T at *
 generalize am P X n=cf at *
 unfold sD
 exact aC (au (ax (av (ae (aa ag)) (af _ _ _) rfl) rfl rfl)) (bb (aA (ae (aa az)) (Eq.trans (nh _ _ _) hg) rfl) rfl (fun hh=>absurd hh (of_decide_eq_true (id (Eq.refl true)))) fun hh=>bb (aA (ae (aa az)) (aE _ _ _) rfl) rfl (fun hh_1=>bb (aA (av (ae (aa (al rfl (aw ag)))) (af _ _ _) rfl) (ae (aa (al rfl (aw (aj rfl ag))))) h3) rfl (fun hh_2=>kG hh_2 hh) fun hh=>aP (ax (av (ae (aa (al rfl (aw (aj rfl ag))))) (av (ae (aa (al rfl (aw ag)))) (af _ _ _) rfl) h2) rfl rfl) rfl) fun hh=>absurd hh (of_decide_eq_true (id (Eq.refl true))))
theorem dy(B:BW P)(hX:X.glob "STEPS"=some (.tup dN))(n:Nat){wd:String}(hw:wd∈upon){q I T:D}{a b:Nat}(h0:aT q (.int 0)=some (sD wd))(hl:aT q (.int (-1))=some I)
  (h1:(am P X n).call "width" [I,T]=some (.int a,false)) (h2:(am P X n).call "width_upon" [q,.int a]=some (.int b,false)):(am P X (n+1)).call "width" [q,T]=some (.int b,false):=by
 have hg:(am P X n).glob "STEPS"=some (.tup dN):=(m4 P X n "STEPS").trans hX
 refine aB B.wd rfl ?_
 show Run _ _ [("query",(false,q)),("widths",(false,T))] _ _
 generalize am P X n=cf at *
 unfold sD at h0
 simp only[upon,List.mem_cons,List.not_mem_nil,or_false] at hw
 rcases hw with rfl | rfl | rfl | rfl | rfl | rfl
 all_goals exact aC (au (ax (av (ae (aa ag)) (af _ _ _) h0) rfl rfl)) (bb (aA (ae (aa az)) (Eq.trans (nh _ _ _) hg) rfl) rfl (fun hh=>absurd hh (of_decide_eq_true (id (Eq.refl true)))) fun hh=>bb (aA (ae (aa az)) (aE _ _ _) rfl) rfl (fun hh_1=>kG hh_1 hh) fun hh=>bb (gX (aA (ae (aa az)) (aE _ _ _) rfl) fun a=>bS (aA (ae (aa az)) (aE _ _ _) rfl)) rfl (fun hh_1=>kG hh_1 hh) fun hh=>aP (aK (ad (ae (aa (al rfl (aw ag)))) (ad (ay (ad (av (ae (aa (al rfl (aw ag)))) rh hl) (ad (ae (aa (al rfl (aw (aj rfl ag))))) (ai _ _))) h1) (ai _ _))) h2) rfl)
theorem lS(B:BW P)(hX:X.glob "STEPS"=some (.tup dN))(n:Nat){wd:String}(hw:wd="join"∨wd="both"){q I J T:D}{a b c:Nat}(h0:aT q (.int 0)=some (sD wd))(h1:aT q (.int 1)=some I)(h2:aT q (.int 2)=some J)
  (k1:(am P X n).call "width" [I,T]=some (.int a,false)) (k2:(am P X n).call "width" [J,T]=some (.int b,false)) (k3:(am P X n).call "width_of_two" [q,.int a,.int b]=some (.int c,false)):(am P X (n+1)).call "width" [q,T]=some (.int c,false):=by
 have hg:(am P X n).glob "STEPS"=some (.tup dN):=(m4 P X n "STEPS").trans hX
 refine aB B.wd rfl ?_
 show Run _ _ [("query",(false,q)),("widths",(false,T))] _ _
 generalize am P X n=cf at *
 unfold sD at h0
 rcases hw with rfl | rfl
 all_goals exact aC (au (ax (av (ae (aa ag)) (af _ _ _) h0) rfl rfl)) (bb (aA (ae (aa az)) (Eq.trans (nh _ _ _) hg) rfl) rfl (fun hh=>absurd hh (of_decide_eq_true (id (Eq.refl true)))) fun hh=>bb (aA (ae (aa az)) (aE _ _ _) rfl) rfl (fun hh_1=>kG hh_1 hh) fun hh=>bb (gX (aA (ae (aa az)) (aE _ _ _) rfl) fun a=>bS (aA (ae (aa az)) (aE _ _ _) rfl)) rfl (fun hh=>aC (au (aK (ad (av (ae (aa (al rfl (aw ag)))) (af _ _ _) h1) (ad (ae (aa (al rfl (aw (aj rfl ag))))) (ai _ _))) k1)) (aC (au (aK (ad (av (ae (aa (al rfl (aw (al rfl (aw ag)))))) (af _ _ _) h2) (ad (ae (aa (al rfl (aw (al rfl (aw (aj rfl ag))))))) (ai _ _))) k2)) (aP (aK (ad (ae (aa (al rfl (aw (al rfl (aw (al rfl (aw ag)))))))) (ad (ae (aa (al rfl (aw az)))) (ad (ae (aa az)) (ai _ _)))) k3) rfl))) fun hh=>absurd hh (of_decide_eq_true (id (Eq.refl true))))
end

set_option maxRecDepth 100000
set_option maxHeartbeats 400000
theorem ps_at{ps:List Nat}{p:Nat}(h:p<ps.length):aT (.tup (ps.map aY)) (.int p)=some (aY (ps.getD p 0)):=by
 refine sub_t (by rw[List.length_map];exact h) ?_
 rw[List.getElem?_map,List.getElem?_eq_getElem h,List.getD_eq_getElem?_getD,List.getElem?_eq_getElem h];rfl
theorem lk_ne{σ:St}{x y:String}{v w:Bool×D}(h:(x == y)=false)(k:σ.lookup x=some v):(aD σ y w).lookup x=some v:=by
 rw[aG,if_neg (by rintro rfl;rw[beq_self_eq_true] at h;cases h)];exact k
section
variable {P:List (String×Fn)} {X:CF}
theorem i7{cf:CF}{σ:St}{w:String}{a:Nat}(hw:w="sieve"∨w="order"∨w="once")(h1:Has σ "word" (sD w))(h2:σ.lookup "within"=some (false,.int a)):Run cf (eH.body.drop 5) σ (.int a) false:=by
 refine bb (k:=false) (x:=.bool (false&&false)) (gK (k:=false) (l:=false) (aA (ae (aa h1)) (aE _ _ _) ?_) nofun) rfl nofun fun _=>dT h2
 unfold sD;rcases hw with rfl | rfl | rfl <;> rfl
theorem upon_sieve(B:BW P)(n:Nat){cs:List (List D)}{I:D}{a:Nat}(hc:∀ c∈cs,iY a c):(am P X (n+2)).call "width_upon" [.tup [sD "sieve",.tup (cs.map clD),I],.int a]=some (.int a,false):=by
 refine aB B.wu rfl ?_
 refine aC (au (d:=sD "sieve") (fr:=false) rfl) ?_
 obtain⟨σ',⟨i1,i2,i3⟩,h3⟩:=iH (cf:=am P X (n+1)) (body:=[.expr (.call "need_columns" [.call "places_of" [.var "clause"],.var "within"])]) (z:="clause")
  (fun _ σ=>Has σ "word" (sD "sieve")∧σ.lookup "within"=some (false,.int a)∧Has σ "query" (.tup [sD "sieve",.tup (cs.map clD),I])) (cs.map clD) [] (freeze ["query"] (aD (settle (sD "sieve") ["query"] [("query",(false,.tup [sD "sieve",.tup (cs.map clD),I])),("within",(false,.int a))]) "word" (false,sD "sieve")))
  ⟨cP az,rfl,(cP (al rfl (aw ag)))⟩ (by
   rintro x it y σ hab ⟨i1,i2,i3⟩
   rw[List.nil_append] at hab
   obtain⟨c,hcm,rfl⟩:=List.mem_map.mp (by rw[hab];simp:it∈cs.map clD)
   have k1:=places_of (X:=X) B n (hc c hcm).1 (hc c hcm).2
   have k2:=bZ (X:=X) B n (ls:=.list ((fI (c.flatMap jc)).map .int)) rfl (cls_places (hc c hcm))
   have j2:=lk_ne (y:="clause") (w:=(false,clD c)) rfl i2
   refine aN (hZ (d:=.none) (ay (ad (ay (ad (ae (aa az)) (ai _ _)) k1) (ad (ae (aa ⟨_,j2⟩)) (ai _ _))) k2) rfl) (cq ⟨rfl,al rfl i1,j2,al rfl i3⟩))
 refine bb (k:=true) (aA (ae (aa az)) (aE _ _ _) rfl) rfl (fun _=>?_) nofun
 refine fu (x:=.tup (cs.map clD)) (its:=cs.map clD) rfl rfl h3 ?_
 unfold sD at i1
 refine bb (k:=false) (aA (ae (aa i1)) (aE _ _ _) rfl) rfl nofun fun _=>bb (k:=false) (aA (ae (aa i1)) (aE _ _ _) rfl) rfl nofun fun _=>bb (k:=false) (aA (ae (aa i1)) (aE _ _ _) rfl) rfl nofun fun _=>?_
 exact i7 (.inl rfl) i1 i2
theorem upon_pick(B:BW P)(n:Nat){ps:List Nat}{I:D}{a:Nat}(hp:∀ p∈ps,p<a):(am P X (n+2)).call "width_upon" [.tup [sD "pick",.tup (ps.map aY),I],.int a]=some (.int ps.length,false):=by
 have k2:=bZ (X:=X) B n (ls:=.tup (ps.map aY)) (its:=ps.map aY) rfl (gD (f:=fun x=>x) hp)
 refine aB B.wu rfl ?_
 refine aC (au (d:=sD "pick") (fr:=false) rfl) ?_
 generalize am P X (n+1)=cf at *
 refine bb (k:=false) (aA (ae (aa az)) (aE _ _ _) rfl) rfl nofun fun _=>bb (k:=true) (aA (ae (aa az)) (aE _ _ _) rfl) rfl (fun _=>?_) nofun
 refine aC (hZ (d:=.none) (ay (ad (d:=.tup (ps.map aY)) rfl (ad (d:=.int a) rfl (ai _ _))) k2) rfl) ?_
 refine aP (ax (cn (ad (d:=.tup (ps.map aY)) rfl (ai _ _)) ?_) rfl rfl) rfl
 show some (D.int ((ps.map aY).length:Nat))=_
 rw[List.length_map]
theorem upon_group(B:BW P)(n:Nat){ps:List Nat}{ss:List (String×Nat)}{I:D}{a:Nat}(hp:∀ p∈ps,p<a)(hs:∀ x∈ss,x.2<a)(hl:ss.length≤1000):(am P X (n+2)).call "width_upon" [.tup [sD "group",.tup (ps.map aY),.tup (ss.map dA),I],.int a]=some (.int (ps.length+ss.length:Nat),false):=by
 have k1:=bZ (X:=X) B n (ls:=.tup (ps.map aY)) (its:=ps.map aY) rfl (gD (f:=fun x=>x) hp)
 have k2:=bZ (X:=X) B n (ls:=.list (ss.map fun x=>.int x.2)) rfl (gD (f:=fun x:String×Nat=>x.2) hs)
 have hbig:2000<big:=by decide
 refine aB B.wu rfl ?_
 refine aC (au (d:=sD "group") (fr:=false) rfl) ?_
 generalize am P X (n+1)=cf at *
 refine bb (k:=false) (aA (ae (aa az)) (aE _ _ _) rfl) rfl nofun fun _=>bb (k:=false) (aA (ae (aa az)) (aE _ _ _) rfl) rfl nofun fun _=>bb (k:=true) (aA (ae (aa az)) (aE _ _ _) rfl) rfl (fun _=>?_) nofun
 refine aC (hZ (d:=.none) (ay (ad (d:=.tup (ps.map aY)) rfl (ad (d:=.int a) rfl (ai _ _))) k1) rfl) ?_
 refine aC (hZ (d:=.none) (ay (ad (j4 (l:=ss) (g:=dA) (f:=fun x=>.int x.2) rfl (by omega) fun x _=>rfl) (ad (d:=.int a) rfl (ai _ _))) k2) rfl) ?_
 refine aP (ax (ao (cn (ad (d:=.tup (ps.map aY)) rfl (ai _ _)) rfl) (cn (ad (d:=.tup (ss.map dA)) rfl (ai _ _)) rfl) ?_) rfl rfl) rfl
 show some (D.int (((ps.map aY).length:Nat)+((ss.map dA).length:Nat):Int))=_
 rw[List.length_map,List.length_map,Int.natCast_add]
theorem upon_order(B:BW P)(n:Nat){ks:List (Nat×Bool)}{I:D}{a:Nat}(hs:∀ x∈ks,x.1<a)(hl:ks.length≤1000):(am P X (n+2)).call "width_upon" [.tup [sD "order",.tup (ks.map jh),I],.int a]=some (.int a,false):=by
 have k2:=bZ (X:=X) B n (ls:=.list (ks.map fun x=>.int x.1)) rfl (gD (f:=fun x:Nat×Bool=>x.1) hs)
 have hbig:2000<big:=by decide
 refine aB B.wu rfl ?_
 refine aC (au (d:=sD "order") (fr:=false) rfl) ?_
 generalize am P X (n+1)=cf at *
 refine bb (k:=false) (aA (ae (aa az)) (aE _ _ _) rfl) rfl nofun fun _=>bb (k:=false) (aA (ae (aa az)) (aE _ _ _) rfl) rfl nofun fun _=>bb (k:=false) (aA (ae (aa az)) (aE _ _ _) rfl) rfl nofun fun _=>bb (k:=true) (aA (ae (aa az)) (aE _ _ _) rfl) rfl (fun _=>?_) nofun
 refine aC (hZ (d:=.none) (ay (ad (j4 (l:=ks) (g:=jh) (f:=fun x=>.int x.1) rfl (by omega) fun x _=>rfl) (ad (d:=.int a) rfl (ai _ _))) k2) rfl) ?_
 exact i7 (.inr (.inl rfl)) az rfl
theorem upon_once(B:BW P)(n:Nat){I:D}{a:Nat}:(am P X (n+2)).call "width_upon" [.tup [sD "once",I],.int a]=some (.int a,false):=by
 refine aB B.wu rfl ?_
 refine aC (au (d:=sD "once") (fr:=false) rfl) ?_
 generalize am P X (n+1)=cf at *
 refine bb (k:=false) (aA (ae (aa az)) (aE _ _ _) rfl) rfl nofun fun _=>bb (k:=false) (aA (ae (aa az)) (aE _ _ _) rfl) rfl nofun fun _=>bb (k:=false) (aA (ae (aa az)) (aE _ _ _) rfl) rfl nofun fun _=>bb (k:=false) (aA (ae (aa az)) (aE _ _ _) rfl) rfl nofun fun _=>?_
 exact i7 (.inr (.inr rfl)) az rfl
theorem upon_first(B:BW P)(n:Nat){I:D}{a c:Nat}:(am P X (n+2)).call "width_upon" [.tup [sD "first",aY c,I],.int a]=some (.int a,false):=by
 have hc:dZ .Lt (.int c) (.int 0)=some (.bool false):=by
  show some (D.bool (decide ((c:Int)<0)))=_
  rw[decide_eq_false (by omega)]
 refine aB B.wu rfl ?_
 refine aC (au (d:=sD "first") (fr:=false) rfl) ?_
 generalize am P X (n+1)=cf at *
 refine bb (k:=false) (aA (ae (aa az)) (aE _ _ _) rfl) rfl nofun fun _=>bb (k:=false) (aA (ae (aa az)) (aE _ _ _) rfl) rfl nofun fun _=>bb (k:=false) (aA (ae (aa az)) (aE _ _ _) rfl) rfl nofun fun _=>bb (k:=false) (aA (ae (aa az)) (aE _ _ _) rfl) rfl nofun fun _=>?_
 refine bb (k:=false) (x:=.bool (true&&false)) (gK (k:=true) (l:=false) (aA (ae (aa az)) (aE _ _ _) rfl) fun _=>bS (aA (av (x:=.tup [sD "first",aY c,I]) (y:=.int 1) rfl rfl rfl) (af _ _ _) hc)) rfl nofun fun _=>dT rfl
theorem two_join(B:BW P)(n:Nat){prs:List (Nat×Nat)}{I J:D}{a b:Nat}(h:∀ x∈prs,x.1<a∧x.2<b)(hl:prs.length≤5000):(am P X (n+2)).call "width_of_two" [.tup [sD "join",I,J,.tup (prs.map prT)],.int a,.int b]=some (.int (a+b:Nat),false):=by
 have k1:=bZ (X:=X) B n (ls:=.list (prs.map fun x=>.int x.1)) rfl (gD (f:=fun x=>x.1) fun x hx=>(h x hx).1)
 have k2:=bZ (X:=X) B n (ls:=.list (prs.map fun x=>.int x.2)) rfl (gD (f:=fun x=>x.2) fun x hx=>(h x hx).2)
 have hbig:5000≤big:=by decide
 refine aB B.w2 rfl ?_
 generalize am P X (n+1)=cf at *
 refine bb (k:=true) (aA (av (x:=.tup [sD "join",I,J,.tup (prs.map prT)]) (y:=.int 0) rfl rfl rfl) (aE _ _ _) rfl) rfl (fun _=>?_) nofun
 refine aC (hZ (d:=.none) (ay (ad (j4 (l:=prs) (g:=prT) (f:=fun x=>.int x.1) rfl (by omega) fun x _=>rfl) (ad (d:=.int a) rfl (ai _ _))) k1) rfl) ?_
 refine aC (hZ (d:=.none) (ay (ad (j4 (l:=prs) (g:=prT) (f:=fun x=>.int x.2) rfl (by omega) fun x _=>rfl) (ad (d:=.int b) rfl (ai _ _))) k2) rfl) ?_
 exact aP (ax (ao (x:=.int a) (y:=.int b) rfl rfl (by rw[Int.natCast_add];rfl)) rfl rfl) rfl
theorem two_both(B:BW P)(n:Nat){I J:D}{a:Nat}:(am P X (n+1)).call "width_of_two" [.tup [sD "both",I,J],.int a,.int a]=some (.int a,false):=by
 have e:dZ .NotEq (.int a) (.int a)=some (.bool false):=by show some (D.bool (!((a:Int) == a)))=_;rw[beq_self_eq_true];rfl
 refine aB B.w2 rfl ?_
 generalize am P X n=cf at *
 refine bb (k:=false) (aA (av (x:=.tup [sD "both",I,J]) (y:=.int 0) rfl rfl rfl) (aE _ _ _) rfl) rfl nofun fun _=>?_
 exact bb (k:=false) (aA (x:=.int a) (y:=.int a) rfl rfl e) rfl nofun fun _=>dT rfl
theorem cy(B:BW P)(hX:X.glob "STEPS"=some (.tup dN)){W:Wd}:∀ (q:Q) (n:Nat),q.ok W→q.dp≤n→(am P X (n+3)).call "width" [q.d,W.d]=some (.int (q.wd W),false)
 | .table nm,n,⟨k,h⟩,_=>by
  have:=width_table B hX (n+2) h
  rw[this,Q.wd,h];rfl
 | .sieve cs q,n+1,⟨h1,h2,_⟩,hn=>dy B hX _ (wd:="sieve") (by decide) rfl rfl (cy B hX q n h1 (Nat.le_of_succ_le_succ hn)) (upon_sieve B (n+1) h2)
 | .pick ps q,n+1,⟨h1,h2,_⟩,hn=>dy B hX _ (wd:="pick") (by decide) rfl rfl (cy B hX q n h1 (Nat.le_of_succ_le_succ hn)) (upon_pick B (n+1) h2)
 | .group ps ss q,n+1,⟨h1,h2,h3,_,h4⟩,hn=>dy B hX _ (wd:="group") (by decide) rfl rfl (cy B hX q n h1 (Nat.le_of_succ_le_succ hn)) (upon_group B (n+1) h2 h3 h4)
 | .order ks q,n+1,⟨h1,h2,h3⟩,hn=>dy B hX _ (wd:="order") (by decide) rfl rfl (cy B hX q n h1 (Nat.le_of_succ_le_succ hn)) (upon_order B (n+1) h2 h3)
 | .once q,n+1,h1,hn=>dy B hX _ (wd:="once") (by decide) rfl rfl (cy B hX q n h1 (Nat.le_of_succ_le_succ hn)) (upon_once B (n+1))
 | .first c q,n+1,h1,hn=>dy B hX _ (wd:="first") (by decide) rfl rfl (cy B hX q n h1 (Nat.le_of_succ_le_succ hn)) (upon_first B (n+1))
 | .join a b prs,n+1,⟨h1,h2,h3,h4⟩,hn=>lS B hX _ (.inl rfl) rfl rfl rfl (cy B hX a n h1 (Nat.le_trans (Nat.le_max_left _ _) (Nat.le_of_succ_le_succ hn))) (cy B hX b n h2 (Nat.le_trans (Nat.le_max_right _ _) (Nat.le_of_succ_le_succ hn))) (two_join B (n+1) h3 h4)
 | .both a b,n+1,⟨h1,h2,h3⟩,hn=>by
  have k2:=cy B hX b n h2 (Nat.le_trans (Nat.le_max_right _ _) (Nat.le_of_succ_le_succ hn))
  rw[← h3] at k2
  exact lS B hX _ (.inr rfl) rfl rfl rfl (cy B hX a n h1 (Nat.le_trans (Nat.le_max_left _ _) (Nat.le_of_succ_le_succ hn))) k2 (two_both B (n+2))
end

set_option maxRecDepth 100000
set_option maxHeartbeats 400000
noncomputable def ou:Fn:=⟨["one","other"],[
  .ret (.bop .And [.cmp .Eq (.isi (.var "one") "str") (.isi (.var "other") "str"),.cmp .Eq (.var "one") (.var "other")])]⟩
noncomputable def nd:Fn:=⟨["test","row"],[
  .assign "one" (.sub (.var "row") (.sub (.var "test") (.int 1))),
  .assign "other" (.sub (.var "test") (.int 3)),
  .ite (.cmp .Eq (.sub (.var "test") (.int 2)) (.str "col")) [.assign "other" (.sub (.var "row") (.sub (.var "test") (.int 3)))] [],
  .assign "word" (.sub (.var "test") (.int 0)),
  .ite (.cmp .Eq (.var "word") (.str "same")) [.ret (.call "alike" [.var "one",.var "other"])] [],
  .ite (.cmp .Eq (.var "word") (.str "unlike")) [.ret (.not (.call "alike" [.var "one",.var "other"]))] [],
  .ite (.cmp .Eq (.var "word") (.str "before")) [.ret (.call "before" [.var "one",.var "other"])] [],
  .ite (.cmp .Eq (.var "word") (.str "upto")) [.ret (.bop .Or [.call "before" [.var "one",.var "other"],.call "alike" [.var "one",.var "other"]])] [],
  .ite (.cmp .Eq (.var "word") (.str "behind")) [.ret (.call "before" [.var "other",.var "one"])] [],
  .ret (.bop .Or [.call "before" [.var "other",.var "one"],.call "alike" [.var "one",.var "other"]])]⟩
noncomputable def k9:Fn:=⟨["clause","row"],[
  .for_ "test" (.var "clause") [.ite (.call "does" [.var "test",.var "row"]) [.ret (.bool true)] []],
  .ret (.bool false)]⟩
noncomputable def k8:Fn:=⟨["clauses","row"],[
  .for_ "clause" (.var "clauses") [.ite (.not (.call "holds" [.var "clause",.var "row"])) [.ret (.bool false)] []],
  .ret (.bool true)]⟩
noncomputable def jJ:Fn:=⟨["row","places"],[
  .ret (.blt "tuple" [.comp (.sub (.var "row") (.var "place")) "place" (.var "places") []])]⟩
noncomputable def k7:Fn:=⟨["one","other","pairs"],[
  .for_ "pair" (.var "pairs") [.ite (.not (.call "alike" [.sub (.var "one") (.sub (.var "pair") (.int 0)),.sub (.var "other") (.sub (.var "pair") (.int 1))])) [.ret (.bool false)] []],
  .ret (.bool true)]⟩
noncomputable def pk:Fn:=⟨["first","second","pairs"],[
  .assign "found" (.lst []),
  .for_ "one" (.var "first") [.for_ "other" (.var "second") [.ite (.call "meets" [.var "one",.var "other",.var "pairs"]) [.append "found" (.bin .Add (.var "one") (.var "other"))] []]],
  .ret (.var "found")]⟩
noncomputable def ii:Fn:=⟨["one","rows"],[
  .assign "word" (.sub (.var "one") (.int 0)),
  .assign "place" (.sub (.var "one") (.int 1)),
  .ite (.cmp .Eq (.var "word") (.str "count")) [.ret (.blt "len" [.var "rows"])] [],
  .ite (.cmp .Eq (.var "word") (.str "sum")) [.ret (.blt "sum" [.comp (.sub (.var "row") (.var "place")) "row" (.var "rows") [.not (.isi (.sub (.var "row") (.var "place")) "str")]])] [],
  .assign "found" (.sub (.sub (.var "rows") (.int 0)) (.var "place")),
  .for_ "row" (.var "rows") [.ite (.bop .And [.cmp .Eq (.var "word") (.str "least"),.call "before" [.sub (.var "row") (.var "place"),.var "found"]]) [.assign "found" (.sub (.var "row") (.var "place"))] [],.ite (.bop .And [.cmp .Eq (.var "word") (.str "most"),.call "before" [.var "found",.sub (.var "row") (.var "place")]]) [.assign "found" (.sub (.var "row") (.var "place"))] []],
  .ret (.var "found")]⟩
noncomputable def il:Fn:=⟨["rows","places","sums"],[
  .assign "groups" (.dct [] []),
  .grp,
  .assign "found" (.lst []),
  .for_ "own" (.var "groups") [.assign "told" (.comp (.call "told_of" [.var "one",.sub (.var "groups") (.var "own")]) "one" (.var "sums") []),.append "found" (.bin .Add (.var "own") (.blt "tuple" [.var "told"]))],
  .ret (.var "found")]⟩
noncomputable def qB:Fn:=⟨["cell"],[
  .ret (.tup [.isi (.var "cell") "str",.var "cell"])]⟩
noncomputable def ik:Fn:=⟨["rows","keys"],[
  .assign "found" (.lcp (.var "rows")),
  .forr "one" (.var "keys") [.assign "place" (.sub (.var "one") (.int 0)),.ite (.sub (.var "one") (.int 1)) [.assign "found" (.srt (.var "found") "rank" "row" "place" true)] [.assign "found" (.srt (.var "found") "rank" "row" "place" false)]],
  .ret (.var "found")]⟩
noncomputable def nb:Fn:=⟨["rows"],[
  .assign "known" (.dct [] []),
  .assign "found" (.lst []),
  .for_ "row" (.var "rows") [.ite (.cmp .NotIn (.var "row") (.var "known")) [.setk "known" (.var "row") (.bool true),.append "found" (.var "row")] []],
  .ret (.var "found")]⟩
noncomputable def ij:Fn:=⟨["query","rows"],[
  .assign "word" (.sub (.var "query") (.int 0)),
  .ite (.cmp .Eq (.var "word") (.str "sieve")) [.ret (.comp (.var "row") "row" (.var "rows") [.call "keeps" [.sub (.var "query") (.int 1),.var "row"]])] [],
  .ite (.cmp .Eq (.var "word") (.str "pick")) [.ret (.comp (.call "cells_at" [.var "row",.sub (.var "query") (.int 1)]) "row" (.var "rows") [])] [],
  .ite (.cmp .Eq (.var "word") (.str "group")) [.ret (.call "grouped" [.var "rows",.sub (.var "query") (.int 1),.sub (.var "query") (.int 2)])] [],
  .ite (.cmp .Eq (.var "word") (.str "order")) [.ret (.call "ordered" [.var "rows",.sub (.var "query") (.int 1)])] [],
  .ite (.cmp .Eq (.var "word") (.str "once")) [.ret (.call "once" [.var "rows"])] [],
  .ret (.sl (.var "rows") .none (.sub (.var "query") (.int 1)))]⟩
noncomputable def gF:Fn:=⟨["query","tables"],[
  .assign "word" (.sub (.var "query") (.int 0)),
  .ite (.cmp .NotIn (.var "word") (.glob "STEPS")) [.bad] [],
  .ite (.cmp .Eq (.var "word") (.str "table")) [.ite (.cmp .NotIn (.sub (.var "query") (.int 1)) (.var "tables")) [.bad] [],.ret (.lcp (.sub (.var "tables") (.sub (.var "query") (.int 1))))] [],
  .ite (.cmp .Eq (.var "word") (.str "join")) [.assign "first" (.call "answer" [.sub (.var "query") (.int 1),.var "tables"]),.ret (.call "met" [.var "first",.call "answer" [.sub (.var "query") (.int 2),.var "tables"],.sub (.var "query") (.int 3)])] [],
  .ite (.cmp .Eq (.var "word") (.str "both")) [.assign "first" (.call "answer" [.sub (.var "query") (.int 1),.var "tables"]),.ret (.bin .Add (.var "first") (.call "answer" [.sub (.var "query") (.int 2),.var "tables"]))] [],
  .ret (.call "stepped" [.var "query",.call "answer" [.sub (.var "query") (.neg (.int 1)),.var "tables"]])]⟩
structure BA(P:List (String×Fn)):Prop where
 before:P.lookup "before"=some jo
 alike:P.lookup "alike"=some ou
 does:P.lookup "does"=some nd
 holds:P.lookup "holds"=some k9
 keeps:P.lookup "keeps"=some k8
 cells_at:P.lookup "cells_at"=some jJ
 meets:P.lookup "meets"=some k7
 met:P.lookup "met"=some pk
 told_of:P.lookup "told_of"=some ii
 grouped:P.lookup "grouped"=some il
 rank:P.lookup "rank"=some qB
 ordered:P.lookup "ordered"=some ik
 once:P.lookup "once"=some nb
 stepped:P.lookup "stepped"=some ij
 answer:P.lookup "answer"=some gF
noncomputable def ny(w:String)(a b:D):Bool:=
 if w="same" then gm a b else if w="unlike" then !gm a b else if w="before" then bR a b else if w="upto" then !bR b a
 else if w="behind" then bR b a else !bR a b
noncomputable def othV(row:List D)(kd:String)(o:D):D:=if kd="col" then (match o with | .int q=>row.getD q.toNat .none | _=>.none) else o
noncomputable def tV(row:List D)(t:D):Bool:=match t with
 | .tup [.str w,.int p,.str kd,o]=>["same","unlike","before","upto","behind","from"].any fun x=>Str.ofString x == w&&ny x (row.getD p.toNat .none) (othV row (if kd == Str.ofString "col" then "col" else "is") o)
 | _=>false
theorem ry(row:List D){w:String}(hw:w∈gJ)(p:Nat)(kd:String)(o:D):tV row (tst w p kd o)=ny w (row.getD p .none) (othV row (if kd == "col" then "col" else "is") o):=by
 unfold tV tst
 simp only[ofS_beq,Int.toNat_natCast]
 simp only[gJ,List.mem_cons,List.not_mem_nil,or_false] at hw
 rcases hw with rfl | rfl | rfl | rfl | rfl | rfl <;> simp
section
variable {P:List (String×Fn)} {X:CF}
theorem words_or{w:String}(hw:w∈gJ):w="same"∨w="unlike"∨w="before"∨w="upto"∨w="behind"∨w="from":=by
 simpa only [gJ,List.mem_cons,List.not_mem_nil,or_false] using hw
theorem oQ(B:BA P)(n:Nat)(a b:D)(ha:a.isCell=true)(hb:b.isCell=true):(am P X (n+1)).call "alike" [a,b]=some (.bool (gm a b),false):=by
 refine aB B.alike rfl ?_
 cases a <;> first | (cases ha;done) | (cases b <;> first | (cases hb;done) | rfl)
theorem fm(B:BA P)(n:Nat)(a b:D)(ha:a.isCell=true)(hb:b.isCell=true):(am P X (n+1)).call "before" [a,b]=some (.bool (bR a b),false):=by
 refine aB B.before rfl ?_
 cases a <;> first | (cases ha;done) | (cases b <;> first | (cases hb;done) | rfl)
theorem jt{row:List D}(hr:∀ d∈row,d.isCell=true){p:Nat}(hp:p<row.length):(row.getD p .none).isCell=true:=by
 rw[List.getD_eq_getElem?_getD,List.getElem?_eq_getElem hp];exact hr _ (List.getElem_mem hp)
variable {cf:CF} {σ:St} {t r:List MS} {w w2:String} {R:D} {fr:Bool}
theorem skW(hne:(Str.ofString w == Str.ofString w2)=false)(h:Has σ "word" (sD w))(k:Run cf r σ R fr):Run cf (.ite (.cmp .Eq (.var "word") (.str w2)) t []::r) σ R fr:=
 bb (k:=false) (x:=.bool false) (aA (ae (aa h)) (aE _ _ _) (by show some (D.bool (Str.ofString w == Str.ofString w2))=_;rw[hne])) rfl nofun fun _=>k
theorem jk(h:Has σ "word" (sD w))(k:Run cf (t++r) σ R fr):Run cf (.ite (.cmp .Eq (.var "word") (.str w)) t []::r) σ R fr:=
 bb (k:=true) (x:=.bool true) (aA (ae (aa h)) (aE _ _ _) (by show some (D.bool (Str.ofString w == Str.ofString w))=_;rw[beq_self_eq_true])) rfl (fun _=>k) nofun
theorem mt(B:BA P)(n:Nat){w:String}(hw:w∈gJ){a b:D}(ha:a.isCell=true)(hb:b.isCell=true){σ:St}(iw:Has σ "word" (sD w))(i1:Has σ "one" a)(i2:Has σ "other" b):Run (am P X (n+1)) (nd.body.drop 4) σ (.bool (ny w a b)) false:=by
 have q1:=oQ (X:=X) B n a b ha hb
 have q3:=fm (X:=X) B n a b ha hb
 have q4:=fm (X:=X) B n b a hb ha
 have t1:=tri ha hb
 have t2:=tri hb ha
 rw[alike_comm hb ha] at t2
 generalize am P X (n+1)=cf at *
 have ab:bF cf (vis σ) [.var "one",.var "other"]=some [a,b]:=ad (ae (aa i1)) (ad (ae (aa i2)) (ai _ _))
 have ba:bF cf (vis σ) [.var "other",.var "one"]=some [b,a]:=ad (ae (aa i2)) (ad (ae (aa i1)) (ai _ _))
 rcases words_or hw with rfl | rfl | rfl | rfl | rfl | rfl
 ·exact jk iw (aP (aK ab q1) rfl)
 ·exact skW (by decide +kernel) iw (jk iw (aP (ax (jy (ay ab q1) rfl) rfl rfl) rfl))
 ·exact skW (by decide +kernel) iw (skW (by decide +kernel) iw (jk iw (aP (aK ab q3) rfl)))
 ·show Run cf _ _ (.bool (!bR b a)) _
  rw[← t2]
  exact skW (by decide +kernel) iw (skW (by decide +kernel) iw (skW (by decide +kernel) iw (jk iw (aP (ax (gX (ay ab q3) fun _=>bS (ay ab q1)) rfl rfl) rfl))))
 ·exact skW (by decide +kernel) iw (skW (by decide +kernel) iw (skW (by decide +kernel) iw (skW (by decide +kernel) iw (jk iw (aP (aK ba q4) rfl)))))
 ·show Run cf _ _ (.bool (!bR a b)) _
  rw[← t1]
  exact skW (by decide +kernel) iw (skW (by decide +kernel) iw (skW (by decide +kernel) iw (skW (by decide +kernel) iw (skW (by decide +kernel) iw (aP (ax (gX (ay ba q4) fun _=>bS (ay ab q1)) rfl rfl) rfl)))))
theorem does_eq(B:BA P)(n:Nat){row:List D}(hr:∀ d∈row,d.isCell=true){t:D}(ht:Tst row.length t):(am P X (n+2)).call "does" [t,.tup row]=some (.bool (tV row t),false):=by
 obtain⟨w,p,hw,hp,hcase⟩:=ht
 have ha:=jt hr hp
 have h1:=m9 hp
 refine aB B.does rfl ?_
 rcases hcase with⟨q,hq,rfl⟩ | ⟨o,ho,rfl⟩
 ·rw[show tV row (tst w p "col" (.int q))=ny w (row.getD p .none) (row.getD q .none) from ry row hw p "col" (.int q)]
  have hb:=jt hr hq
  refine aC (bg (d:=row.getD p .none) (fr:=false) (ax (av (ae (aa (aj rfl ag))) (av (x:=tst w p "col" (.int q)) (ae (aa ag)) (af _ _ _) rfl) h1) rfl rfl) ha) (aC (bg (d:=.int q) (fr:=false) (ax (av (x:=tst w p "col" (.int q)) (ae (aa (al rfl ag))) (af _ _ _) rfl) rfl rfl) rfl) (bb (k:=true) (x:=.bool true) (aA (av (x:=tst w p "col" (.int q)) (ae (aa (al rfl (al rfl ag)))) (af _ _ _) rfl) (aE _ _ _) rfl) rfl (fun _=>?_) nofun))
  refine aC (bg (d:=row.getD q .none) (fr:=false) (ax (av (ae (aa (al rfl (al rfl (aj rfl ag))))) (av (x:=tst w p "col" (.int q)) (ae (aa (al rfl (al rfl ag)))) (af _ _ _) rfl) (m9 hq)) rfl rfl) hb) (aC (bg (d:=sD w) (fr:=false) (ax (av (x:=tst w p "col" (.int q)) (ae (aa (al rfl (al rfl (al rfl ag))))) (af _ _ _) rfl) rfl rfl) rfl) ?_)
  exact mt B n hw ha hb az (al rfl (al rfl (al rfl az))) (al rfl az)
 ·rw[show tV row (tst w p "is" o)=ny w (row.getD p .none) o from ry row hw p "is" o]
  have hb:=ho.cell
  refine aC (bg (d:=row.getD p .none) (fr:=false) (ax (av (ae (aa (aj rfl ag))) (av (x:=tst w p "is" o) (ae (aa ag)) (af _ _ _) rfl) h1) rfl rfl) ha) (aC (bg (d:=o) (fr:=false) (ax (av (x:=tst w p "is" o) (ae (aa (al rfl ag))) (af _ _ _) rfl) rfl rfl) hb) (bb (k:=false) (x:=.bool false) (aA (av (x:=tst w p "is" o) (ae (aa (al rfl (al rfl ag)))) (af _ _ _) rfl) (aE _ _ _) rfl) rfl nofun fun _=>?_))
  exact aC (bg (d:=sD w) (fr:=false) (ax (av (x:=tst w p "is" o) (ae (aa (al rfl (al rfl ag)))) (af _ _ _) rfl) rfl rfl) rfl) (mt B n hw ha hb az (al rfl (al rfl az)) (al rfl az))
theorem holds_eq(B:BA P)(n:Nat){row:List D}(hr:∀ d∈row,d.isCell=true){ts:List D}(ht:∀ t∈ts,Tst row.length t):(am P X (n+3)).call "holds" [.tup ts,.tup row]=some (.bool (ts.any (tV row)),false):=by
 refine aB B.holds rfl ?_
 show Run _ k9.body [("clause",(false,.tup ts)),("row",(false,.tup row))] _ _
 obtain⟨σ',k1,k2⟩:=mh (cf:=am P X (n+2)) (body:=[.ite (.call "does" [.var "test",.var "row"]) [.ret (.bool true)] []]) (z:="test") (tV row) (fun σ=>Has σ "row" (.tup row)) false (.bool true) ts (fun t hts σ hσ=>ef (ay (ad (ae (aa az)) (ad (ae (aa (al rfl hσ))) (ai _ _))) (does_eq B n hr (ht t hts))) rfl (fun q=>o_ret (ax (lh _ _ _) rfl rfl) rfl (leaf_t q rfl)) fun q=>cq (leaf_f q ⟨rfl,al rfl hσ⟩)) _ (cP (ns:=["clause"]) (σ:=[("clause",(false,.tup ts)),("row",(false,.tup row))]) (aj rfl ag))
 cases hb:ts.any (tV row) with
 | true=>exact pd (ae (aa ag)) rfl (k1 hb)
 | false=>exact fu (ae (aa ag)) rfl (k2 hb).2 (aP (ax (lh _ _ _) rfl rfl) rfl)
end

set_option maxRecDepth 100000
section
variable {α:Type} {cf:CF} {body:List MS} {z:String} {g:α→D}
theorem jE(I:List α→St→Prop):∀ (l a:List α) (σ:St),I a σ→(∀ (b:List α) (x:α) (σ:St),x∈l→b.length<a.length+l.length→I b σ→Out cf body (aD σ z (false,g x)) fun fl σ'=>fl=.next∧I (b++[x]) σ')→∃ σ',I (a++l) σ'∧bU (cH cf body z) (l.map g) σ=some (.next,σ')
 | [],a,σ,h,_=>⟨σ,(List.append_nil a).symm▸h,rfl⟩
 | x::l,a,σ,h,hs=>by
  obtain⟨fl,σ₁,⟨rfl,i1⟩,e⟩:=hs a x σ (.head _) (Nat.lt_add_of_pos_right (Nat.succ_pos _)) h
  obtain⟨σ₂,i2,e2⟩:=jE I l (a++[x]) σ₁ i1 fun b y s hy hb h=>hs b y s (.tail _ hy) (by rw[List.length_append] at hb;exact Nat.lt_of_lt_of_le hb (Nat.le_of_eq (by rw[Nat.add_assoc,Nat.add_comm [x].length];rfl))) h
  exact⟨σ₂,by rw[List.append_cons];exact i2,by rw[List.map_cons,bK,e];exact e2⟩
theorem findT(p:α→Bool)(I:St→Prop)(fr:Bool)(d:D):∀ (l:List α),(∀ x∈l,∀ σ,I σ→Out cf body (aD σ z (false,g x)) fun fl σ'=>if p x=true then fl=.ret fr d else fl=.next∧I σ') →
  ∀ σ,I σ→∃ σ',(l.any p=true→bU (cH cf body z) (l.map g) σ=some (.ret fr d,σ'))∧(l.any p=false→I σ'∧bU (cH cf body z) (l.map g) σ=some (.next,σ'))
 | [],_,σ,hσ=>⟨σ,nofun,fun _=>⟨hσ,rfl⟩⟩
 | x::r,h,σ,hσ=>by
  obtain⟨fl,σ₁,q,e⟩:=h x (.head _) σ hσ
  rw[List.any_cons,List.map_cons,bK,e]
  cases hp:p x with
  | true=>
   rw[if_pos hp] at q
   subst q
   exact⟨σ₁,fun _=>rfl,nofun⟩
  | false=>
   rw[if_neg (by rw[hp];exact Bool.false_ne_true)] at q
   obtain⟨rfl,i1⟩:=q
   exact findT p I fr d r (fun i hi=>h i (.tail _ hi)) σ₁ i1
theorem nN(p:α→Bool)(l:List α){s:String}{c:ME}{b:Bool}{σ:St}(hs:Has σ s (.tup (l.map g)))(I:St→Prop)(h0:I (freeze [s] σ))(hc:∀ x∈l,∀ σ,I σ→I (aD σ z (false,g x))∧evE cf (vis (aD σ z (false,g x))) c=some (.bool (p x))) :
  Run cf [.for_ z (.var s) [.ite c [.ret (.bool b)] []],.ret (.bool (!b))] σ (.bool (if l.any p=true then b else !b)) false:=by
 obtain⟨σ',k1,k2⟩:=findT (cf:=cf) (body:=[.ite c [.ret (.bool b)] []]) (z:=z) (g:=g) p I false (.bool b) l (fun x hx σ hσ=>ef (hc x hx σ hσ).2 rfl (fun h=>o_ret (ax (lh _ _ _) rfl rfl) rfl (by rw[if_pos h];rfl)) fun h=>cq (by rw[h,if_neg Bool.false_ne_true];exact⟨rfl,(hc x hx σ hσ).1⟩)) _ h0
 cases hb:l.any p with
 | true=>exact pd (ae (aa hs)) rfl (k1 hb)
 | false=>exact fu (ae (aa hs)) rfl (k2 hb).2 (aP (ax (lh _ _ _) rfl rfl) rfl)
theorem oX{ρ:List (String×D)}{elt src:ME}{f:α→D}{l:List α}{d:D}(hs:evE cf ρ src=some d)(hi:d.items=some (l.map g))(hl:l.length≤big)(h:∀ x∈l,evE cf ((z,g x)::ρ) elt=some (f x)):evE cf ρ (.comp elt z src [])=some (.list (l.map f)):=
 gY hs hi (by rw[List.length_map];exact hl) (lm _ _ _ _ fun x hx=>gG (h x hx))
end
noncomputable abbrev Tab:=List (List D)
noncomputable def dR(m:Nat)(r:List D):Prop:=r.length=m∧∀ d∈r,d.isCell=true
noncomputable def bA(m:Nat)(t:Tab):Prop:=∀ r∈t,dR m r
noncomputable def aL(t:Tab):D:=.list (t.map .tup)
noncomputable def mV(cs:List (List D))(row:List D):Bool:=cs.all fun c=>c.any (tV row)
noncomputable def eK(ps:List Nat)(row:List D):List D:=ps.map fun p=>row.getD p .none
noncomputable def eF(prs:List (Nat×Nat))(a b:List D):Bool:=prs.all fun p=>gm (a.getD p.1 .none) (b.getD p.2 .none)
theorem p6{α:Type}(q:α→Bool)(l:List α):(if (l.any fun x=>!q x)=true then false else !false)=l.all q:=by
 rw[← List.not_all_eq_any_not]
 cases l.all q <;> rfl
section
variable {P:List (String×Fn)} {X:CF}
theorem oO{m p:Nat}{r:List D}(hr:dR m r)(hp:p<m):aT (.tup r) (.int p)=some (r.getD p .none):=m9 (hr.1.symm▸hp)
theorem lO{m p:Nat}{r:List D}(hr:dR m r)(hp:p<m):(r.getD p .none).isCell=true:=jt hr.2 (hr.1.symm▸hp)
theorem keeps_eq(B:BA P)(n:Nat){m:Nat}{row:List D}(hr:dR m row){cs:List (List D)}(hc:∀ c∈cs,iY m c):(am P X (n+4)).call "keeps" [.tup (cs.map clD),.tup row]=some (.bool (mV cs row),false):=by
 refine aB B.keeps rfl ?_
 show Run _ k8.body [("clauses",(false,.tup (cs.map clD))),("row",(false,.tup row))] _ _
 have q:=nN (cf:=am P X (n+3)) (z:="clause") (g:=clD) (s:="clauses") (σ:=[("clauses",(false,.tup (cs.map clD))),("row",(false,.tup row))]) (c:=.not (.call "holds" [.var "clause",.var "row"])) (b:=false) (fun c=>!c.any (tV row)) cs ag (fun σ=>Has σ "row" (.tup row)) (cP (aj rfl ag)) fun c hcs σ hσ=>⟨al rfl hσ,jy (ay (ad (ae (aa az)) (ad (ae (aa (al rfl hσ))) (ai _ _))) (holds_eq B n hr.2 fun t ht=>hr.1.symm▸(hc c hcs).1 t ht)) rfl⟩
 rw[p6] at q
 exact q
theorem oI(B:BA P)(n:Nat){m:Nat}{row:List D}(hr:dR m row){ps:List Nat}(hp:∀ p∈ps,p<m)(hl:ps.length≤big):(am P X (n+1)).call "cells_at" [.tup row,.tup (ps.map aY)]=some (.tup (eK ps row),false):=by
 refine aB B.cells_at rfl (aP (ax (cn (ad (oX (g:=aY) (l:=ps) (f:=fun p=>row.getD p .none) (ae (aa (aj rfl ag))) rfl hl fun p hps=>av (ae (bP rfl (aa ag))) (ae cT) (oO hr (hp p hps))) (ai _ _)) rfl) rfl rfl) rfl)
theorem meets_eq(B:BA P)(n:Nat){m k:Nat}{a b:List D}(ha:dR m a)(hb:dR k b){prs:List (Nat×Nat)}(hp:∀ p∈prs,p.1<m∧p.2<k):(am P X (n+2)).call "meets" [.tup a,.tup b,.tup (prs.map prT)]=some (.bool (eF prs a b),false):=by
 refine aB B.meets rfl ?_
 show Run _ k7.body [("one",(false,.tup a)),("other",(false,.tup b)),("pairs",(false,.tup (prs.map prT)))] _ _
 have q:=nN (cf:=am P X (n+1)) (z:="pair") (g:=prT) (s:="pairs") (σ:=[("one",(false,.tup a)),("other",(false,.tup b)),("pairs",(false,.tup (prs.map prT)))]) (c:=.not (.call "alike" [.sub (.var "one") (.sub (.var "pair") (.int 0)),.sub (.var "other") (.sub (.var "pair") (.int 1))])) (b:=false) (fun p=>!gm (a.getD p.1 .none) (b.getD p.2 .none)) prs (aj rfl (aj rfl ag)) (fun σ=>Has σ "one" (.tup a)∧Has σ "other" (.tup b)) ⟨cP ag,cP (aj rfl ag)⟩ fun p hps σ hσ=>⟨⟨al rfl hσ.1,al rfl hσ.2⟩,
  jy (ay (ad (av (ae (aa (al rfl hσ.1))) (av (x:=prT p) (ae (aa az)) (af _ _ _) rfl) (oO ha (hp p hps).1)) (ad (av (ae (aa (al rfl hσ.2))) (av (x:=prT p) (ae (aa az)) (af _ _ _) rfl) (oO hb (hp p hps).2)) (ai _ _))) (oQ B n _ _ (lO ha (hp p hps).1) (lO hb (hp p hps).2))) rfl⟩
 rw[p6] at q
 exact q
end

set_option maxRecDepth 100000
noncomputable def lM(prs:List (Nat×Nat))(t1 t2:Tab):Tab:=t1.flatMap fun a=>(t2.filter (eF prs a)).map (a++·)
theorem nZ(prs:List (Nat×Nat))(t1 t2:Tab):(lM prs t1 t2).length≤t1.length * t2.length:=by
 induction t1 with
 | nil=>exact Nat.zero_le _
 | cons a t1 ih=>
  show (_++lM prs t1 t2).length≤_
  rw[List.length_append,List.length_map,List.length_cons,Nat.succ_mul,Nat.add_comm]
  exact Nat.add_le_add ih (List.length_filter_le _ _)
theorem metV_snoc(prs:List (Nat×Nat))(t1 t2:Tab)(a:List D):lM prs (t1++[a]) t2=lM prs t1 t2++(t2.filter (eF prs a)).map (a++·):=by
 unfold lM;rw[List.flatMap_append,List.flatMap_cons,List.flatMap_nil,List.append_nil]
theorem gv(t:Tab)(r:List D):aL (t++[r])=.list (t.map .tup++[.tup r]):=by unfold aL;rw[List.map_append];rfl
section
variable {P:List (String×Fn)} {X:CF}
noncomputable abbrev rQ:List MS:=[.ite (.call "meets" [.var "one",.var "other",.var "pairs"]) [.append "found" (.bin .Add (.var "one") (.var "other"))] []]
structure MetI(t2:Tab)(prs:List (Nat×Nat))(acc:Tab)(σ:St):Prop where
 s:Has σ "second" (aL t2)
 p:Has σ "pairs" (.tup (prs.map prT))
 f:cG σ "found" (aL acc)
theorem met_in(B:BA P)(n:Nat){m k:Nat}{a:List D}{t2 acc:Tab}(ha:dR m a)(h2:bA k t2)(hw:m+k≤big){prs:List (Nat×Nat)}(hp:∀ p∈prs,p.1<m∧p.2<k)(hl:acc.length+t2.length≤big){σ:St}(h1:Has σ "one" (.tup a))(I:MetI t2 prs acc σ) :
  ∃ σ',MetI t2 prs (acc++(t2.filter (eF prs a)).map (a++·)) σ'∧bU (cH (am P X (n+2)) rQ "other") (t2.map .tup) σ=some (.next,σ'):=by
 obtain⟨σ',I',e⟩:=jE (cf:=am P X (n+2)) (body:=rQ) (z:="other") (g:=D.tup) (fun c σ=>Has σ "one" (.tup a)∧MetI t2 prs (acc++(c.filter (eF prs a)).map (a++·)) σ) t2 [] σ ⟨h1,by rw[List.filter_nil,List.map_nil,List.append_nil];exact I⟩ (by
  rintro c b σ hb hc ⟨i1,i2,i3,i4⟩
  refine ef (ay (ad (ae (aa (al rfl i1))) (ad (ae (aa az)) (ad (ae (aa (al rfl i3))) (ai _ _)))) (meets_eq B n ha (h2 b hb) hp)) rfl (fun h=>?_) fun h=>?_
  ·refine aN (ee (d:=.tup (a++b)) (ds:=((acc++(c.filter (eF prs a)).map (a++·)).map .tup)) (ao (ae (aa (al rfl i1))) (ae (aa az)) (if_pos (by rw[ha.1,(h2 b hb).1];exact hw))) (fH rfl (d9 rfl i4)) ?_) (cq ⟨rfl,al rfl (aw (al rfl i1)),al rfl (aw (al rfl i2)),al rfl (aw (al rfl i3)),?_⟩)
   ·rw[List.length_map,List.length_append,List.length_map]
    exact Nat.lt_of_lt_of_le (Nat.add_lt_add_left (Nat.lt_of_le_of_lt (List.length_filter_le _ _) (Nat.zero_add t2.length▸hc)) _) hl
   ·rw[show acc++((c++[b]).filter (eF prs a)).map (a++·)=acc++(c.filter (eF prs a)).map (a++·)++[a++b] from by rw[List.filter_append,show[b].filter (eF prs a)=[b] from List.filter_cons_of_pos h,List.map_append,List.append_assoc];rfl,gv]
    exact eO
  ·refine cq ⟨rfl,al rfl i1,al rfl i2,al rfl i3,?_⟩
   rw[List.filter_append,show[b].filter (eF prs a)=[] from List.filter_cons_of_neg (by rw[h];nofun),List.append_nil]
   exact d9 rfl i4)
 exact⟨σ',I'.2,e⟩
theorem met_eq(B:BA P)(n:Nat){m k:Nat}{t1 t2:Tab}(h1:bA m t1)(h2:bA k t2)(l1:t1.length≤60)(l2:t2.length≤60)(hw:m+k≤big){prs:List (Nat×Nat)}(hp:∀ p∈prs,p.1<m∧p.2<k) :
  (am P X (n+3)).call "met" [aL t1,aL t2,.tup (prs.map prT)]=some (aL (lM prs t1 t2),true):=by
 refine aB B.met rfl ?_
 show Run _ pk.body [("first",(false,aL t1)),("second",(false,aL t2)),("pairs",(false,.tup (prs.map prT)))] _ _
 refine aC (au (d:=.list []) (fr:=true) rfl) ?_
 obtain⟨σ',I',e⟩:=jE (cf:=am P X (n+2)) (body:=[.for_ "other" (.var "second") rQ]) (z:="one") (g:=D.tup) (fun b σ=>MetI t2 prs (lM prs b t2) σ) t1 [] (freeze ["first"] (aD [("first",(false,aL t1)),("second",(false,aL t2)),("pairs",(false,.tup (prs.map prT)))] "found" (true,.list []))) ⟨cP (al rfl (aj rfl ag)),cP (al rfl (aj rfl (aj rfl ag))),lL rfl eO⟩ (by
  rintro b a σ ha hb ⟨i2,i3,i4⟩
  obtain⟨σ2,J,e⟩:=met_in (X:=X) (σ:=freeze ["second"] (aD σ "one" (false,.tup a))) B n (h1 a ha) h2 hw hp (acc:=lM prs b t2) (Nat.le_trans (Nat.add_le_add (Nat.le_trans (nZ prs b t2) (Nat.mul_le_mul (Nat.le_trans (Nat.le_of_lt (Nat.zero_add t1.length▸hb)) l1) l2)) l2) (by decide)) (cP az) ⟨cP (al rfl i2),cP (al rfl i3),lL rfl (d9 rfl i4)⟩
  refine o_for (ae (aa (al rfl i2))) rfl e (cq ⟨rfl,?_⟩)
  rw[metV_snoc];exact J)
 exact fu (ae (aa (al rfl ag))) rfl e (dT I'.f)
end

set_option maxRecDepth 100000
noncomputable def gP(acc:Tab)(r:List D):Tab:=if (acc.any fun x=>aO x r)=true then acc else acc++[r]
noncomputable def bG(t:Tab):Tab:=t.foldl gP []
theorem kB(t:Tab)(r:List D):bG (t++[r])=gP (bG t) r:=by unfold bG;rw[List.foldl_append];rfl
theorem onceS_len(t:Tab)(r:List D):(gP t r).length≤t.length+1:=by
 unfold gP;split
 ·exact Nat.le_succ _
 ·rw[List.length_append];exact Nat.le_refl _
theorem l9{t:Tab}:(∀ r∈bG t,r∈t)∧(bG t).length≤t.length:=by
 have key:∀ (l acc:Tab),(∀ r∈l.foldl gP acc,r∈acc∨r∈l)∧(l.foldl gP acc).length≤acc.length+l.length:=by
  intro l
  induction l with
  | nil=>exact fun acc=>⟨fun r h=>.inl h,Nat.le_refl _⟩
  | cons x l ih=>
   intro acc
   have i:=ih (gP acc x)
   refine⟨fun r h=>(i.1 r h).elim (fun h=>?_) fun h=>.inr (.tail _ h),Nat.le_trans i.2 (Nat.le_trans (Nat.add_le_add_right (onceS_len acc x) _) (Nat.le_of_eq (by rw[Nat.add_assoc,Nat.add_comm 1];rfl)))⟩
   unfold gP at h
   split at h
   ·exact .inl h
   ·exact (List.mem_append.mp h).elim .inl fun h=>.inr (List.mem_singleton.mp h▸.head _)
 exact⟨fun r h=>((key t []).1 r h).elim (fun h=>nomatch h) id,Nat.le_trans (key t []).2 (Nat.le_of_eq (Nat.zero_add _))⟩
theorem ni{k d:D}:∀ {ks vs:List D},ks.length=vs.length→(∀ x∈ks,aQ x k=false)→cw ks vs k d=(ks++[k],vs++[d])
 | [],[],_,_=>rfl
 | x::ks,v::vs,hl,h=>by
  rw[kc,h x (.head _),if_neg Bool.false_ne_true,ni (Nat.succ.inj hl) fun y hy=>h y (.tail _ hy)];rfl
theorem ja{m:Nat}{r:List D}(h:dR m r):(D.tup r).isTK=true:=List.all_eq_true.mpr h.2
theorem rq{m:Nat}{t:Tab}(h:bA m t):(t.map D.tup).all D.isTK=true:=List.all_eq_true.mpr fun d hd=>(List.mem_map.mp hd).elim fun r q=>q.2▸ja (h r q.1)
section
variable {P:List (String×Fn)} {X:CF}
theorem jN(acc:Tab)(r:List D):((acc.map D.tup).any fun x=>aQ x (.tup r))=acc.any fun x=>aO x r:=by rw[List.any_map];rfl
theorem once_eq(B:BA P)(n:Nat){m:Nat}{t:Tab}(h:bA m t)(hl:t.length<big):(am P X (n+1)).call "once" [aL t]=some (aL (bG t),true):=by
 refine aB B.once rfl ?_
 show Run _ nb.body [("rows",(false,aL t))] _ _
 refine aC (au (d:=.dict [] []) (fr:=true) rfl) (aC (au (d:=.list []) (fr:=true) rfl) ?_)
 obtain⟨σ',I',e⟩:=jE (cf:=am P X n) (body:=[.ite (.cmp .NotIn (.var "row") (.var "known")) [.setk "known" (.var "row") (.bool true),.append "found" (.var "row")] []]) (z:="row") (g:=D.tup) (fun b σ=>bA m (bG b)∧(bG b).length≤b.length∧cG σ "known" (.dict ((bG b).map .tup) ((bG b).map fun _=>.bool true))∧cG σ "found" (aL (bG b))) t []
  (freeze ["rows"] (aD (aD [("rows",(false,aL t))] "known" (true,.dict [] [])) "found" (true,.list []))) ⟨(fun _ h=>nomatch h),Nat.le_refl _,lL rfl (d9 rfl eO),lL rfl eO⟩ (by
  rintro b r σ hr hb ⟨i1,i2,i3,i4⟩
  have hm:kH (.tup r) (.dict ((bG b).map .tup) ((bG b).map fun _=>.bool true))=some ((bG b).any fun x=>aO x r):=by
   rw[← jN]
   exact if_pos (by unfold cB;rw[ja (h r hr),rq i1];exact Bool.or_true _)
  have hd:evE (am P X n) (vis (aD σ "row" (false,.tup r))) (.cmp .NotIn (.var "row") (.var "known"))=some (.bool (!(bG b).any fun x=>aO x r)):=aA (ae (aa az)) (ae (aa (al rfl (qy i3)))) (by show (kH _ _).map _=_;rw[hm];rfl)
  have hlen:(bG b).length<big:=Nat.lt_of_le_of_lt i2 (Nat.lt_trans (Nat.zero_add t.length▸hb) hl)
  refine ef hd rfl (fun hn=>?_) fun hn=>?_
  ·have hn:((bG b).any fun x=>aO x r)=false:=by cases e:(bG b).any fun x=>aO x r with | false=>rfl | true=>rw[e] at hn;cases hn
   have e1:bG (b++[r])=bG b++[r]:=by rw[kB];unfold gP;rw[hn,if_neg Bool.false_ne_true]
   have hnk:∀ x∈(bG b).map D.tup,aQ x (.tup r)=false:=fun x hx=>Bool.eq_false_iff.mpr fun q=>by
    have:=List.any_eq_true (p:=fun x=>aQ x (.tup r)).mpr ⟨x,hx,q⟩
    rw[jN,hn] at this;cases this
   refine aN (pe (d:=.bool true) (dk:=.tup r) (ks:=(bG b).map .tup) (vs:=(bG b).map fun _=>.bool true) (lh _ _ _) (ae (aa az)) (fH rfl (fH rfl (d9 rfl i3))) ?_) ?_
   ·unfold cB;rw[ja (h r hr),rq i1,List.length_map,decide_eq_true hlen];cases (D.tup r).isCell&&((bG b).map D.tup).all D.isCell <;> rfl
   refine aN (ee (d:=.tup r) (ds:=(bG b).map .tup) (ae (aa (al rfl (aw (aw az))))) (fH rfl (d9 rfl (fH rfl (fH rfl (d9 rfl i4))))) (by rw[List.length_map];exact hlen)) (cq ⟨rfl,?_,?_,?_,?_⟩)
   ·rw[e1];exact fun x hx=>(List.mem_append.mp hx).elim (i1 x) fun q=>List.mem_singleton.mp q▸h r hr
   ·rw[e1,List.length_append,List.length_append];exact Nat.succ_le_succ i2
   ·rw[e1,List.map_append,List.map_append,ni (by rw[List.length_map,List.length_map]) hnk]
    exact d9 rfl (fH rfl eO)
   ·rw[e1,gv];exact eO
  ·have hn:((bG b).any fun x=>aO x r)=true:=by cases e:(bG b).any fun x=>aO x r with | true=>rfl | false=>rw[e] at hn;cases hn
   have e1:bG (b++[r])=bG b:=by rw[kB];unfold gP;rw[hn,if_pos rfl]
   rw[e1]
   exact cq ⟨rfl,i1,by rw[List.length_append];exact Nat.le_succ_of_le i2,d9 rfl i3,d9 rfl i4⟩)
 exact fu (ae (aa (al rfl (aw (al rfl (aw ag)))))) rfl e (dT I'.2.2.2)
end

set_option maxRecDepth 100000
theorem lu{α:Type}{f:D→Option (Option D)}{h g:α→D}{p:α→Bool}:∀ l:List α,(∀ a∈l,f (h a)=some (if p a=true then some (g a) else none))→bk f (l.map h)=some ((l.filter p).map g)
 | [],_=>rfl
 | a::l,H=>by
  rw[List.map_cons,bk,H a (.head _),lu l fun b hb=>H b (.tail _ hb)]
  cases hp:p a with
  | true=>rw[List.filter_cons_of_pos hp];rfl
  | false=>rw[List.filter_cons_of_neg (by rw[hp];nofun)];rfl
noncomputable def col(p:Nat)(t:Tab):List D:=t.map (·.getD p .none)
noncomputable def eqW(w x:String):Bool:=Str.ofString w == Str.ofString x
noncomputable def rz(cs:List D):Int:=(kr (cs.filter fun c=>!cI c)).getD 0
noncomputable def gL(w:String)(f c:D):D:=
 if (eqW w "most"&&bR (if (eqW w "least"&&bR c f)=true then c else f) c)=true then c else if (eqW w "least"&&bR c f)=true then c else f
noncomputable def lW(w:String)(cs:List D):D:=if eqW w "count"=true then .int cs.length else if eqW w "sum"=true then .int (rz cs) else cs.foldl (gL w) (cs.headD .none)
theorem lY:∀ {cs:List D},(∀ c∈cs,c.isCell=true)→kr (cs.filter fun c=>!cI c)=some (rz cs)
 | [],_=>rfl
 | c::cs,h=>by
  have ih:=lY fun d hd=>h d (.tail _ hd)
  unfold rz
  refine gH (C:=fun c=>kr ((c::cs).filter fun c=>!cI c)=some ((kr ((c::cs).filter fun c=>!cI c)).getD 0)) (h c (.head _)) (fun i=>?_) fun x=>?_
  ·rw[List.filter_cons_of_pos rfl,kr,ih];rfl
  ·rw[List.filter_cons_of_neg (by nofun),ih];rfl
theorem n7{b:Bool}{x y:D}(hx:x.isCell=true)(hy:y.isCell=true):(if b=true then x else y).isCell=true:=by
 cases b with
 | true=>exact hx
 | false=>exact hy
theorem stepT_cell{w:String}{f c:D}(hf:f.isCell=true)(hc:c.isCell=true):(gL w f c).isCell=true:=n7 hc (n7 hc hf)
theorem jn{w:String}:∀ {cs:List D} {f:D},f.isCell=true→(∀ c∈cs,c.isCell=true)→(cs.foldl (gL w) f).isCell=true
 | [],_,hf,_=>hf
 | c::cs,_,hf,h=>jn (cs:=cs) (stepT_cell hf (h c (.head _))) fun d hd=>h d (.tail _ hd)
theorem told_cell{w:String}{c:D}{cs:List D}(h:∀ d∈c::cs,d.isCell=true):(lW w (c::cs)).isCell=true:=by
 unfold lW;split
 ·rfl
 ·split
  ·rfl
  ·exact jn (h c (.head _)) h
theorem oG{m p:Nat}{t:Tab}(h:bA m t)(hp:p<m):∀ c∈col p t,c.isCell=true:=fun c hc=>(List.mem_map.mp hc).elim fun r q=>q.2▸lO (h r q.1) hp
theorem p7{c:D}(h:c.isCell=true):kT c "str"=some (cI c):=gH (C:=fun c=>kT c "str"=some (cI c)) h (fun _=>rfl) fun _=>rfl
section
variable {P:List (String×Fn)} {X:CF}
noncomputable abbrev rj:List MS:=[.ite (.bop .And [.cmp .Eq (.var "word") (.str "least"),.call "before" [.sub (.var "row") (.var "place"),.var "found"]]) [.assign "found" (.sub (.var "row") (.var "place"))] [],.ite (.bop .And [.cmp .Eq (.var "word") (.str "most"),.call "before" [.var "found",.sub (.var "row") (.var "place")]]) [.assign "found" (.sub (.var "row") (.var "place"))] []]
structure e9(w:String)(p:Nat)(f:D)(σ:St):Prop where
 w:Has σ "word" (sD w)
 p:Has σ "place" (aY p)
 f:σ.lookup "found"=some (false,f)
theorem e9.set{w:String}{p:Nat}{f f':D}{σ:St}(I:e9 w p f σ):e9 w p f' (aD σ "found" (false,f')):=⟨al rfl I.w,al rfl I.p,by rw[aG,if_pos rfl]⟩
theorem e9.row{w:String}{p:Nat}{f d:D}{σ:St}(I:e9 w p f σ):e9 w p f (aD σ "row" (false,d)):=⟨al rfl I.w,al rfl I.p,by rw[aG,if_neg (by decide)];exact I.f⟩
theorem told_turn(B:BA P)(n:Nat){w:String}{p m:Nat}{f:D}{r:List D}(hf:f.isCell=true)(hr:dR m r)(hp:p<m){σ:St}(I:e9 w p f σ)(h1:Has σ "row" (.tup r)):Out (am P X (n+1)) rj σ fun fl σ'=>fl=.next∧e9 w p (gL w f (r.getD p .none)) σ':=by
 have hc:=lO hr hp
 have ev:∀ {σ f},e9 w p f σ→Has σ "row" (.tup r)→evE (am P X (n+1)) (vis σ) (.sub (.var "row") (.var "place"))=some (r.getD p .none):=fun I h=>av (ae (aa h)) (ae (aa I.p)) (oO hr hp)
 have two:∀ {σ f},f.isCell=true→e9 w p f σ→Has σ "row" (.tup r)→(∀ G,e9 w p (if (eqW w "most"&&bR f (r.getD p .none))=true then r.getD p .none else f) G→True)→Out (am P X (n+1)) (rj.drop 1) σ fun fl σ'=>fl=.next∧e9 w p (if (eqW w "most"&&bR f (r.getD p .none))=true then r.getD p .none else f) σ':=fun {σ f} hf I h _=>
  ef (gK (k:=eqW w "most") (l:=bR f (r.getD p .none)) (aA (ae (aa I.w)) (aE _ _ _) rfl) fun _=>bS (ay (ad (ae (aa ⟨_,I.f⟩)) (ad (ev I h) (ai _ _))) (fm B n _ _ hf hc))) rfl
   (fun q=>aN (bg (ax (ev I h) rfl rfl) hc) (cq ⟨rfl,by rw[if_pos q];exact I.set⟩)) fun q=>cq ⟨rfl,by rw[q,if_neg Bool.false_ne_true];exact I⟩
 unfold gL
 refine ef (gK (k:=eqW w "least") (l:=bR (r.getD p .none) f) (aA (ae (aa I.w)) (aE _ _ _) rfl) fun _=>bS (ay (ad (ev I h1) (ad (ae (aa ⟨_,I.f⟩)) (ai _ _))) (fm B n _ _ hc hf))) rfl (fun q=>?_) fun q=>?_
 ·rw[if_pos q]
  exact aN (bg (ax (ev I h1) rfl rfl) hc) (two hc I.set (al rfl h1) fun _ _=>trivial)
 ·rw[q,if_neg Bool.false_ne_true]
  exact two hf I h1 fun _ _=>trivial
theorem told_eq(B:BA P)(n:Nat){m:Nat}{r0:List D}{rs:Tab}(h:bA m (r0::rs))(hl:(r0::rs).length≤big)(w:String){p:Nat}(hp:p<m):(am P X (n+2)).call "told_of" [dA (w,p),aL (r0::rs)]=some (lW w (col p (r0::rs)),false):=by
 refine aB B.told_of rfl ?_
 show Run _ ii.body [("one",(false,dA (w,p))),("rows",(false,aL (r0::rs)))] _ _
 have hcol:=oG h hp
 refine aC (bg (d:=sD w) (fr:=false) (ax (av (x:=dA (w,p)) (ae (aa ag)) (af _ _ _) rfl) rfl rfl) rfl) (aC (bg (d:=aY p) (fr:=false) (ax (av (x:=dA (w,p)) (ae (aa (al rfl ag))) (af _ _ _) rfl) rfl rfl) rfl) ?_)
 unfold lW
 have hlen:eZ "len" [aL (r0::rs)]=some (.int (col p (r0::rs)).length):=by
  show some (D.int (((r0::rs).map D.tup).length:Nat))=_
  unfold col;rw[List.length_map,List.length_map]
 have hw:∀ {σ:St} {x:String},Has σ "word" (sD w)→evE (am P X (n+1)) (vis σ) (.cmp .Eq (.var "word") (.str x))=some (.bool (eqW w x)):=fun i=>aA (ae (aa i)) (aE _ _ _) rfl
 have i1:Has (aD (aD [("one",(false,dA (w,p))),("rows",(false,aL (r0::rs)))] "word" (false,sD w)) "place" (false,aY p)) "word" (sD w):=al rfl az
 have i2:Has (aD (aD [("one",(false,dA (w,p))),("rows",(false,aL (r0::rs)))] "word" (false,sD w)) "place" (false,aY p)) "rows" (aL (r0::rs)):=al rfl (al rfl (aj rfl ag))
 have i3:Has (aD (aD [("one",(false,dA (w,p))),("rows",(false,aL (r0::rs)))] "word" (false,sD w)) "place" (false,aY p)) "place" (aY p):=az
 generalize aD (aD [("one",(false,dA (w,p))),("rows",(false,aL (r0::rs)))] "word" (false,sD w)) "place" (false,aY p)=σ at *
 refine bb (hw i1) rfl (fun q=>?_) fun q=>?_
 ·rw[if_pos q]
  exact aP (ax (cn (ad (ae (aa i2)) (ai _ _)) hlen) rfl rfl) rfl
 rw[q,if_neg Bool.false_ne_true]
 refine bb (hw i1) rfl (fun q=>?_) fun q=>?_
 ·rw[if_pos q]
  have hs:=lY hcol
  unfold col at hs
  rw[List.filter_map] at hs
  refine aP (ax (cn (ad (gY (z:="row") (its:=(r0::rs).map .tup) (ae (aa i2)) rfl (by rw[List.length_map];exact hl) (lu (g:=fun r:List D=>r.getD p .none) (p:=fun r=>!cI (r.getD p .none)) (r0::rs) fun r hr=>js (jy (lU (av (ae cT) (ae (bP rfl (aa i3))) (oO (h r hr) hp)) (p7 (lO (h r hr) hp))) rfl) rfl fun _=>av (ae cT) (ae (bP rfl (aa i3))) (oO (h r hr) hp))) (ai _ _)) (d:=.int (rz (col p (r0::rs)))) ?_) rfl rfl) rfl
  show (kr _).map D.int=_
  rw[show kr (((r0::rs).filter fun r=>!cI (r.getD p .none)).map fun r=>r.getD p .none)=some (rz (col p (r0::rs))) from hs];rfl
 rw[q,if_neg Bool.false_ne_true]
 have hr0:=h r0 (.head _)
 refine aC (bg (d:=r0.getD p .none) (fr:=false) (ax (av (av (x:=aL (r0::rs)) (y:=.int 0) (d:=.tup r0) (ae (aa i2)) (af _ _ _) (lZ (k:=0) (Nat.succ_pos _) rfl)) (ae (aa i3)) (oO hr0 hp)) rfl rfl) (lO hr0 hp)) ?_
 obtain⟨σ',I',e⟩:=jE (cf:=am P X (n+1)) (body:=rj) (z:="row") (g:=D.tup) (fun b σ=>(b.all fun r=>(r.getD p .none).isCell)=true∧e9 w p ((col p b).foldl (gL w) (r0.getD p .none)) σ) (r0::rs) [] (freeze ["rows"] (aD σ "found" (false,r0.getD p .none))) ⟨rfl,cP (al rfl i1),cP (al rfl i3),by rw[aW,aG,if_pos rfl];rfl⟩ (by
  rintro b r σ hr hb ⟨j0,j⟩
  have e1:(col p (b++[r])).foldl (gL w) (r0.getD p .none)=gL w ((col p b).foldl (gL w) (r0.getD p .none)) (r.getD p .none):=by unfold col;rw[List.map_append,List.foldl_append];rfl
  have hf:((col p b).foldl (gL w) (r0.getD p .none)).isCell=true:=jn (lO hr0 hp) fun c hc=>(List.mem_map.mp hc).elim fun r q=>q.2▸List.all_eq_true.mp j0 r q.1
  obtain⟨fl,σ2,⟨q1,q2⟩,e⟩:=told_turn (X:=X) B n hf (h r hr) hp (j.row (d:=.tup r)) az
  exact⟨fl,σ2,⟨q1,by rw[List.all_append,j0];show ((r.getD p .none).isCell&&true)=true;rw[lO (h r hr) hp];rfl,e1▸q2⟩,e⟩)
 exact fu (ae (aa (al rfl i2))) rfl e (dT I'.2.f)
end

set_option maxRecDepth 100000
noncomputable abbrev Grp:=List (List D×Tab)
noncomputable def fP(k r:List D):Grp→Grp
 | []=>[(k,[r])]
 | q::G=>if aO q.1 k=true then (q.1,q.2++[r])::G else q::fP k r G
noncomputable def grV(q:List D×Tab):D×List D:=(.tup q.1,q.2.map .tup)
noncomputable def eB(ps:List Nat)(t:Tab):Grp:=t.foldl (fun G r=>fP (eK ps r) r G) []
theorem r9(k r:List D):∀ G:Grp,qX (.tup k) (.tup r) (G.map grV)=(fP k r G).map grV
 | []=>rfl
 | q::G=>by
  show (if aO q.1 k=true then _ else _)=(if aO q.1 k=true then _ else _:Grp).map grV
  cases aO q.1 k with
  | true=>
   show _::_=_::_
   unfold grV
   rw[List.map_append];rfl
  | false=>exact congrArg (grV q::·) (r9 k r G)
structure q8(m k n:Nat)(G:Grp):Prop where
 ke:∀ q∈G,dR k q.1
 ro:∀ q∈G,q.2≠[]∧bA m q.2∧q.2.length≤n
 le:G.length≤n
 pw:(G.map (·.1)).Pairwise fun a b=>aO a b=false
theorem jm{k r:List D}{x:List D×Tab}:∀ {G:Grp},x∈fP k r G→x∈G∨x=(k,[r])∨∃ q∈G,x=(q.1,q.2++[r])
 | [],h=>.inr (.inl (List.mem_singleton.mp h))
 | q::G,h=>by
  unfold fP at h
  split at h
  ·exact (List.mem_cons.mp h).elim (fun e=>.inr (.inr ⟨q,.head _,e⟩)) fun h=>.inl (.tail _ h)
  ·exact (List.mem_cons.mp h).elim (fun e=>.inl (e▸.head _)) fun h=>(jm h).imp (.tail _) fun h=>h.imp id fun⟨p,hp,e⟩=>⟨p,.tail _ hp,e⟩
theorem ig(k r:List D):∀ G:Grp,(fP k r G).map (·.1)=G.map (·.1)∨(fP k r G).map (·.1)=G.map (·.1)++[k]∧∀ q∈G,aO q.1 k=false
 | []=>.inr ⟨rfl,fun _ h=>nomatch h⟩
 | q::G=>by
  unfold fP
  cases h:aO q.1 k with
  | true=>exact .inl rfl
  | false=>exact (ig k r G).imp (fun e=>congrArg (q.1::·) e) fun e=>⟨congrArg (q.1::·) e.1,fun x hx=>(List.mem_cons.mp hx).elim (fun z=>z▸h) (e.2 x)⟩
theorem q8.put{m k n:Nat}{G:Grp}{key r:List D}(g:q8 m k n G)(hk:dR k key)(hr:dR m r):q8 m k (n+1) (fP key r G) where
 ke:=fun q hq=>(jm hq).elim (g.ke q) fun h=>h.elim (fun e=>e▸hk) fun⟨p,hp,e⟩=>e▸g.ke p hp
 ro:=fun q hq=>(jm hq).elim (fun h=>⟨(g.ro q h).1,(g.ro q h).2.1,Nat.le_succ_of_le (g.ro q h).2.2⟩) fun h=>h.elim (fun e=>e▸⟨(fun h=>nomatch h),fun x hx=>List.mem_singleton.mp hx▸hr,Nat.succ_le_succ (Nat.zero_le _)⟩)
  fun⟨p,hp,e⟩=>e▸⟨List.append_ne_nil_of_right_ne_nil _ (fun h=>nomatch h),fun x hx=>(List.mem_append.mp hx).elim ((g.ro p hp).2.1 x) fun h=>List.mem_singleton.mp h▸hr,by rw[List.length_append];exact Nat.succ_le_succ (g.ro p hp).2.2⟩
 le:=(ig key r G).elim (fun e=>Nat.le_succ_of_le (by have q:=congrArg List.length e;rw[List.length_map,List.length_map] at q;exact q▸g.le)) fun e=>by
  have q:=congrArg List.length e.1
  rw[List.length_map,List.length_append,List.length_map] at q
  exact q▸Nat.succ_le_succ g.le
 pw:=(ig key r G).elim (fun e=>e▸g.pw) fun e=>by
  rw[e.1,List.pairwise_append]
  exact⟨g.pw,List.pairwise_singleton _ _,fun a ha b hb=>List.mem_singleton.mp hb▸(List.mem_map.mp ha).elim fun q z=>z.2▸e.2 q z.1⟩
noncomputable def kq(ss:List (String×Nat))(t:Tab):List D:=ss.map fun s=>lW s.1 (col s.2 t)
noncomputable def rI(ss:List (String×Nat))(q:List D×Tab):List D:=q.1++kq ss q.2
noncomputable def jl(ps:List Nat)(ss:List (String×Nat))(t:Tab):Tab:=(eB ps t).map (rI ss)
theorem lx{m:Nat}{row:List D}(hr:dR m row){ps:List Nat}(hp:∀ p∈ps,p<m):dR ps.length (eK ps row):=⟨List.length_map ..,fun d hd=>(List.mem_map.mp hd).elim fun p q=>q.2▸lO hr (hp p q.1)⟩
theorem mr{m:Nat}{ps:List Nat}(hp:∀ p∈ps,p<m){t:Tab}(h:bA m t):q8 m ps.length t.length (eB ps t):=by
 have key:∀ (l:Tab) (G:Grp) (n:Nat),bA m l→q8 m ps.length n G→q8 m ps.length (n+l.length) (l.foldl (fun G r=>fP (eK ps r) r G) G):=by
  intro l
  induction l with
  | nil=>exact fun G n _ g=>g
  | cons r l ih=>exact fun G n hl g=>(by rw[List.length_cons,Nat.add_comm l.length,← Nat.add_assoc];exact ih _ (n+1) (fun x hx=>hl x (.tail _ hx)) (g.put (lx (hl r (.head _)) hp) (hl r (.head _))))
 exact Nat.zero_add t.length▸key t [] 0 h ⟨(fun _ h=>nomatch h),(fun _ h=>nomatch h),Nat.le_refl _,.nil⟩
section
variable {P:List (String×Fn)} {X:CF} {cf:CF}
theorem qA{m:Nat}{ps:List Nat}{pl:D}(hp:∀ p∈ps,p<m)(hc:∀ r,dR m r→cf.call "cells_at" [.tup r,pl]=some (.tup (eK ps r),false)):∀ (t:Tab) (G:Grp),bA m t→jP cf pl (t.map .tup) (G.map grV)=some ((t.foldl (fun G r=>fP (eK ps r) r G) G).map grV)
 | [],_,_=>rfl
 | r::t,G,h=>by
  have hr:=h r (.head _)
  rw[List.map_cons,jP,hc r hr]
  show (if ((D.tup (eK ps r)).isTK&&!false)=true then _ else _)=_
  rw[ja (lx hr hp),if_pos (show (true&&!false)=true from rfl),r9]
  exact qA hp hc t _ fun x hx=>h x (.tail _ hx)
theorem iT{r:List D}(h:∀ d∈r,d.isCell=true):aO r r=true:=by
 induction r with
 | nil=>rfl
 | cons d r ih=>
  show (ce d d&&aO r r)=true
  rw[ih fun x hx=>h x (.tail _ hx)]
  exact gH (C:=fun d=>(ce d d&&true)=true) (h d (.head _)) (fun i=>by show ((i == i)&&true)=true;rw[beq_self_eq_true];rfl) fun x=>by show ((x == x)&&true)=true;rw[beq_self_eq_true];rfl
theorem qH{k:Nat}:∀ {G:Grp} {q:List D×Tab},(∀ q∈G,dR k q.1)→(G.map (·.1)).Pairwise (fun a b=>aO a b=false)→q∈G→jS (G.map fun q=>.tup q.1) (G.map fun q=>aL q.2) (.tup q.1)=some (aL q.2)
 | p::G,q,hk,hw,hq=>by
  have hw:=List.pairwise_cons.mp hw
  rw[List.map_cons,List.map_cons,kf]
  show (if aO p.1 q.1=true then _ else _)=_
  rcases List.mem_cons.mp hq with e | hq
  ·subst e
   rw[iT (hk q (.head _)).2,if_pos rfl]
  ·rw[hw.1 q.1 (List.mem_map.mpr ⟨q,hq,rfl⟩),if_neg Bool.false_ne_true]
   exact qH (fun x hx=>hk x (.tail _ hx)) hw.2 hq
noncomputable abbrev grBody:List MS:=[.assign "told" (.comp (.call "told_of" [.var "one",.sub (.var "groups") (.var "own")]) "one" (.var "sums") []),.append "found" (.bin .Add (.var "own") (.blt "tuple" [.var "told"]))]
theorem grouped_eq(B:BA P)(n:Nat){m:Nat}{t:Tab}(h:bA m t)(hl:t.length≤60){ps:List Nat}(hp:∀ p∈ps,p<m)(hpl:ps.length≤1000){ss:List (String×Nat)}(hs:∀ s∈ss,s.2<m)(hsl:ss.length≤1000) :
  (am P X (n+3)).call "grouped" [aL t,.tup (ps.map aY),.tup (ss.map dA)]=some (aL (jl ps ss t),true):=by
 have g:=mr hp h
 have lb:∀ {k:Nat},k≤1000→k≤big:=fun h=>Nat.le_trans h (by decide)
 have hG:jP (am P X (n+2)) (.tup (ps.map aY)) (t.map .tup) []=some ((eB ps t).map grV):=qA hp (fun r hr=>oI B (n+1) hr hp (lb hpl)) t [] h
 have e1:((eB ps t).map grV).map (·.1)=(eB ps t).map fun q=>D.tup q.1:=by rw[List.map_map];rfl
 have e2:((eB ps t).map grV).map (fun q=>D.list q.2)=(eB ps t).map fun q=>aL q.2:=by rw[List.map_map];rfl
 unfold jl
 generalize eB ps t=G at *
 refine aB B.grouped rfl ?_
 show Run _ il.body [("rows",(false,aL t)),("places",(false,.tup (ps.map aY))),("sums",(false,.tup (ss.map dA)))] _ _
 refine aC (au (d:=.dict [] []) (fr:=true) rfl) (aC (p_grp (σ':=[("rows",(false,aL t)),("places",(false,.tup (ps.map aY))),("sums",(false,.tup (ss.map dA))),("groups",(false,.dict (G.map fun q=>.tup q.1) (G.map fun q=>aL q.2)))]) ?_) (aC (au (d:=.list []) (fr:=true) rfl) ?_))
 ·show (jP (am P X (n+2)) (.tup (ps.map aY)) (t.map .tup) []).map _=_
  rw[hG,Option.map_some]
  unfold r8
  rw[e1,e2];rfl
 obtain⟨σ',I',e⟩:=jE (cf:=am P X (n+2)) (body:=grBody) (z:="own") (g:=fun q:List D×Tab=>D.tup q.1) (fun b σ=>Has σ "groups" (.dict (G.map fun q=>.tup q.1) (G.map fun q=>aL q.2))∧Has σ "sums" (.tup (ss.map dA))∧cG σ "found" (aL (b.map (rI ss)))) G []
  (freeze ["groups"] (aD [("rows",(false,aL t)),("places",(false,.tup (ps.map aY))),("sums",(false,.tup (ss.map dA))),("groups",(false,.dict (G.map fun q=>.tup q.1) (G.map fun q=>aL q.2)))] "found" (true,.list []))) ⟨cP (al rfl (aj rfl (aj rfl (aj rfl ag)))),cP (al rfl (aj rfl (aj rfl ag))),lL rfl eO⟩ (by
  rintro b q σ hq hb ⟨i1,i2,i3⟩
  have hd:aT (.dict (G.map fun q=>.tup q.1) (G.map fun q=>aL q.2)) (.tup q.1)=some (aL q.2):=(if_pos (by
   unfold cB
   rw[ja (g.ke q hq),show (G.map fun q=>D.tup q.1).all D.isTK=true from List.all_eq_true.mpr fun d hd=>(List.mem_map.mp hd).elim fun p z=>z.2▸ja (g.ke p z.1)]
   exact Bool.or_true _)).trans (qH g.ke g.pw hq)
  have hro:=g.ro q hq
  have ht:∀ s∈ss,(am P X (n+2)).call "told_of" [dA s,aL q.2]=some (lW s.1 (col s.2 q.2),false):=fun s hss=>by
   obtain⟨qk,qt⟩:=q
   cases qt with
   | nil=>exact absurd rfl hro.1
   | cons r0 rs=>exact told_eq B n hro.2.1 (Nat.le_trans hro.2.2 (Nat.le_trans hl (by decide))) s.1 (hs s hss)
  refine aN (au (d:=.list (kq ss q.2)) (fr:=true) (ax (oX (g:=dA) (l:=ss) (ae (aa (al rfl i2))) rfl (lb hsl) fun s hss=>ay (ad (ae cT) (ad (av (ae (bP rfl (aa (al rfl i1)))) (ae (bP rfl (aa az))) hd) (ai _ _))) (ht s hss)) rfl rfl)) ?_
  refine aN (ee (d:=.tup (rI ss q)) (ds:=(b.map (rI ss)).map .tup) (ao (x:=.tup q.1) (y:=.tup (kq ss q.2)) (ae (aa (al rfl (aw az)))) (cn (ad (ae (aa az)) (ai _ _)) rfl) (if_pos (by unfold kq;rw[(g.ke q hq).1,List.length_map];exact Nat.le_trans (Nat.add_le_add hpl hsl) (by decide)))) (fH rfl (d9 rfl (fH rfl (d9 rfl i3)))) ?_) (cq ⟨rfl,al rfl (aw (al rfl (aw (al rfl i1)))),al rfl (aw (al rfl (aw (al rfl i2)))),?_⟩)
  ·rw[List.length_map,List.length_map]
   exact Nat.lt_of_lt_of_le (Nat.lt_of_lt_of_le (Nat.zero_add (List.length G)▸hb) g.le) (Nat.le_trans hl (by decide))
  ·rw[List.map_append]
   show cG _ _ (aL (_++[_]))
   rw[gv];exact eO)
 exact fu (ae (aa (al rfl (aj rfl (aj rfl (aj rfl ag)))))) rfl (show bU _ ((G.map fun q=>D.tup q.1)) _=_ from e) (dT I'.2.2)
end

open PySem PySem.W
set_option maxRecDepth 100000
noncomputable def gI(k:Nat×Bool)(l:Tab):Tab:=eQ [] k.2 (col k.1 l) l
noncomputable def rM(ks:List (Nat×Bool))(t:Tab):Tab:=ks.reverse.foldl (fun l k=>gI k l) t
theorem pY{α β:Type}(f:α→β)(b:Bool)(l:List α):katRev b (l.map f)=(katRev b l).map f:=by
 cases b with
 | false=>rfl
 | true=>exact List.map_reverse.symm
theorem pX{α:Type}{b:Bool}{l:List α}{x:α}:x∈katRev b l↔x∈l:=by
 cases b with
 | false=>exact Iff.rfl
 | true=>exact List.mem_reverse
theorem rV{ks:List D}{i:Nat}(h:i∈kix ks):i<ks.length:=List.mem_range.mp ((kO ks).mem_iff.mp h)
theorem srtL_map{ks:List D}{l:Tab}(hl:ks.length=l.length)(b:Bool):eQ D.none b ks (l.map .tup)=(eQ [] b ks l).map .tup:=by
 unfold eQ
 rw[← pY D.tup b ((kix (katRev b ks)).map _),List.map_map,pY D.tup b l]
 refine congrArg (katRev b) (List.map_congr_left fun i hi=>?_)
 have hi':i<(katRev b l).length:=by have:=rV hi;rw[kat_len] at this ⊢;rw[← hl];exact this
 show ((katRev b l).map D.tup).getD i .none=.tup ((katRev b l).getD i [])
 rw[List.getD_eq_getElem?_getD,List.getD_eq_getElem?_getD,List.getElem?_map,List.getElem?_eq_getElem hi'];rfl
theorem mO(k:Nat×Bool)(l:Tab):(gI k l).length=l.length∧∀ r∈gI k l,r∈l:=by
 have hl:(col k.1 l).length=l.length:=List.length_map ..
 refine⟨ky.trans hl,fun r hr=>?_⟩
 unfold gI eQ at hr
 obtain⟨i,hi,e⟩:=List.mem_map.mp (pX.mp hr)
 have hi':i<(katRev k.2 l).length:=by have:=rV hi;rw[kat_len] at this ⊢;rw[← hl];exact this
 rw[List.getD_eq_getElem?_getD,List.getElem?_eq_getElem hi'] at e
 exact pX.mp (show r∈katRev k.2 l from e▸List.getElem_mem hi')
section
variable {P:List (String×Fn)} {X:CF} {cf:CF}
theorem rank_eq(B:BA P)(n:Nat){c:D}(hc:c.isCell=true):(am P X (n+1)).call "rank" [c]=some (.tup [.bool (cI c),c],false):=
 aB B.rank rfl (aP (ax (bx (ad (lU (ae (aa ag)) (p7 hc)) (ad (ae (aa ag)) (ai _ _))) (Nat.le_of_ble_eq_true rfl)) rfl rfl) rfl)
theorem mj(B:BA P)(n:Nat){m p:Nat}(hp:p<m):∀ {l:Tab},bA m l→fA (eE (am P X (n+1)) "rank" (.int p)) (l.map .tup)=some (col p l)
 | [],_=>rfl
 | r::l,h=>by
  have hr:=h r (.head _)
  have hc:=lO hr hp
  have e:eE (am P X (n+1)) "rank" (.int p) (.tup r)=some (.tup [.bool (cI (r.getD p .none)),r.getD p .none]):=by
   unfold eE;rw[oO hr hp];show ((am P X (n+1)).call "rank" [_]).map _=_;rw[rank_eq B n hc];rfl
  rw[List.map_cons,fA,e]
  show (match n5 _ with | some c=>_ | none=>_)=_
  rw[show n5 (.tup [.bool (cI (r.getD p .none)),r.getD p .none])=some (r.getD p .none) from if_pos (by rw[hc,beq_self_eq_true];rfl),mj B n hp fun x hx=>h x (.tail _ hx)]
  rfl
theorem v_srt{ρ:List (String×D)}{a:ME}{f x p:String}{rev:Bool}{ds ks:List D}{i:D}(ha:evE cf ρ a=some (.list ds))(hp:nu ρ p i)(hz:ds.length<64)(hk:fA (eE cf f i) ds=some ks):evE cf ρ (.srt a f x p rev)=some (.list (eQ .none rev ks ds)):=by
 rw[ev_srt,ha];dsimp only;rw[show ρ.lookup p=some i from hp]
 show (if ds.length<64 then (fA _ ds).map _ else _)=_
 rw[if_pos hz,hk];rfl
noncomputable abbrev ordB:List MS:=[.assign "place" (.sub (.var "one") (.int 0)),.ite (.sub (.var "one") (.int 1)) [.assign "found" (.srt (.var "found") "rank" "row" "place" true)] [.assign "found" (.srt (.var "found") "rank" "row" "place" false)]]
theorem ordered_eq(B:BA P)(n:Nat){m:Nat}{t:Tab}(h:bA m t)(hl:t.length<64){ks:List (Nat×Bool)}(hk:∀ k∈ks,k.1<m) :
  (am P X (n+2)).call "ordered" [aL t,.tup (ks.map jh)]=some (aL (rM ks t),true):=by
 refine aB B.ordered rfl ?_
 show Run _ ik.body [("rows",(false,aL t)),("keys",(false,.tup (ks.map jh)))] _ _
 refine aC (au (d:=aL t) (fr:=true) rfl) ?_
 obtain⟨σ',I',e⟩:=jE (cf:=am P X (n+1)) (body:=ordB) (z:="one") (g:=jh) (fun b σ=>bA m (b.foldl (fun l k=>gI k l) t)∧(b.foldl (fun l k=>gI k l) t).length=t.length∧cG σ "found" (aL (b.foldl (fun l k=>gI k l) t))) ks.reverse [] (freeze ["keys"] (aD (settle (aL t) ["rows"] [("rows",(false,aL t)),("keys",(false,.tup (ks.map jh)))]) "found" (true,aL t))) ⟨h,rfl,lL rfl eO⟩ (by
  rintro b k σ hb _ ⟨i1,i2,i3⟩
  rw[List.foldl_append]
  show Out _ _ _ fun fl σ'=>fl=.next∧bA m (gI k _)∧(gI k _).length=t.length∧cG σ' "found" (aL (gI k _))
  generalize b.foldl (fun l k=>gI k l) t=l at *
  have hp:=hk k (List.mem_reverse.mp hb)
  have ok:=mO k l
  have hs:∀ {σ:St} {rev:Bool},rev=k.2→Has σ "found" (aL l)→Has σ "place" (aY k.1)→evF (am P X (n+1)) (vis σ) (.srt (.var "found") "rank" "row" "place" rev)=some (aL (gI k l),true):=fun {σ rev} e j1 j2=>by
   subst e
   have q:=v_srt (cf:=am P X (n+1)) (x:="row") (f:="rank") (rev:=k.2) (ae (aa j1)) (aa j2) (by rw[List.length_map,i2];exact hl) (mj B n hp i1)
   rw[srtL_map (ks:=col k.1 l) (l:=l) (List.length_map ..)] at q
   exact ax q rfl rfl
  refine aN (bg (d:=aY k.1) (fr:=false) (ax (av (x:=jh k) (ae (aa az)) (af _ _ _) rfl) rfl rfl) rfl) (ef (k:=k.2) (av (x:=jh k) (y:=.int 1) (d:=.bool k.2) (ae (aa (al rfl az))) (af _ _ _) rfl) rfl (fun q=>?_) fun q=>?_)
  ·exact aN (au (hs q.symm (al rfl (al rfl (qy i3))) az)) (cq ⟨rfl,fun r hr=>i1 r (ok.2 r hr),ok.1.trans i2,eO⟩)
  ·exact aN (au (hs q.symm (al rfl (al rfl (qy i3))) az)) (cq ⟨rfl,fun r hr=>i1 r (ok.2 r hr),ok.1.trans i2,eO⟩))
 exact r_forr (ae (aa (al rfl (aw (aj rfl ag))))) (by rw[← List.map_reverse];exact e) (dT I'.2.2)
end

set_option maxRecDepth 100000
set_option maxHeartbeats 400000
noncomputable def fX:Fn:=⟨["_law_cell"],[
  .ite (.cmp .Eq (.bin .Mod (.bin .FloorDiv (.var "_law_cell") (.int 4)) (.int 9)) (.int 1)) [.ret (.bin .Mod (.bin .FloorDiv (.var "_law_cell") (.int 36)) (.int 13))] [],
  .ret (.bin .Mod (.var "_law_cell") (.int 4))]⟩
noncomputable def eU:Fn:=⟨["_law_cell","_law_wide"],[
  .ite (.cmp .Eq (.var "_law_wide") (.int 0)) [.ret (.tup [])] [],
  .ret (.blt "tuple" [.comp (.bin .Mod (.call "_law_mixed" [.var "_law_cell",.bin .Add (.int 60) (.var "_law_k")]) (.var "_law_wide")) "_law_k" (.blt "range" [.call "_law_many" [.var "_law_cell"]]) []])]⟩
noncomputable def fS:Fn:=⟨["_law_cell","_law_wide"],[
  .assign "_law_words" (.lst [.str "count",.str "sum",.str "least",.str "most"]),
  .assign "_law_places" (.call "_law_places_by" [.bin .FloorDiv (.var "_law_cell") (.int 5),.var "_law_wide"]),
  .ret (.blt "tuple" [.comp (.tup [.sub (.var "_law_words") (.bin .Mod (.call "_law_mixed" [.var "_law_cell",.bin .Add (.int 80) (.var "_law_k")]) (.int 4)),.sub (.var "_law_places") (.var "_law_k")]) "_law_k" (.blt "range" [.blt "len" [.var "_law_places"]]) []])]⟩
noncomputable def fZ:Fn:=⟨["_law_cell","_law_wide"],[
  .assign "_law_places" (.call "_law_places_by" [.var "_law_cell",.var "_law_wide"]),
  .ret (.blt "tuple" [.comp (.tup [.sub (.var "_law_places") (.var "_law_k"),.cmp .Eq (.bin .Mod (.call "_law_mixed" [.var "_law_cell",.bin .Add (.int 90) (.var "_law_k")]) (.int 2)) (.int 1)]) "_law_k" (.blt "range" [.blt "len" [.var "_law_places"]]) []])]⟩
noncomputable def cr:Fn:=⟨["_law_cell","_law_many_here"],[
  .assign "_law_count" (.sub (.lst [.int 0,.int 1,.int 1,.int 2]) (.bin .Mod (.var "_law_cell") (.int 4))),
  .ite (.cmp .Eq (.bin .Mod (.bin .FloorDiv (.var "_law_cell") (.int 4)) (.int 9)) (.int 1)) [.assign "_law_count" (.bin .Mod (.bin .FloorDiv (.var "_law_cell") (.int 36)) (.int 13))] [],
  .ret (.blt "tuple" [.comp (.call "_law_clause_by" [.call "_law_mixed" [.var "_law_cell",.bin .Add (.int 20) (.var "_law_k")],.var "_law_many_here"]) "_law_k" (.blt "range" [.var "_law_count"]) []])]⟩
noncomputable def fC:Fn:=⟨["_law_cell","_law_one","_law_other"],[
  .ite (.bop .Or [.cmp .Eq (.var "_law_one") (.int 0),.cmp .Eq (.var "_law_other") (.int 0)]) [.ret (.tup [])] [],
  .assign "_law_many_here" (.sub (.lst [.int 0,.int 0,.int 0,.int 0,.int 1,.bin .Mod (.bin .FloorDiv (.var "_law_cell") (.int 6)) (.int 13)]) (.bin .Mod (.var "_law_cell") (.int 6))),
  .ret (.blt "tuple" [.comp (.tup [.bin .Mod (.call "_law_mixed" [.var "_law_cell",.bin .Add (.int 70) (.var "_law_k")]) (.var "_law_one"),.bin .Mod (.call "_law_mixed" [.var "_law_cell",.bin .Add (.int 75) (.var "_law_k")]) (.var "_law_other")]) "_law_k" (.blt "range" [.var "_law_many_here"]) []])]⟩
noncomputable def dL:Fn:=⟨["_law_word","_law_cell","_law_top"],[
  .ite (.cmp .Lt (.var "_law_word") (.int 3)) [.ret (.tup [.tup [.str "sieve",.call "_law_clauses_by" [.var "_law_cell",.sub (.var "_law_top") (.int 1)],.sub (.var "_law_top") (.int 0)],.sub (.var "_law_top") (.int 1),.sub (.var "_law_top") (.int 2),.sub (.var "_law_top") (.int 3)])] [],
  .ite (.cmp .Eq (.var "_law_word") (.int 4)) [.assign "_law_places" (.call "_law_places_by" [.var "_law_cell",.sub (.var "_law_top") (.int 1)]),.ret (.tup [.tup [.str "pick",.var "_law_places",.sub (.var "_law_top") (.int 0)],.blt "len" [.var "_law_places"],.sub (.var "_law_top") (.int 2),.sub (.var "_law_top") (.int 3)])] [],
  .ite (.bop .Or [.cmp .Eq (.var "_law_word") (.int 3),.cmp .Eq (.var "_law_word") (.int 5)]) [.assign "_law_places" (.call "_law_places_by" [.var "_law_cell",.sub (.var "_law_top") (.int 1)]),.assign "_law_sums" (.call "_law_sums_by" [.var "_law_cell",.sub (.var "_law_top") (.int 1)]),.ret (.tup [.tup [.str "group",.var "_law_places",.var "_law_sums",.sub (.var "_law_top") (.int 0)],.bin .Add (.blt "len" [.var "_law_places"]) (.blt "len" [.var "_law_sums"]),.sub (.var "_law_top") (.int 2),.sub (.var "_law_top") (.int 3)])] [],
  .ite (.cmp .Eq (.var "_law_word") (.int 6)) [.ret (.tup [.tup [.str "order",.call "_law_keys_by" [.var "_law_cell",.sub (.var "_law_top") (.int 1)],.sub (.var "_law_top") (.int 0)],.sub (.var "_law_top") (.int 1),.sub (.var "_law_top") (.int 2),.sub (.var "_law_top") (.int 3)])] [],
  .ite (.cmp .Eq (.var "_law_word") (.int 7)) [.ret (.tup [.tup [.str "once",.sub (.var "_law_top") (.int 0)],.sub (.var "_law_top") (.int 1),.sub (.var "_law_top") (.int 2),.sub (.var "_law_top") (.int 3)])] [],
  .assign "_law_count" (.bin .Add (.int 1) (.bin .Mod (.var "_law_cell") (.int 6))),
  .ite (.cmp .Eq (.bin .Mod (.bin .FloorDiv (.var "_law_cell") (.int 6)) (.int 4)) (.int 1)) [.assign "_law_count" (.bin .Mod (.bin .FloorDiv (.var "_law_cell") (.int 24)) (.int 70))] [],
  .ite (.cmp .Eq (.bin .Mod (.bin .FloorDiv (.var "_law_cell") (.int 6)) (.int 9)) (.int 2)) [.assign "_law_count" (.bin .Mod (.bin .FloorDiv (.var "_law_cell") (.int 54)) (.bin .Pow (.int 10) (.int 40)))] [],
  .ret (.tup [.tup [.str "first",.var "_law_count",.sub (.var "_law_top") (.int 0)],.sub (.var "_law_top") (.int 1),.blt "min" [.sub (.var "_law_top") (.int 2),.var "_law_count"],.sub (.var "_law_top") (.int 3)])]⟩
noncomputable def dK:Fn:=⟨["_law_word","_law_cell","_law_one","_law_two"],[
  .ite (.cmp .Gt (.bin .Add (.sub (.var "_law_one") (.int 3)) (.sub (.var "_law_two") (.int 3))) (.int 24)) [.ret (.lst [])] [],
  .ite (.cmp .Eq (.var "_law_word") (.str "join")) [.ite (.cmp .Gt (.bin .Mult (.sub (.var "_law_one") (.int 2)) (.sub (.var "_law_two") (.int 2))) (.int 60)) [.assign "_law_one" (.call "_law_around" [.int 8,.int 5,.var "_law_one"]),.assign "_law_two" (.call "_law_around" [.int 8,.int 5,.var "_law_two"])] [],.assign "_law_query" (.tup [.str "join",.sub (.var "_law_one") (.int 0),.sub (.var "_law_two") (.int 0),.call "_law_pairs_by" [.var "_law_cell",.sub (.var "_law_one") (.int 1),.sub (.var "_law_two") (.int 1)]]),.ret (.lst [.tup [.var "_law_query",.bin .Add (.sub (.var "_law_one") (.int 1)) (.sub (.var "_law_two") (.int 1)),.bin .Mult (.sub (.var "_law_one") (.int 2)) (.sub (.var "_law_two") (.int 2)),.bin .Add (.sub (.var "_law_one") (.int 3)) (.sub (.var "_law_two") (.int 3))]])] [],
  .ite (.bop .And [.cmp .Eq (.var "_law_word") (.str "both"),.cmp .Eq (.sub (.var "_law_one") (.int 1)) (.sub (.var "_law_two") (.int 1)),.cmp .LtE (.bin .Add (.sub (.var "_law_one") (.int 2)) (.sub (.var "_law_two") (.int 2))) (.int 60)]) [.ret (.lst [.tup [.tup [.str "both",.sub (.var "_law_one") (.int 0),.sub (.var "_law_two") (.int 0)],.sub (.var "_law_one") (.int 1),.bin .Add (.sub (.var "_law_one") (.int 2)) (.sub (.var "_law_two") (.int 2)),.bin .Add (.sub (.var "_law_one") (.int 3)) (.sub (.var "_law_two") (.int 3))]])] [],
  .ret (.lst [])]⟩
noncomputable def dY:Fn:=⟨["_law_top","_law_cell"],[
  .ite (.bop .And [.cmp .Eq (.bin .Mod (.bin .FloorDiv (.var "_law_cell") (.int 4)) (.int 3)) (.int 1),.cmp .Gt (.sub (.var "_law_top") (.int 1)) (.int 0)]) [.assign "_law_word" (.sub (.lst [.str "from",.str "upto",.str "unlike"]) (.bin .Mod (.bin .FloorDiv (.var "_law_cell") (.int 12)) (.int 3))),.assign "_law_test" (.tup [.var "_law_word",.bin .Mod (.call "_law_mixed" [.var "_law_cell",.int 8]) (.sub (.var "_law_top") (.int 1)),.str "is",.bin .Mod (.bin .FloorDiv (.var "_law_cell") (.int 36)) (.int 3)]),.ret (.tup [.tup [.str "sieve",.tup [.tup [.var "_law_test"]],.sub (.var "_law_top") (.int 0)],.sub (.var "_law_top") (.int 1),.sub (.var "_law_top") (.int 2),.sub (.var "_law_top") (.int 3)])] [],
  .ret (.call "_law_around" [.int 0,.bin .Add (.bin .Mult (.bin .FloorDiv (.call "_law_mixed" [.var "_law_cell",.int 6]) (.int 4)) (.int 4)) (.int 1),.var "_law_top"])]⟩
structure BN(P:List (String×Fn)):Prop extends BD P where
 mn:P.lookup "_law_many"=some fX
 pb:P.lookup "_law_places_by"=some eU
 sb:P.lookup "_law_sums_by"=some fS
 kb:P.lookup "_law_keys_by"=some fZ
 cb:P.lookup "_law_clauses_by"=some cr
 rb:P.lookup "_law_pairs_by"=some fC
 ar:P.lookup "_law_around"=some dL
 o2:P.lookup "_law_of_two"=some dK
 so:P.lookup "_law_sieve_on"=some dY
theorem jg{α:Type}{g:α→D}{R:α→Prop}:∀ {ds:List D},(∀ d∈ds,∃ x,R x∧d=g x)→∃ xs:List α,ds=xs.map g∧∀ x∈xs,R x
 | [],_=>⟨[],rfl,fun _ h=>nomatch h⟩
 | d::ds,h=>by
  obtain⟨x,h1,rfl⟩:=h d (.head _)
  obtain⟨xs,rfl,h2⟩:=jg fun d hd=>h d (.tail _ hd)
  exact⟨x::xs,rfl,fun y hy=>(List.mem_cons.mp hy).elim (fun e=>e▸h1) (h2 y)⟩
section
variable {P:List (String×Fn)} {X:CF}
theorem many_eq(B:BN P)(n:Nat)(c:Int):∃ m:Nat,m≤12∧(am P X (n+1)).call "_law_many" [.int c]=some (.int m,false):=by
 obtain⟨m1,e1,h1⟩:=bv (c / 36) (k:=13) (by decide)
 obtain⟨m2,e2,h2⟩:=bv c (k:=4) (by decide)
 have e1:c / 36 % 13=(m1:Int):=e1
 have e2:c % 4=(m2:Int):=e2
 have key:Rex (am P X n) fX.body [("_law_cell",(false,.int c))] fun d fr=>(∃ m:Nat,m≤12∧d=.int m)∧fr=false:=by
  refine cD (k:=c / 4 % 9 == 1) (aA (ao (ao (ae (aa ag)) (af _ _ _) (aS (by decide))) (af _ _ _) (aI (by decide))) (af _ _ _) rfl) rfl (fun _=>?_) fun _=>?_
  ·exact bL (ax (ao (ao (ae (aa ag)) (af _ _ _) (aS (by decide))) (af _ _ _) (aI (by decide))) rfl rfl) rfl ⟨⟨m1,by omega,by rw[← e1]⟩,rfl⟩
  ·exact bL (ax (ao (ae (aa ag)) (af _ _ _) (aI (by decide))) rfl rfl) rfl ⟨⟨m2,by omega,by rw[← e2]⟩,rfl⟩
 obtain⟨d,fr,⟨⟨m,hm,rfl⟩,rfl⟩,hr⟩:=cA (X:=X) (args:=[.int c]) B.mn rfl key
 exact⟨m,hm,hr⟩
theorem jd(B:BN P)(n:Nat)(c:Int)(w:Nat):∃ ps:List Nat,(∀ p∈ps,p<w)∧ps.length≤12∧(am P X (n+2)).call "_law_places_by" [.int c,.int w]=some (.tup (ps.map aY),false):=by
 by_cases hw:w=0
 ·subst hw
  exact⟨[],(fun _ h=>nomatch h),Nat.zero_le _,aB B.pb rfl (bb (k:=true) (x:=.bool true) rfl rfl (fun _=>aP rfl rfl) nofun)⟩
 ·obtain⟨m,hm,k1⟩:=many_eq (X:=X) B n c
  have h0:0<w:=by omega
  have hpos:(0:Int)<(w:Int):=by omega
  obtain⟨ds,q1,q2,q3⟩:=gW (cf:=am P X (n+1)) (ρ:=vis [("_law_cell",(false,.int c)),("_law_wide",(false,.int w))]) (elt:=.bin .Mod (.call "_law_mixed" [.var "_law_cell",.bin .Add (.int 60) (.var "_law_k")]) (.var "_law_wide")) (z:="_law_k") (src:=.call "_law_many" [.var "_law_cell"]) (k:=m) (by omega) (fun d=>∃ p:Nat,p<w∧d=aY p) (ay (ad (ae (aa ag)) (ai _ _)) k1) (by
   intro i _
   obtain⟨r,_,hr⟩:=mixed (X:=X) B.toBG n c (60+i)
   obtain⟨p,ep,hp⟩:=bv r h0
   exact⟨aY p,⟨p,hp,rfl⟩,by show _=some (D.int p);rw[← ep];exact ao (ay (ad (ae (bP rfl (aa ag))) (ad (ao (af _ _ _) (ae cT) bY) (ai _ _))) hr) (ae (bP rfl (aa (aj rfl ag)))) (aI hpos)⟩)
  obtain⟨ps,rfl,hps⟩:=jg q2
  have e:dZ .Eq (.int w) (.int 0)=some (.bool false):=by
   show some (D.bool ((w:Int) == 0))=_
   rw[show ((w:Int) == 0)=false from by rw[beq_eq_false_iff_ne];omega]
  refine⟨ps,hps,by rw[List.length_map] at q1;omega,aB B.pb rfl ?_⟩
  exact bb (k:=false) (aA (x:=.int w) (y:=.int 0) rfl rfl e) rfl nofun fun _=>aP (ax q3 rfl rfl) rfl
theorem sums_by(B:BN P)(n:Nat)(c:Int)(w:Nat):∃ ss:List (String×Nat),(∀ x∈ss,x.2<w∧x.1∈pD)∧ss.length≤12∧(am P X (n+3)).call "_law_sums_by" [.int c,.int w]=some (.tup (ss.map dA),false):=by
 obtain⟨ps,hps,hpl,k1⟩:=jd (X:=X) B n (c / 5) w
 have hbig:2000<big:=by decide
 have hlen:eZ "len" [.tup (ps.map aY)]=some (.int ps.length):=by show some (D.int ((ps.map aY).length:Nat))=_;rw[List.length_map]
 obtain⟨ds,q1,q2,q3⟩:=gW (cf:=am P X (n+2)) (ρ:=vis [("_law_cell",(false,.int c)),("_law_wide",(false,.int w)),("_law_words",(true,.list [sD "count",sD "sum",sD "least",sD "most"])),("_law_places",(false,.tup (ps.map aY)))])
  (elt:=.tup [.sub (.var "_law_words") (.bin .Mod (.call "_law_mixed" [.var "_law_cell",.bin .Add (.int 80) (.var "_law_k")]) (.int 4)),.sub (.var "_law_places") (.var "_law_k")]) (z:="_law_k") (src:=.blt "len" [.var "_law_places"]) (k:=ps.length) (by omega) (fun d=>∃ x:String×Nat,(x.2<w∧x.1∈pD)∧d=dA x) (cn (ad (ae (aa (aj rfl (aj rfl (aj rfl ag))))) (ai _ _)) hlen) (by
   intro i hi
   obtain⟨r,_,hr⟩:=mixed (X:=X) B.toBG (n+1) c (80+i)
   obtain⟨d,⟨s,rfl,hs⟩,hd⟩:=cm (l:=[sD "count",sD "sum",sD "least",sD "most"]) (by decide) r (R:=fun d=>∃ s,d=sD s∧s∈pD) (by
    intro d hd
    simp only[List.mem_cons,List.not_mem_nil,or_false] at hd
    rcases hd with rfl | rfl | rfl | rfl <;> exact⟨_,rfl,by decide⟩)
   have hd:aT (.list [sD "count",sD "sum",sD "least",sD "most"]) (.int (r % 4))=some (sD s):=hd
   have h2:=ps_at hi
   exact⟨dA (s,ps.getD i 0),⟨(s,ps.getD i 0),⟨by show ps.getD i 0<w;rw[List.getD_eq_getElem?_getD,List.getElem?_eq_getElem hi];exact hps _ (List.getElem_mem hi),hs⟩,rfl⟩,bx (ad (av (ae (bP rfl (aa (aj rfl (aj rfl ag))))) (ao (ay (ad (ae (bP rfl (aa ag))) (ad (ao (af _ _ _) (ae cT) bY) (ai _ _))) hr) (af _ _ _) (aI (of_decide_eq_true (id (Eq.refl true))))) hd) (ad (av (ae (bP rfl (aa (aj rfl (aj rfl (aj rfl ag)))))) (ae cT) h2) (ai _ _))) (Nat.le_of_ble_eq_true rfl)⟩)
 obtain⟨ss,rfl,hss⟩:=jg q2
 refine⟨ss,hss,by rw[List.length_map] at q1;omega,aB B.sb rfl ?_⟩
 refine aC (au (d:=.list [sD "count",sD "sum",sD "least",sD "most"]) (fr:=true) rfl) ?_
 refine aC (au (aK (ad (d:=.int (c / 5)) rfl (ad (d:=.int w) rfl (ai _ _))) k1)) ?_
 exact aP (ax q3 rfl rfl) rfl
theorem keys_by(B:BN P)(n:Nat)(c:Int)(w:Nat):∃ ks:List (Nat×Bool),(∀ x∈ks,x.1<w)∧ks.length≤12∧(am P X (n+3)).call "_law_keys_by" [.int c,.int w]=some (.tup (ks.map jh),false):=by
 obtain⟨ps,hps,hpl,k1⟩:=jd (X:=X) B n c w
 have hlen:eZ "len" [.tup (ps.map aY)]=some (.int ps.length):=by show some (D.int ((ps.map aY).length:Nat))=_;rw[List.length_map]
 obtain⟨ds,q1,q2,q3⟩:=gW (cf:=am P X (n+2)) (ρ:=vis [("_law_cell",(false,.int c)),("_law_wide",(false,.int w)),("_law_places",(false,.tup (ps.map aY)))])
  (elt:=.tup [.sub (.var "_law_places") (.var "_law_k"),.cmp .Eq (.bin .Mod (.call "_law_mixed" [.var "_law_cell",.bin .Add (.int 90) (.var "_law_k")]) (.int 2)) (.int 1)]) (z:="_law_k") (src:=.blt "len" [.var "_law_places"]) (k:=ps.length) (by omega) (fun d=>∃ x:Nat×Bool,x.1<w∧d=jh x) (cn (ad (ae (aa (aj rfl (aj rfl ag)))) (ai _ _)) hlen) (by
   intro i hi
   obtain⟨r,_,hr⟩:=mixed (X:=X) B.toBG (n+1) c (90+i)
   have h2:=ps_at hi
   exact⟨jh (ps.getD i 0,r % 2 == 1),⟨(ps.getD i 0,r % 2 == 1),by show ps.getD i 0<w;rw[List.getD_eq_getElem?_getD,List.getElem?_eq_getElem hi];exact hps _ (List.getElem_mem hi),rfl⟩,bx (ad (av (ae (bP rfl (aa (aj rfl (aj rfl ag))))) (ae cT) h2) (ad (aA (ao (ay (ad (ae (bP rfl (aa ag))) (ad (ao (af _ _ _) (ae cT) bY) (ai _ _))) hr) (af _ _ _) (aI (of_decide_eq_true (id (Eq.refl true))))) (af _ _ _) rfl) (ai _ _))) (Nat.le_of_ble_eq_true rfl)⟩)
 obtain⟨ss,rfl,hss⟩:=jg q2
 refine⟨ss,hss,by rw[List.length_map] at q1;omega,aB B.kb rfl ?_⟩
 refine aC (au (aK (ad (d:=.int c) rfl (ad (d:=.int w) rfl (ai _ _))) k1)) ?_
 exact aP (ax q3 rfl rfl) rfl
theorem clauses_by(B:BN P)(n:Nat)(c:Int)(m:Nat)(hm:m≤1000):∃ cs:List (List D),(∀ x∈cs,iY m x)∧cs.length≤12∧(am P X (n+5)).call "_law_clauses_by" [.int c,.int m]=some (.tup (cs.map clD),false):=by
 have tail:∀ k:Nat,k≤12→Rex (am P X (n+4)) (cr.body.drop 2) [("_law_cell",(false,.int c)),("_law_many_here",(false,.int m)),("_law_count",(false,.int k))] fun d fr=>(∃ cs:List (List D),(∀ x∈cs,iY m x)∧cs.length≤12∧d=.tup (cs.map clD))∧fr=false:=by
  intro k hk
  obtain⟨ds,q1,q2,q3⟩:=gW (cf:=am P X (n+4)) (ρ:=vis [("_law_cell",(false,.int c)),("_law_many_here",(false,.int m)),("_law_count",(false,.int k))]) (elt:=.call "_law_clause_by" [.call "_law_mixed" [.var "_law_cell",.bin .Add (.int 20) (.var "_law_k")],.var "_law_many_here"]) (z:="_law_k") (src:=.var "_law_count") (k:=k) (by omega) (fun d=>∃ x:List D,iY m x∧d=clD x) rfl (by
   intro i _
   obtain⟨r,_,hr⟩:=mixed (X:=X) B.toBG (n+3) c (20+i)
   obtain⟨d,⟨ts,rfl,h1,h2⟩,hd⟩:=clause_by (X:=X) B.toBD n r m hm
   exact⟨.tup ts,⟨ts,⟨h1,h2⟩,rfl⟩,(ay (ad (ay (ad (ae (bP rfl (aa ag))) (ad (ao (af _ _ _) (ae cT) bY) (ai _ _))) hr) (ad (ae (bP rfl (aa (aj rfl ag)))) (ai _ _))) hd)⟩)
  obtain⟨cs,rfl,hcs⟩:=jg q2
  exact bL (ax q3 rfl rfl) rfl ⟨⟨cs,hcs,by rw[List.length_map] at q1;omega,rfl⟩,rfl⟩
 obtain⟨d0,⟨k1,rfl,h1⟩,s0⟩:=cm (l:=[.int 0,.int 1,.int 1,.int 2]) (by decide) c (R:=fun d=>∃ k:Nat,d=.int k∧k≤12) (by
  intro d hd
  simp only[List.mem_cons,List.not_mem_nil,or_false] at hd
  rcases hd with rfl | rfl | rfl | rfl <;> first | exact⟨0,rfl,by decide⟩ | exact⟨1,rfl,by decide⟩ | exact⟨2,rfl,by decide⟩)
 have s0:aT (.list [.int 0,.int 1,.int 1,.int 2]) (.int (c % 4))=some (.int k1):=s0
 obtain⟨k2,e2,h2⟩:=bv (c / 36) (k:=13) (by decide)
 have e2:c / 36 % 13=(k2:Int):=e2
 have key:Rex (am P X (n+4)) cr.body [("_law_cell",(false,.int c)),("_law_many_here",(false,.int m))] fun d fr=>(∃ cs:List (List D),(∀ x∈cs,iY m x)∧cs.length≤12∧d=.tup (cs.map clD))∧fr=false:=by
  refine aU (au (d:=.int k1) (fr:=false) (ax (av (cR (ad (af _ _ _) (ad (af _ _ _) (ad (af _ _ _) (ad (af _ _ _) (ai _ _))))) (of_decide_eq_true (id (Eq.refl true)))) (ao (ae (aa ag)) (af _ _ _) (aI (of_decide_eq_true (id (Eq.refl true))))) s0) rfl rfl)) ?_
  refine cD (k:=c / 4 % 9 == 1) (aA (ao (ao (ae (aa (al rfl (aw ag)))) (af _ _ _) (aS (of_decide_eq_true (id (Eq.refl true))))) (af _ _ _) (aI (of_decide_eq_true (id (Eq.refl true))))) (af _ _ _) rfl) rfl (fun _=>?_) fun _=>tail k1 h1
  refine aU (au (d:=.int k2) (fr:=false) (by rw[← e2];exact ax (ao (ao (ae (aa (al rfl (aw ag)))) (af _ _ _) (aS (of_decide_eq_true (id (Eq.refl true))))) (af _ _ _) (aI (of_decide_eq_true (id (Eq.refl true))))) rfl rfl)) (tail k2 (by omega))
 obtain⟨d,fr,⟨⟨cs,g1,g2,rfl⟩,rfl⟩,hr⟩:=cA (X:=X) (args:=[.int c,.int m]) B.cb rfl key
 exact⟨cs,g1,g2,hr⟩
theorem pairs_by(B:BN P)(n:Nat)(c:Int)(a b:Nat):∃ prs:List (Nat×Nat),(∀ k∈prs,k.1<a∧k.2<b)∧prs.length≤12∧(am P X (n+2)).call "_law_pairs_by" [.int c,.int a,.int b]=some (.tup (prs.map prT),false):=by
 by_cases h0:a=0∨b=0
 ·refine⟨[],(fun _ h=>nomatch h),Nat.zero_le _,aB B.rb rfl ?_⟩
  have hz:evE (am P X (n+1)) (vis [("_law_cell",(false,.int c)),("_law_one",(false,.int a)),("_law_other",(false,.int b))]) (.bop .Or [.cmp .Eq (.var "_law_one") (.int 0),.cmp .Eq (.var "_law_other") (.int 0)])=some (.bool ((a:Int) == 0||(b:Int) == 0)):=gX (k:=(a:Int) == 0) (l:=(b:Int) == 0) (aA (x:=.int a) (y:=.int 0) rfl rfl rfl) fun _=>bS (aA (x:=.int b) (y:=.int 0) rfl rfl rfl)
  have ht:((a:Int) == 0||(b:Int) == 0)=true:=by rcases h0 with rfl | rfl <;> simp
  exact bb (k:=true) (hz.trans (by rw[ht])) rfl (fun _=>aP rfl rfl) nofun
 ·have ha:0<a:=by omega
  have hb:0<b:=by omega
  have hpa:(0:Int)<a:=by omega
  have hpb:(0:Int)<b:=by omega
  obtain⟨k2,e2,hk2⟩:=bv (c / 6) (k:=13) (by decide)
  have e2:c / 6 % 13=(k2:Int):=e2
  obtain⟨d0,⟨k1,rfl,h1⟩,s0⟩:=cm (l:=[.int 0,.int 0,.int 0,.int 0,.int 1,.int (c / 6 % 13)]) (by simp) c (R:=fun d=>∃ k:Nat,d=.int k∧k≤12) (by
   intro d hd
   simp only[List.mem_cons,List.not_mem_nil,or_false] at hd
   rcases hd with rfl | rfl | rfl | rfl | rfl | rfl <;> first | exact⟨0,rfl,by decide⟩ | exact⟨1,rfl,by decide⟩ | exact⟨k2,by rw[e2],by omega⟩)
  have s0:aT (.list [.int 0,.int 0,.int 0,.int 0,.int 1,.int (c / 6 % 13)]) (.int (c % 6))=some (.int k1):=s0
  obtain⟨ds,q1,q2,q3⟩:=gW (cf:=am P X (n+1)) (ρ:=vis [("_law_cell",(false,.int c)),("_law_one",(false,.int a)),("_law_other",(false,.int b)),("_law_many_here",(false,.int k1))])
   (elt:=.tup [.bin .Mod (.call "_law_mixed" [.var "_law_cell",.bin .Add (.int 70) (.var "_law_k")]) (.var "_law_one"),.bin .Mod (.call "_law_mixed" [.var "_law_cell",.bin .Add (.int 75) (.var "_law_k")]) (.var "_law_other")]) (z:="_law_k") (src:=.var "_law_many_here") (k:=k1) (by omega) (fun d=>∃ x:Nat×Nat,(x.1<a∧x.2<b)∧d=prT x) rfl (by
    intro i _
    obtain⟨r,_,hr⟩:=mixed (X:=X) B.toBG n c (70+i)
    obtain⟨r',_,hr'⟩:=mixed (X:=X) B.toBG n c (75+i)
    obtain⟨p,ep,hp⟩:=bv r ha
    obtain⟨q,eq,hq⟩:=bv r' hb
    refine⟨prT (p,q),⟨(p,q),⟨hp,hq⟩,rfl⟩,?_⟩
    show _=some (D.tup [.int p,.int q])
    rw[← ep,← eq]
    exact bx (ad (ao (ay (ad (ae (bP rfl (aa ag))) (ad (ao (af _ _ _) (ae cT) bY) (ai _ _))) hr) (ae (bP rfl (aa (aj rfl ag)))) (aI hpa)) (ad (ao (ay (ad (ae (bP rfl (aa ag))) (ad (ao (af _ _ _) (ae cT) bY) (ai _ _))) hr') (ae (bP rfl (aa (aj rfl (aj rfl ag))))) (aI hpb)) (ai _ _))) (Nat.le_of_ble_eq_true rfl))
  obtain⟨prs,rfl,hprs⟩:=jg q2
  refine⟨prs,hprs,by rw[List.length_map] at q1;omega,aB B.rb rfl ?_⟩
  have hz:evE (am P X (n+1)) (vis [("_law_cell",(false,.int c)),("_law_one",(false,.int a)),("_law_other",(false,.int b))]) (.bop .Or [.cmp .Eq (.var "_law_one") (.int 0),.cmp .Eq (.var "_law_other") (.int 0)])=some (.bool ((a:Int) == 0||(b:Int) == 0)):=gX (k:=(a:Int) == 0) (l:=(b:Int) == 0) (aA (x:=.int a) (y:=.int 0) rfl rfl rfl) fun _=>bS (aA (x:=.int b) (y:=.int 0) rfl rfl rfl)
  have ht:((a:Int) == 0||(b:Int) == 0)=false:=by rw[Bool.or_eq_false_iff,beq_eq_false_iff_ne,beq_eq_false_iff_ne];omega
  refine bb (k:=false) (hz.trans (by rw[ht])) rfl nofun fun _=>?_
  refine aC (au (d:=.int k1) (fr:=false) (ax (av (cR (ad (af _ _ _) (ad (af _ _ _) (ad (af _ _ _) (ad (af _ _ _) (ad (af _ _ _) (ad (ao (ao (ae rfl) (af _ _ _) (aS (of_decide_eq_true (id (Eq.refl true))))) (af _ _ _) (aI (of_decide_eq_true (id (Eq.refl true))))) (ai _ _))))))) (Nat.le_of_ble_eq_true rfl)) (ao (ae rfl) (af _ _ _) (aI (of_decide_eq_true (id (Eq.refl true))))) s0) rfl rfl)) ?_
  exact aP (ax q3 rfl rfl) rfl
end

set_option maxRecDepth 100000
set_option maxHeartbeats 800000
noncomputable def Q.rb(R:Wd):Q→Nat→Prop
 | .table nm,r=>∃ k,R.lookup nm=some k∧k≤r
 | .sieve _ q,r | .pick _ q,r | .group _ _ q,r | .order _ q,r | .once q,r=>q.rb R r
 | .first a q,r=>∃ r',q.rb R r'∧r'≤60∧min a r'≤r
 | .join a b _,r=>∃ r1 r2,a.rb R r1∧b.rb R r2∧r1≤60∧r2≤60∧r1 * r2≤r
 | .both a b,r=>∃ r1 r2,a.rb R r1∧b.rb R r2∧r1≤60∧r2≤60∧r1+r2≤r
structure TpA(W R:Wd)(c dp:Nat)(q:Q)(rr k:Nat):Prop where
 ok:q.ok W
 wd:q.wd W≤24 * k
 k1:1≤k
 k2:k≤24
 r:rr≤60
 cp:q.cp≤c
 pr:q.pr≤12
 nar:q.nar W 5000
 dp:q.dp≤dp
 rb:q.rb R rr
theorem TpA.up{W R:Wd}{c dp c' dp':Nat}{q:Q}{r k:Nat}(h:TpA W R c dp q r k)(h1:c≤c')(h2:dp≤dp'):TpA W R c' dp' q r k:=⟨h.ok,h.wd,h.k1,h.k2,h.r,Nat.le_trans h.cp h1,h.pr,h.nar,Nat.le_trans h.dp h2,h.rb⟩
noncomputable def aF(W:Wd)(q:Q)(r k:Nat):D:=.tup [q.d,.int (q.wd W),.int r,.int k]
section
variable {P:List (String×Fn)} {X:CF} {W R:Wd} {c dp:Nat} {q:Q} {r k:Nat}
theorem dI(B:BN P)(n:Nat)(w z:Int)(h:TpA W R c dp q r k):∃ q' r',TpA W R (c+12) (dp+1) q' r' k∧(am P X (n+6)).call "_law_around" [.int w,.int z,aF W q r k]=some (aF W q' r' k,false):=by
 have hw:q.wd W≤1000:=by have:=h.wd;have:=h.k2;omega
 obtain⟨cs,c1,c2,c3⟩:=clauses_by (X:=X) B n z (q.wd W) hw
 obtain⟨ps,p1,p2,p3⟩:=jd (X:=X) B (n+3) z (q.wd W)
 obtain⟨ss,s1,s2,s3⟩:=sums_by (X:=X) B (n+2) z (q.wd W)
 obtain⟨ks,k1,k2,k3⟩:=keys_by (X:=X) B (n+2) z (q.wd W)
 obtain⟨a0,e0⟩:∃ a:Nat,1+z % 6=a:=⟨(1+z % 6).toNat,by omega⟩
 obtain⟨a1,e1⟩:∃ a:Nat,z / 24 % 70=a:=⟨(z / 24 % 70).toNat,by omega⟩
 have hp:(0:Int)<10 ^ 40:=by decide
 obtain⟨a2,e2⟩:∃ a:Nat,z / 54 % 10 ^ 40=a:=⟨(z / 54 % 10 ^ 40).toNat,(Int.toNat_of_nonneg (Int.emod_nonneg _ (by decide))).symm⟩
 have hpow:du .Pow (.int 10) (.int 40)=some (.int (10 ^ 40)):=qQ ⟨by decide +kernel,by decide +kernel,by decide,by decide⟩
 have hmod:du .Mod (.int (z / 54)) (.int (10 ^ 40))=some (.int a2):=by rw[← e2];exact aI hp
 have hmin:∀ a:Nat,eZ "min" [.int r,.int a]=some (.int (min a r:Nat)):=fun a=>by
  show some (D.int (if (a:Int)<r then (a:Int) else r))=_
  congr 2
  split
  ·rw[Nat.min_eq_left (by omega)];try rfl
  ·rw[Nat.min_eq_right (by omega)]
 have l1:eZ "len" [.tup (ps.map aY)]=some (.int ps.length):=by show some (D.int ((ps.map aY).length:Nat))=_;rw[List.length_map]
 have l2:eZ "len" [.tup (ss.map dA)]=some (.int ss.length):=by show some (D.int ((ss.map dA).length:Nat))=_;rw[List.length_map]
 have hk:=h.k1
 have A1:TpA W R (c+12) (dp+1) (.sieve cs q) r k:=⟨⟨h.ok,c1,by omega⟩,h.wd,h.k1,h.k2,h.r,by show cs.length+q.cp≤_;have:=h.cp;omega,h.pr,h.nar,Nat.succ_le_succ h.dp,h.rb⟩
 have A2:TpA W R (c+12) (dp+1) (.pick ps q) r k:=⟨⟨h.ok,p1,by omega⟩,by show ps.length≤_;omega,h.k1,h.k2,h.r,Nat.le_trans h.cp (by omega),h.pr,h.nar,Nat.succ_le_succ h.dp,h.rb⟩
 have A3:TpA W R (c+12) (dp+1) (.group ps ss q) r k:=⟨⟨h.ok,p1,fun x hx=>(s1 x hx).1,by omega,by omega⟩,by show ps.length+ss.length≤_;omega,h.k1,h.k2,h.r,Nat.le_trans h.cp (by omega),h.pr,⟨h.nar,fun x hx=>(s1 x hx).2⟩,Nat.succ_le_succ h.dp,h.rb⟩
 have A4:TpA W R (c+12) (dp+1) (.order ks q) r k:=⟨⟨h.ok,k1,by omega⟩,h.wd,h.k1,h.k2,h.r,Nat.le_trans h.cp (by omega),h.pr,h.nar,Nat.succ_le_succ h.dp,h.rb⟩
 have A5:TpA W R (c+12) (dp+1) (.once q) r k:=⟨h.ok,h.wd,h.k1,h.k2,h.r,Nat.le_trans h.cp (by omega),h.pr,h.nar,Nat.succ_le_succ h.dp,h.rb⟩
 have A6:∀ a:Nat,TpA W R (c+12) (dp+1) (.first a q) (min a r) k:=fun a=>⟨h.ok,h.wd,h.k1,h.k2,Nat.le_trans (Nat.min_le_right _ _) h.r,Nat.le_trans h.cp (by omega),h.pr,h.nar,Nat.succ_le_succ h.dp,r,h.rb,h.r,Nat.le_refl _⟩
 have key:Rex (am P X (n+5)) dL.body [("_law_word",(false,.int w)),("_law_cell",(false,.int z)),("_law_top",(false,aF W q r k))] fun d fr=>(∃ q' r',TpA W R (c+12) (dp+1) q' r' k∧d=aF W q' r' k)∧fr=false:=by
  generalize am P X (n+5)=cf at *
  have t0:aT (aF W q r k) (.int 0)=some q.d:=rfl
  have t1:aT (aF W q r k) (.int 1)=some (.int (q.wd W)):=rfl
  have t2:aT (aF W q r k) (.int 2)=some (.int r):=rfl
  have t3:aT (aF W q r k) (.int 3)=some (.int k):=rfl
  generalize aF W q r k=T at *
  have fin:∀ (a:Nat) (σ:St),Has σ "_law_top" T→Has σ "_law_count" (.int a)→Rex cf [.ret (.tup [.tup [.str "first",.var "_law_count",.sub (.var "_law_top") (.int 0)],.sub (.var "_law_top") (.int 1),.blt "min" [.sub (.var "_law_top") (.int 2),.var "_law_count"],.sub (.var "_law_top") (.int 3)])] σ fun d fr=>(∃ q' r',TpA W R (c+12) (dp+1) q' r' k∧d=aF W q' r' k)∧fr=false:=by
   intro a σ i1 i2
   have:=hmin a
   refine bL (d:=aF W (.first a q) (min a r) k) (fr:=false) (by unfold aF;show _=some (D.tup [.tup [.str (Str.ofString "first"),.int a,q.d],.int (q.wd W),.int (min a r:Nat),.int k],_);exact ax (bx (ad (bx (ad (aE _ _ _) (ad (ae (aa i2)) (ad (av (ae (aa i1)) (af _ _ _) t0) (ai _ _)))) (Nat.le_of_ble_eq_true rfl)) (ad (av (ae (aa i1)) (af _ _ _) t1) (ad (cn (ad (av (ae (aa i1)) (af _ _ _) t2) (ad (ae (aa i2)) (ai _ _))) this) (ad (av (ae (aa i1)) (af _ _ _) t3) (ai _ _))))) (Nat.le_of_ble_eq_true rfl)) rfl rfl) rfl ⟨⟨_,_,A6 a,rfl⟩,rfl⟩
  refine cD (k:=decide (w<3)) (aA (ae (aa ag)) (af _ _ _) rfl) rfl (fun _=>?_) fun _=>?_
  ·exact bL (d:=aF W (.sieve cs q) r k) (fr:=false) (by unfold aF;show _=some (D.tup [.tup [.str (Str.ofString "sieve"),.tup (cs.map clD),q.d],.int (q.wd W),.int r,.int k],_);exact ax (bx (ad (bx (ad (aE _ _ _) (ad (ay (ad (ae (aa (aj rfl ag))) (ad (av (ae (aa (aj rfl (aj rfl ag)))) (af _ _ _) t1) (ai _ _))) c3) (ad (av (ae (aa (aj rfl (aj rfl ag)))) (af _ _ _) t0) (ai _ _)))) (Nat.le_of_ble_eq_true rfl)) (ad (av (ae (aa (aj rfl (aj rfl ag)))) (af _ _ _) t1) (ad (av (ae (aa (aj rfl (aj rfl ag)))) (af _ _ _) t2) (ad (av (ae (aa (aj rfl (aj rfl ag)))) (af _ _ _) t3) (ai _ _))))) (Nat.le_of_ble_eq_true rfl)) rfl rfl) rfl ⟨⟨_,_,A1,rfl⟩,rfl⟩
  refine cD (k:=w == 4) (aA (ae (aa ag)) (af _ _ _) rfl) rfl (fun _=>?_) fun _=>?_
  ·refine aU (au (d:=.tup (ps.map aY)) (fr:=false) (aK (ad (ae (aa (aj rfl ag))) (ad (av (ae (aa (aj rfl (aj rfl ag)))) (af _ _ _) t1) (ai _ _))) p3)) ?_
   exact bL (d:=aF W (.pick ps q) r k) (fr:=false) (by unfold aF;show _=some (D.tup [.tup [.str (Str.ofString "pick"),.tup (ps.map aY),q.d],.int ps.length,.int r,.int k],_);exact ax (bx (ad (bx (ad (aE _ _ _) (ad (ae (aa az)) (ad (av (ae (aa (al rfl (aw (aj rfl (aj rfl ag)))))) (af _ _ _) t0) (ai _ _)))) (Nat.le_of_ble_eq_true rfl)) (ad (cn (ad (ae (aa az)) (ai _ _)) l1) (ad (av (ae (aa (al rfl (aw (aj rfl (aj rfl ag)))))) (af _ _ _) t2) (ad (av (ae (aa (al rfl (aw (aj rfl (aj rfl ag)))))) (af _ _ _) t3) (ai _ _))))) (Nat.le_of_ble_eq_true rfl)) rfl rfl) rfl ⟨⟨_,_,A2,rfl⟩,rfl⟩
  refine cD (k:=w == 3||w == 5) (gX (aA (ae (aa ag)) (af _ _ _) rfl) fun a=>bS (aA (ae (aa ag)) (af _ _ _) rfl)) rfl (fun _=>?_) fun _=>?_
  ·refine aU (au (d:=.tup (ps.map aY)) (fr:=false) (aK (ad (ae (aa (aj rfl ag))) (ad (av (ae (aa (aj rfl (aj rfl ag)))) (af _ _ _) t1) (ai _ _))) p3)) (aU (au (d:=.tup (ss.map dA)) (fr:=false) (aK (ad (ae (aa (al rfl (aw (aj rfl ag))))) (ad (av (ae (aa (al rfl (aw (aj rfl (aj rfl ag)))))) (af _ _ _) t1) (ai _ _))) s3)) ?_)
   have hadd:((ps.length+ss.length:Nat):Int)=(ps.length:Int)+ss.length:=Int.natCast_add _ _
   exact bL (d:=aF W (.group ps ss q) r k) (fr:=false) (by unfold aF;show _=some (D.tup [.tup [.str (Str.ofString "group"),.tup (ps.map aY),.tup (ss.map dA),q.d],.int (ps.length+ss.length:Nat),.int r,.int k],_);rw[hadd];exact ax (bx (ad (bx (ad (aE _ _ _) (ad (ae (aa (al rfl (aw az)))) (ad (ae (aa az)) (ad (av (ae (aa (al rfl (aw (al rfl (aw (aj rfl (aj rfl ag)))))))) (af _ _ _) t0) (ai _ _))))) (Nat.le_of_ble_eq_true rfl)) (ad (ao (cn (ad (ae (aa (al rfl (aw az)))) (ai _ _)) l1) (cn (ad (ae (aa az)) (ai _ _)) l2) bY) (ad (av (ae (aa (al rfl (aw (al rfl (aw (aj rfl (aj rfl ag)))))))) (af _ _ _) t2) (ad (av (ae (aa (al rfl (aw (al rfl (aw (aj rfl (aj rfl ag)))))))) (af _ _ _) t3) (ai _ _))))) (Nat.le_of_ble_eq_true rfl)) rfl rfl) rfl ⟨⟨_,_,A3,rfl⟩,rfl⟩
  refine cD (k:=w == 6) (aA (ae (aa ag)) (af _ _ _) rfl) rfl (fun _=>?_) fun _=>?_
  ·exact bL (d:=aF W (.order ks q) r k) (fr:=false) (by unfold aF;show _=some (D.tup [.tup [.str (Str.ofString "order"),.tup (ks.map jh),q.d],.int (q.wd W),.int r,.int k],_);exact ax (bx (ad (bx (ad (aE _ _ _) (ad (ay (ad (ae (aa (aj rfl ag))) (ad (av (ae (aa (aj rfl (aj rfl ag)))) (af _ _ _) t1) (ai _ _))) k3) (ad (av (ae (aa (aj rfl (aj rfl ag)))) (af _ _ _) t0) (ai _ _)))) (Nat.le_of_ble_eq_true rfl)) (ad (av (ae (aa (aj rfl (aj rfl ag)))) (af _ _ _) t1) (ad (av (ae (aa (aj rfl (aj rfl ag)))) (af _ _ _) t2) (ad (av (ae (aa (aj rfl (aj rfl ag)))) (af _ _ _) t3) (ai _ _))))) (Nat.le_of_ble_eq_true rfl)) rfl rfl) rfl ⟨⟨_,_,A4,rfl⟩,rfl⟩
  refine cD (k:=w == 7) (aA (ae (aa ag)) (af _ _ _) rfl) rfl (fun _=>?_) fun _=>?_
  ·exact bL (d:=aF W (.once q) r k) (fr:=false) (by unfold aF;show _=some (D.tup [.tup [.str (Str.ofString "once"),q.d],.int (q.wd W),.int r,.int k],_);exact ax (bx (ad (bx (ad (aE _ _ _) (ad (av (ae (aa (aj rfl (aj rfl ag)))) (af _ _ _) t0) (ai _ _))) (Nat.le_of_ble_eq_true rfl)) (ad (av (ae (aa (aj rfl (aj rfl ag)))) (af _ _ _) t1) (ad (av (ae (aa (aj rfl (aj rfl ag)))) (af _ _ _) t2) (ad (av (ae (aa (aj rfl (aj rfl ag)))) (af _ _ _) t3) (ai _ _))))) (Nat.le_of_ble_eq_true rfl)) rfl rfl) rfl ⟨⟨_,_,A5,rfl⟩,rfl⟩
  refine aU (au (d:=.int a0) (fr:=false) (by rw[← e0];exact ax (ao (af _ _ _) (ao (ae (aa (aj rfl ag))) (af _ _ _) (aI (of_decide_eq_true (id (Eq.refl true))))) bY) rfl rfl)) ?_
  refine cD (k:=z / 6 % 4 == 1) (aA (ao (ao (ae (aa (al rfl (aw (aj rfl ag))))) (af _ _ _) (aS (of_decide_eq_true (id (Eq.refl true))))) (af _ _ _) (aI (of_decide_eq_true (id (Eq.refl true))))) (af _ _ _) rfl) rfl (fun _=>?_) fun _=>?_
  ·refine aU (au (d:=.int a1) (fr:=false) (by rw[← e1];exact ax (ao (ao (ae (aa (al rfl (aw (aj rfl ag))))) (af _ _ _) (aS (of_decide_eq_true (id (Eq.refl true))))) (af _ _ _) (aI (of_decide_eq_true (id (Eq.refl true))))) rfl rfl)) ?_
   refine cD (k:=z / 6 % 9 == 2) (aA (ao (ao (ae (aa (al rfl (aw (al rfl (aw (aj rfl ag))))))) (af _ _ _) (aS (of_decide_eq_true (id (Eq.refl true))))) (af _ _ _) (aI (of_decide_eq_true (id (Eq.refl true))))) (af _ _ _) rfl) rfl (fun _=>?_) fun _=>fin a1 _ (al rfl (aw (al rfl (aw (aj rfl (aj rfl ag)))))) az
   exact aU (au (d:=.int a2) (fr:=false) (ax (ao (ao (ae (aa (al rfl (aw (al rfl (aw (aj rfl ag))))))) (af _ _ _) (aS (of_decide_eq_true (id (Eq.refl true))))) (ao (af _ _ _) (af _ _ _) hpow) hmod) rfl rfl)) (fin a2 _ (al rfl (aw (al rfl (aw (al rfl (aw (aj rfl (aj rfl ag)))))))) az)
  ·refine cD (k:=z / 6 % 9 == 2) (aA (ao (ao (ae (aa (al rfl (aw (aj rfl ag))))) (af _ _ _) (aS (of_decide_eq_true (id (Eq.refl true))))) (af _ _ _) (aI (of_decide_eq_true (id (Eq.refl true))))) (af _ _ _) rfl) rfl (fun _=>?_) fun _=>fin a0 _ (al rfl (aw (aj rfl (aj rfl ag)))) az
   exact aU (au (d:=.int a2) (fr:=false) (ax (ao (ao (ae (aa (al rfl (aw (aj rfl ag))))) (af _ _ _) (aS (of_decide_eq_true (id (Eq.refl true))))) (ao (af _ _ _) (af _ _ _) hpow) hmod) rfl rfl)) (fin a2 _ (al rfl (aw (al rfl (aw (aj rfl (aj rfl ag)))))) az)
 obtain⟨d,fr,⟨⟨q',r',g1,rfl⟩,rfl⟩,hr⟩:=cA (X:=X) (args:=[.int w,.int z,aF W q r k]) B.ar rfl key
 exact⟨q',r',g1,hr⟩
theorem lG(B:BN P)(n:Nat):(am P X (n+1)).call "_law_around" [.int 8,.int 5,aF W q r k]=some (aF W (.first 6 q) (min 6 r) k,false):=by
 have hmin:eZ "min" [.int r,.int 6]=some (.int (min 6 r:Nat)):=by
  show some (D.int (if (6:Int)<r then (6:Int) else r))=_
  congr 2
  split
  ·rw[Nat.min_eq_left (by omega)];try rfl
  ·rw[Nat.min_eq_right (by omega)]
 refine aB B.ar rfl ?_
 show Run _ dL.body [("_law_word",(false,.int 8)),("_law_cell",(false,.int 5)),("_law_top",(false,aF W q r k))] _ _
 generalize am P X n=cf at *
 refine bb (k:=false) (x:=.bool false) rfl rfl nofun fun _=>bb (k:=false) (x:=.bool false) rfl rfl nofun fun _=>bb (k:=false) (x:=.bool false) rfl rfl nofun fun _=>bb (k:=false) (x:=.bool false) rfl rfl nofun fun _=>bb (k:=false) (x:=.bool false) rfl rfl nofun fun _=>?_
 refine aC (au (d:=.int 6) (fr:=false) rfl) ?_
 refine bb (k:=false) (x:=.bool false) rfl rfl nofun fun _=>bb (k:=false) (x:=.bool false) rfl rfl nofun fun _=>?_
 exact aP (ax (bx (ad (d:=.tup [.str (Str.ofString "first"),.int 6,q.d]) rfl (ad (d:=.int (q.wd W)) rfl (ad (cn (ad (d:=.int r) rfl (ad (d:=.int 6) rfl (ai _ _))) hmin) (ad (d:=.int k) rfl (ai _ _))))) (Nat.le_of_ble_eq_true rfl)) rfl rfl) rfl
theorem nL(B:BN P)(n:Nat)(z:Int)(h:TpA W R c dp q r k):∃ q' r',TpA W R (c+12) (dp+1) q' r' k∧(am P X (n+7)).call "_law_sieve_on" [aF W q r k,.int z]=some (aF W q' r' k,false):=by
 obtain⟨x6,_,m6⟩:=mixed (X:=X) B.toBG (n+5) z 6
 obtain⟨q1,r1,g1,g2⟩:=dI (X:=X) B n 0 (x6 / 4 * 4+1) h
 obtain⟨x8,_,m8⟩:=mixed (X:=X) B.toBG (n+5) z 8
 have key:Rex (am P X (n+6)) dY.body [("_law_top",(false,aF W q r k)),("_law_cell",(false,.int z))] fun d fr=>(∃ q' r',TpA W R (c+12) (dp+1) q' r' k∧d=aF W q' r' k)∧fr=false:=by
  generalize am P X (n+6)=cf at *
  have t0:aT (aF W q r k) (.int 0)=some q.d:=rfl
  have t1:aT (aF W q r k) (.int 1)=some (.int (q.wd W)):=rfl
  have t2:aT (aF W q r k) (.int 2)=some (.int r):=rfl
  have t3:aT (aF W q r k) (.int 3)=some (.int k):=rfl
  have last:∀ σ:St,Has σ "_law_top" (aF W q r k)→Has σ "_law_cell" (.int z)→Rex cf [.ret (.call "_law_around" [.int 0,.bin .Add (.bin .Mult (.bin .FloorDiv (.call "_law_mixed" [.var "_law_cell",.int 6]) (.int 4)) (.int 4)) (.int 1),.var "_law_top"])] σ fun d fr=>(∃ q' r',TpA W R (c+12) (dp+1) q' r' k∧d=aF W q' r' k)∧fr=false:=fun σ i1 i2=>
   bL (d:=aF W q1 r1 k) (fr:=false) (aK (ad (af _ _ _) (ad (ao (ao (ao (ay (ad (ae (aa i2)) (ad (af _ _ _) (ai _ _))) m6) (af _ _ _) (aS (of_decide_eq_true (id (Eq.refl true))))) (af _ _ _) (oN (of_decide_eq_true (id (Eq.refl true))))) (af _ _ _) bY) (ad (ae (aa i1)) (ai _ _)))) g2) rfl ⟨⟨q1,r1,g1,rfl⟩,rfl⟩
  refine cD (k:=z / 4 % 3 == 1&&decide ((q.wd W:Int) > 0)) (gK (k:=z / 4 % 3 == 1) (l:=decide ((q.wd W:Int) > 0)) (by clear last;exact aA (ao (ao (ae (aa (aj rfl ag))) (af _ _ _) (aS (of_decide_eq_true (id (Eq.refl true))))) (af _ _ _) (aI (of_decide_eq_true (id (Eq.refl true))))) (af _ _ _) rfl) fun _=>bS (aA (av (x:=aF W q r k) (y:=.int 1) rfl rfl t1) (af _ _ _) rfl)) rfl (fun hc=>?_) fun _=>last _ ⟨_,rfl⟩ ⟨_,rfl⟩
  rw[Bool.and_eq_true,decide_eq_true_eq] at hc
  have hpos:0<q.wd W:=by omega
  have hposI:(0:Int)<q.wd W:=hc.2
  obtain⟨dw,⟨s,hs,rfl⟩,hd⟩:=cm (l:=[sD "from",sD "upto",sD "unlike"]) (by decide) (z / 12) (R:=fun d=>∃ s,s∈gJ∧d=sD s) (by
   intro d hd
   simp only[List.mem_cons,List.not_mem_nil,or_false] at hd
   rcases hd with rfl | rfl | rfl <;> exact⟨_,by decide,rfl⟩)
  have hd:aT (.list [.str (Str.ofString "from"),.str (Str.ofString "upto"),.str (Str.ofString "unlike")]) (.int (z / 12 % 3))=some (.str (Str.ofString s)):=hd
  obtain⟨p,ep,hp⟩:=bv x8 hpos
  have hg:pv (.int (z / 36 % 3)):=.inl ⟨_,rfl,by omega,by omega⟩
  have A:TpA W R (c+12) (dp+1) (.sieve [[tst s p "is" (.int (z / 36 % 3))]] q) r k:=by
   refine⟨⟨h.ok,fun x hx=>?_,Nat.le_of_ble_eq_true rfl⟩,h.wd,h.k1,h.k2,h.r,by show 1+q.cp≤_;have:=h.cp;omega,h.pr,h.nar,Nat.succ_le_succ h.dp,h.rb⟩
   rw[List.mem_singleton.mp hx]
   exact⟨fun t ht=>by rw[List.mem_singleton.mp ht];exact⟨s,p,hs,hp,.inr ⟨_,hg,rfl⟩⟩,Nat.le_of_ble_eq_true rfl⟩
  refine aU (au (d:=.str (Str.ofString s)) (fr:=false) (ax (av (cR (ad (aE _ _ _) (ad (aE _ _ _) (ad (aE _ _ _) (ai _ _)))) (of_decide_eq_true (id (Eq.refl true)))) (ao (ao (ae (aa (aj rfl ag))) (af _ _ _) (aS (of_decide_eq_true (id (Eq.refl true))))) (af _ _ _) (aI (of_decide_eq_true (id (Eq.refl true))))) hd) rfl rfl)) ?_
  have hx:du .Mod (.int x8) (.int (q.wd W))=some (.int p):=by rw[← ep];exact aI hposI
  refine aU (au (d:=tst s p "is" (.int (z / 36 % 3))) (fr:=false) (ax (bx (ad (ae (aa az)) (ad (ao (ay (ad (ae (aa (al rfl (aw (aj rfl ag))))) (ad (af _ _ _) (ai _ _))) m8) (av (ae (aa (al rfl (aw ag)))) (af _ _ _) t1) hx) (ad (aE _ _ _) (ad (ao (ao (ae (aa (al rfl (aw (aj rfl ag))))) (af _ _ _) (aS (of_decide_eq_true (id (Eq.refl true))))) (af _ _ _) (aI (of_decide_eq_true (id (Eq.refl true))))) (ai _ _))))) (Nat.le_of_ble_eq_true rfl)) rfl rfl)) ?_
  have j1:Has (aD (settle (tst s p "is" (.int (z / 36 % 3))) (ME.names (.tup [.var "_law_word",.bin .Mod (.call "_law_mixed" [.var "_law_cell",.int 8]) (.sub (.var "_law_top") (.int 1)),.str "is",.bin .Mod (.bin .FloorDiv (.var "_law_cell") (.int 36)) (.int 3)])) (aD (settle (.str (Str.ofString s)) (ME.names (.sub (.lst [.str "from",.str "upto",.str "unlike"]) (.bin .Mod (.bin .FloorDiv (.var "_law_cell") (.int 12)) (.int 3)))) [("_law_top",(false,aF W q r k)),("_law_cell",(false,.int z))]) "_law_word" (false,.str (Str.ofString s)))) "_law_test" (false,tst s p "is" (.int (z / 36 % 3)))) "_law_top" (aF W q r k):=(al rfl (aw (al rfl (aw ag))))
  refine bL (d:=aF W (.sieve [[tst s p "is" (.int (z / 36 % 3))]] q) r k) (fr:=false) (ax (bx (ad (bx (ad (aE _ _ _) (ad (bx (ad (bx (ad (ae (aa az)) (ai _ _)) (Nat.le_of_ble_eq_true rfl)) (ai _ _)) (Nat.le_of_ble_eq_true rfl)) (ad (av (ae (aa j1)) (af _ _ _) t0) (ai _ _)))) (Nat.le_of_ble_eq_true rfl)) (ad (av (ae (aa j1)) (af _ _ _) t1) (ad (av (ae (aa j1)) (af _ _ _) t2) (ad (av (ae (aa j1)) (af _ _ _) t3) (ai _ _))))) (Nat.le_of_ble_eq_true rfl)) rfl rfl) rfl ⟨⟨_,_,A,rfl⟩,rfl⟩
 obtain⟨d,fr,⟨⟨q',r',h1,rfl⟩,rfl⟩,hr⟩:=cA (X:=X) (args:=[aF W q r k,.int z]) B.so rfl key
 exact⟨q',r',h1,hr⟩
end

set_option maxRecDepth 100000
noncomputable abbrev Tbs:=List (Str×Tab)
noncomputable def Tbs.d(T:Tbs):D:=.dict (T.map fun p=>.str p.1) (T.map fun p=>aL p.2)
noncomputable def Q.ans(T:Tbs):Q→Tab
 | .table nm=>(T.lookup nm).getD []
 | .sieve cs q=>(q.ans T).filter (mV cs)
 | .pick ps q=>(q.ans T).map (eK ps)
 | .group ps ss q=>jl ps ss (q.ans T)
 | .order ks q=>rM ks (q.ans T)
 | .once q=>bG (q.ans T)
 | .first c q=>(q.ans T).take c
 | .join a b prs=>lM prs (a.ans T) (b.ans T)
 | .both a b=>a.ans T++b.ans T
noncomputable def sr(W R:Wd)(T:Tbs):Prop:=∀ nm k,W.lookup nm=some k→∃ t,T.lookup nm=some t∧bA k t∧∀ r,R.lookup nm=some r→t.length≤r
theorem kz:∀ (ks:List (Nat×Bool)) (t:Tab),(ks.foldl (fun l k=>gI k l) t).length=t.length∧∀ r∈ks.foldl (fun l k=>gI k l) t,r∈t
 | [],_=>⟨rfl,fun _ h=>h⟩
 | k::ks,t=>⟨(kz ks (gI k t)).1.trans (mO k t).1,fun r h=>(mO k t).2 r ((kz ks (gI k t)).2 r h)⟩
theorem group_rows{m:Nat}{ps:List Nat}{ss:List (String×Nat)}{t:Tab}(h:bA m t)(hp:∀ p∈ps,p<m)(hs:∀ s∈ss,s.2<m):bA (ps.length+ss.length) (jl ps ss t)∧(jl ps ss t).length≤t.length:=by
 have g:=mr hp h
 refine⟨fun r hr=>?_,by unfold jl;rw[List.length_map];exact g.le⟩
 obtain⟨q,hq,e⟩:=List.mem_map.mp hr
 subst e
 have hk:=g.ke q hq
 have ro:=g.ro q hq
 refine⟨by unfold rI kq;rw[List.length_append,List.length_map,hk.1],fun d hd=>(List.mem_append.mp hd).elim (hk.2 d) fun hd=>(List.mem_map.mp hd).elim fun s z=>z.2▸?_⟩
 obtain⟨qk,qt⟩:=q
 cases qt with
 | nil=>exact absurd rfl ro.1
 | cons r0 rs=>exact told_cell (oG ro.2.1 (hs s z.1))
theorem met_rows{m k:Nat}{prs:List (Nat×Nat)}{a b:Tab}(ha:bA m a)(hb:bA k b):bA (m+k) (lM prs a b):=fun r hr=>by
 obtain⟨x,hx,hr⟩:=List.mem_flatMap.mp hr
 obtain⟨y,hy,e⟩:=List.mem_map.mp hr
 have h1:=ha x hx
 have h2:=hb y ((List.mem_filter.mp hy).1)
 exact e▸⟨by rw[List.length_append,h1.1,h2.1],fun d hd=>(List.mem_append.mp hd).elim (h1.2 d) (h2.2 d)⟩
theorem bW{W R:Wd}{T:Tbs}(hT:sr W R T):∀ (q:Q) (r:Nat),q.ok W→q.rb R r→bA (q.wd W) (q.ans T)∧(q.ans T).length≤r
 | .table nm,r,⟨k,hk⟩,⟨k',h1,h2⟩=>by
  obtain⟨t,e,h3,h4⟩:=hT nm k hk
  show bA ((W.lookup nm).getD 0) ((T.lookup nm).getD [])∧((T.lookup nm).getD []).length≤r
  rw[hk,e]
  exact⟨h3,Nat.le_trans (h4 _ h1) h2⟩
 | .sieve cs q,r,⟨h,_⟩,hr=>have i:=bW hT q r h hr;⟨fun x hx=>i.1 x ((List.mem_filter.mp hx).1),Nat.le_trans (List.length_filter_le _ _) i.2⟩
 | .pick ps q,r,⟨h,hp,_⟩,hr=>have i:=bW hT q r h hr;⟨fun x hx=>(List.mem_map.mp hx).elim fun y z=>z.2▸lx (i.1 y z.1) hp,Nat.le_trans (Nat.le_of_eq (List.length_map ..)) i.2⟩
 | .group ps ss q,r,⟨h,hp,hs,_⟩,hr=>have i:=bW hT q r h hr;have g:=group_rows i.1 hp hs;⟨g.1,Nat.le_trans g.2 i.2⟩
 | .order ks q,r,⟨h,_⟩,hr=>have i:=bW hT q r h hr;have o:=kz ks.reverse (q.ans T);⟨fun x hx=>i.1 x (o.2 x hx),Nat.le_trans (Nat.le_of_eq o.1) i.2⟩
 | .once q,r,h,hr=>have i:=bW hT q r h hr;⟨fun x hx=>i.1 x (l9.1 x hx),Nat.le_trans l9.2 i.2⟩
 | .first c q,r,h,⟨r',hr,_,h2⟩=>have i:=bW hT q r' h hr;⟨fun x hx=>i.1 x (List.mem_of_mem_take hx),Nat.le_trans (Nat.le_of_eq List.length_take) (Nat.le_trans (Nat.le_min.mpr ⟨Nat.min_le_left _ _,Nat.le_trans (Nat.min_le_right _ _) i.2⟩) h2)⟩
 | .join a b prs,r,⟨ha,hb,_⟩,⟨r1,r2,h1,h2,_,_,h3⟩=>have i:=bW hT a r1 ha h1;have j:=bW hT b r2 hb h2;⟨met_rows i.1 j.1,Nat.le_trans (nZ prs _ _) (Nat.le_trans (Nat.mul_le_mul i.2 j.2) h3)⟩
 | .both a b,r,⟨ha,hb,hw⟩,⟨r1,r2,h1,h2,_,_,h3⟩=>have i:=bW hT a r1 ha h1;have j:=bW hT b r2 hb h2;⟨fun x hx=>(List.mem_append.mp hx).elim (i.1 x) fun hx=>hw▸j.1 x hx,Nat.le_trans (Nat.le_of_eq List.length_append) (Nat.le_trans (Nat.add_le_add i.2 j.2) h3)⟩

set_option maxRecDepth 100000
section
variable {P:List (String×Fn)} {X:CF} {cf:CF} {σ:St} {t r:List MS} {w w2:String} {R:D} {fr:Bool}
noncomputable def nz:List String:=["sieve","pick","group","order","once","first"]
theorem upon_ne:∀ w∈nz,(Str.ofString w == Str.ofString "table")=false∧(Str.ofString w == Str.ofString "join")=false∧(Str.ofString w == Str.ofString "both")=false:=by decide +kernel
theorem steps_in:∀ w∈"table"::"join"::"both"::nz,dZ .NotIn (sD w) (.tup dN)=some (.bool false):=by
 intro w hw
 simp only[nz,List.mem_cons,List.not_mem_nil,or_false] at hw
 rcases hw with rfl | rfl | rfl | rfl | rfl | rfl | rfl | rfl | rfl <;> rfl
theorem kj(B:BA P)(hX:X.glob "STEPS"=some (.tup dN))(n:Nat){q T:D}(hw:w∈"table"::"join"::"both"::nz)(h0:aT q (.int 0)=some (sD w))(k:Run (am P X n) (gF.body.drop 2) [("query",(false,q)),("tables",(false,T)),("word",(false,sD w))] R fr):(am P X (n+1)).call "answer" [q,T]=some (R,fr):=by
 refine aB B.answer rfl ?_
 show Run _ gF.body [("query",(false,q)),("tables",(false,T))] _ _
 refine aC (bg (d:=sD w) (fr:=false) (ax (av (ae (aa ag)) (af _ _ _) h0) rfl rfl) rfl) (bb (k:=false) (x:=.bool false) (aA (ae (aa az)) (Eq.trans (nh _ _ _) ((m4 P X n "STEPS").trans hX)) (steps_in w hw)) rfl nofun fun _=>k)
theorem e8(B:BA P)(hX:X.glob "STEPS"=some (.tup dN))(n:Nat){q I T A:D}{fr1:Bool}(hw:w∈nz)(h0:aT q (.int 0)=some (sD w))(hl:aT q (.int (-1))=some I)
  (k1:(am P X n).call "answer" [I,T]=some (A,fr1)) (k2:(am P X n).call "stepped" [q,A]=some (R,fr)):(am P X (n+1)).call "answer" [q,T]=some (R,fr):=by
 have hne:=upon_ne w hw
 have hh:Has [("query",(false,q)),("tables",(false,T)),("word",(false,sD w))] "word" (sD w):=aj rfl (aj rfl ag)
 exact kj B hX n (.tail _ (.tail _ (.tail _ hw))) h0 (skW hne.1 hh (skW hne.2.1 hh (skW hne.2.2 hh (aP (aK (ad (ae (aa ag)) (ad (ay (ad (av (ae (aa ag)) rh hl) (ad (ae (aa (aj rfl ag))) (ai _ _))) k1) (ai _ _))) k2) rfl))))
theorem ans_join(B:BA P)(hX:X.glob "STEPS"=some (.tup dN))(n:Nat){I J S T A C:D}{f1 f2:Bool}(k1:(am P X n).call "answer" [I,T]=some (A,f1))(k2:(am P X n).call "answer" [J,T]=some (C,f2))(k3:(am P X n).call "met" [A,C,S]=some (R,fr)) :
  (am P X (n+1)).call "answer" [.tup [sD "join",I,J,S],T]=some (R,fr):=by
 have hh:Has [("query",(false,.tup [sD "join",I,J,S])),("tables",(false,T)),("word",(false,sD "join"))] "word" (sD "join"):=aj rfl (aj rfl ag)
 exact kj B hX n (by decide) rfl (skW (by decide +kernel) hh (jk hh (aC (au (aK (ad (av (x:=.tup [sD "join",I,J,S]) (y:=.int 1) (ae (aa ag)) (af _ _ _) rfl) (ad (ae (aa (aj rfl ag))) (ai _ _))) k1)) (aP (aK (ad (ae (aa az)) (ad (ay (ad (av (x:=.tup [sD "join",I,J,S]) (y:=.int 2) (ae (aa (al rfl (aw ag)))) (af _ _ _) rfl) (ad (ae (aa (al rfl (aw (aj rfl ag))))) (ai _ _))) k2) (ad (av (x:=.tup [sD "join",I,J,S]) (y:=.int 3) (ae (aa (al rfl (aw ag)))) (af _ _ _) rfl) (ai _ _)))) k3) rfl))))
theorem ans_both(B:BA P)(hX:X.glob "STEPS"=some (.tup dN))(n:Nat){I J T:D}{a b:Tab}{f1 f2:Bool}(hl:a.length+b.length≤big)(k1:(am P X n).call "answer" [I,T]=some (aL a,f1))(k2:(am P X n).call "answer" [J,T]=some (aL b,f2)) :
  (am P X (n+1)).call "answer" [.tup [sD "both",I,J],T]=some (aL (a++b),true):=by
 have hh:Has [("query",(false,.tup [sD "both",I,J])),("tables",(false,T)),("word",(false,sD "both"))] "word" (sD "both"):=aj rfl (aj rfl ag)
 refine kj B hX n (by decide) rfl (skW (by decide +kernel) hh (skW (by decide +kernel) hh (jk hh (aC (au (aK (ad (av (x:=.tup [sD "both",I,J]) (y:=.int 1) (ae (aa ag)) (af _ _ _) rfl) (ad (ae (aa (aj rfl ag))) (ai _ _))) k1)) (aP (ax (ao (x:=aL a) (y:=aL b) (ae (aa az)) (ay (ad (av (x:=.tup [sD "both",I,J]) (y:=.int 2) (ae (aa (al rfl (aw ag)))) (af _ _ _) rfl) (ad (ae (aa (al rfl (aw (aj rfl ag))))) (ai _ _))) k2) ?_) rfl rfl) rfl)))))
 unfold aL
 rw[List.map_append]
 exact if_pos (by rw[List.length_map,List.length_map];exact hl)
end

set_option maxRecDepth 100000
section
variable {P:List (String×Fn)} {X:CF}
theorem i9(B:BA P)(n:Nat){q A R:D}{fr:Bool}{w:String}(h0:aT q (.int 0)=some (sD w))(k:Run (am P X n) (ij.body.drop 1) [("query",(false,q)),("rows",(false,A)),("word",(false,sD w))] R fr):(am P X (n+1)).call "stepped" [q,A]=some (R,fr):=
 aB B.stepped rfl (aC (bg (d:=sD w) (fr:=false) (ax (av (ae (aa ag)) (af _ _ _) h0) rfl rfl) rfl) k)
theorem eT{q A:D}{w:String}:Has [("query",(false,q)),("rows",(false,A)),("word",(false,sD w))] "word" (sD w):=aj rfl (aj rfl ag)
theorem qW{q A:D}{w:String}:Has [("query",(false,q)),("rows",(false,A)),("word",(false,sD w))] "rows" A:=aj rfl ag
theorem st_sieve(B:BA P)(n:Nat){m:Nat}{t:Tab}(h:bA m t)(hl:t.length≤big){cs:List (List D)}(hc:∀ c∈cs,iY m c){I:D}:(am P X (n+5)).call "stepped" [.tup [sD "sieve",.tup (cs.map clD),I],aL t]=some (aL (t.filter (mV cs)),true):=by
 refine i9 B (n+4) rfl (jk eT (aP (ax (gY (z:="row") (its:=t.map .tup) (ae (aa qW)) rfl (by rw[List.length_map];exact hl) (lu (g:=D.tup) (p:=mV cs) t fun r hr=>js (ay (ad (av (x:=.tup [sD "sieve",.tup (cs.map clD),I]) (y:=.int 1) (ae (bP rfl (aa ag))) (af _ _ _) rfl) (ad (ae cT) (ai _ _))) (keeps_eq B n (h r hr) hc)) rfl fun _=>ae cT)) rfl rfl) rfl))
theorem st_pick(B:BA P)(n:Nat){m:Nat}{t:Tab}(h:bA m t)(hl:t.length≤big){ps:List Nat}(hp:∀ p∈ps,p<m)(hpl:ps.length≤big){I:D}:(am P X (n+2)).call "stepped" [.tup [sD "pick",.tup (ps.map aY),I],aL t]=some (aL (t.map (eK ps)),true):=by
 unfold aL
 rw[List.map_map]
 exact i9 B (n+1) rfl (skW (by decide +kernel) eT (jk eT (aP (ax (oX (g:=D.tup) (l:=t) (f:=D.tup ∘ eK ps) (ae (aa qW)) rfl hl fun r hr=>ay (ad (ae cT) (ad (av (x:=.tup [sD "pick",.tup (ps.map aY),I]) (y:=.int 1) (ae (bP rfl (aa ag))) (af _ _ _) rfl) (ai _ _))) (oI B n (h r hr) hp hpl)) rfl rfl) rfl)))
theorem st_group(B:BA P)(n:Nat){A R S U I:D}{fr:Bool}(k:(am P X n).call "grouped" [A,S,U]=some (R,fr)):(am P X (n+1)).call "stepped" [.tup [sD "group",S,U,I],A]=some (R,fr):=
 i9 B n rfl (skW (by decide +kernel) eT (skW (by decide +kernel) eT (jk eT (aP (aK (ad (ae (aa qW)) (ad (av (x:=.tup [sD "group",S,U,I]) (y:=.int 1) (ae (aa ag)) (af _ _ _) rfl) (ad (av (x:=.tup [sD "group",S,U,I]) (y:=.int 2) (ae (aa ag)) (af _ _ _) rfl) (ai _ _)))) k) rfl))))
theorem st_order(B:BA P)(n:Nat){A R S I:D}{fr:Bool}(k:(am P X n).call "ordered" [A,S]=some (R,fr)):(am P X (n+1)).call "stepped" [.tup [sD "order",S,I],A]=some (R,fr):=
 i9 B n rfl (skW (by decide +kernel) eT (skW (by decide +kernel) eT (skW (by decide +kernel) eT (jk eT (aP (aK (ad (ae (aa qW)) (ad (av (x:=.tup [sD "order",S,I]) (y:=.int 1) (ae (aa ag)) (af _ _ _) rfl) (ai _ _))) k) rfl)))))
theorem st_once(B:BA P)(n:Nat){A R I:D}{fr:Bool}(k:(am P X n).call "once" [A]=some (R,fr)):(am P X (n+1)).call "stepped" [.tup [sD "once",I],A]=some (R,fr):=
 i9 B n rfl (skW (by decide +kernel) eT (skW (by decide +kernel) eT (skW (by decide +kernel) eT (skW (by decide +kernel) eT (jk eT (aP (aK (ad (ae (aa qW)) (ai _ _)) k) rfl))))))
theorem st_first(B:BA P)(n:Nat){t:Tab}{c:Nat}{I:D}:(am P X (n+1)).call "stepped" [.tup [sD "first",aY c,I],aL t]=some (aL (t.take c),true):=by
 refine i9 B n rfl (skW (by decide +kernel) eT (skW (by decide +kernel) eT (skW (by decide +kernel) eT (skW (by decide +kernel) eT (skW (by decide +kernel) eT (aP (ax (qU (x:=aL t) (u:=.none) (v:=aY c) (ae (aa qW)) (jq _ _) (av (x:=.tup [sD "first",aY c,I]) (y:=.int 1) (ae (aa ag)) (af _ _ _) rfl) ?_) rfl rfl) rfl))))))
 have e:bnd (aY c) (t.map D.tup).length=some c:=by
  show (if (0:Int)≤(c:Int) then some (c:Int).toNat else none)=_
  rw[if_pos (Int.natCast_nonneg c)];rfl
 show ((bnd D.none 0).bind fun a=>(bnd (aY c) (t.map D.tup).length).map fun b=>D.list (((t.map D.tup).take b).drop a))=_
 rw[e]
 show some (D.list (((t.map D.tup).take c).drop 0))=_
 rw[List.drop_zero,← List.map_take];rfl
theorem rn:∀ {T:Tbs} {nm:Str} {t:Tab},T.lookup nm=some t→jS (T.map fun p=>D.str p.1) (T.map fun p=>aL p.2) (.str nm)=some (aL t)∧((T.map fun p=>D.str p.1).any fun x=>aQ x (.str nm))=true
 | [],_,_,h=>nomatch h
 | p::T,nm,t,h=>by
  rw[List.lookup_cons] at h
  rw[List.map_cons,List.map_cons,kf,List.any_cons]
  show (if (p.1 == nm)=true then _ else _)=_∧((p.1 == nm)||_)=true
  cases e:nm == p.1 with
  | true=>
   rw[e] at h
   have e':=eq_of_beq e
   rw[e',beq_self_eq_true,if_pos rfl]
   exact⟨congrArg some (congrArg aL (Option.some.inj h)),rfl⟩
  | false=>
   rw[e] at h
   have e':(p.1 == nm)=false:=beq_false_of_ne fun q=>by rw[q,beq_self_eq_true] at e;cases e
   rw[e',if_neg Bool.false_ne_true]
   exact rn h
theorem rm(T:Tbs)(nm:Str):cB (.str nm) (T.map fun p=>D.str p.1)=true:=by
 unfold cB
 rw[show (T.map fun p=>D.str p.1).all D.isCell=true from List.all_eq_true.mpr fun d hd=>(List.mem_map.mp hd).elim fun p z=>z.2▸rfl];rfl
theorem ans_table(B:BA P)(hX:X.glob "STEPS"=some (.tup dN))(n:Nat){T:Tbs}{nm:Str}{t:Tab}(h:T.lookup nm=some t):(am P X (n+1)).call "answer" [.tup [sD "table",.str nm],T.d]=some (aL t,true):=by
 have g:=rn h
 have hs:aT T.d (.str nm)=some (aL t):=(if_pos (rm T nm)).trans g.1
 have hm:dZ .NotIn (.str nm) T.d=some (.bool false):=by
  show (kH (.str nm) T.d).map _=_
  rw[show kH (.str nm) T.d=some true from (if_pos (rm T nm)).trans (congrArg some g.2)];rfl
 have hh:Has [("query",(false,.tup [sD "table",.str nm])),("tables",(false,T.d)),("word",(false,sD "table"))] "word" (sD "table"):=aj rfl (aj rfl ag)
 exact kj B hX n (by decide) rfl (jk hh (bb (k:=false) (x:=.bool false) (aA (x:=.str nm) (av (x:=.tup [sD "table",.str nm]) (y:=.int 1) (ae (aa ag)) (af _ _ _) rfl) (ae (aa (aj rfl ag))) hm) rfl nofun fun _=>aP (ax (v_lcp (av (ae (aa (aj rfl ag))) (av (x:=.tup [sD "table",.str nm]) (y:=.int 1) (ae (aa ag)) (af _ _ _) rfl) hs) rfl) rfl rfl) rfl))
theorem bV(B:BA P)(hX:X.glob "STEPS"=some (.tup dN)){W R:Wd}{T:Tbs}(hT:sr W R T):∀ (q:Q) (r n:Nat),q.ok W→q.rb R r→r≤60→q.nar W 5000→q.dp≤n→(am P X (n+5)).call "answer" [q.d,T.d]=some (aL (q.ans T),true)
 | .table nm,r,n,⟨k,hk⟩,_,_,_,_=>by
  obtain⟨t,e,_⟩:=hT nm k hk
  have:=ans_table B hX (n+4) (P:=P) (X:=X) e
  show _=some (aL ((T.lookup nm).getD []),true)
  rw[e];exact this
 | .sieve cs q,r,n+1,h,hr,h6,hn,hd=>have a:=bW hT q r h.1 hr;e8 B hX _ (w:="sieve") (by decide) rfl rfl (bV B hX hT q r n h.1 hr h6 hn (Nat.le_of_succ_le_succ hd)) (st_sieve B n a.1 (Nat.le_trans a.2 (Nat.le_trans h6 (by decide))) h.2.1)
 | .pick ps q,r,n+1,h,hr,h6,hn,hd=>have a:=bW hT q r h.1 hr;e8 B hX _ (w:="pick") (by decide) rfl rfl (bV B hX hT q r n h.1 hr h6 hn (Nat.le_of_succ_le_succ hd)) (st_pick B (n+3) a.1 (Nat.le_trans a.2 (Nat.le_trans h6 (by decide))) h.2.1 (Nat.le_trans h.2.2 (by decide)))
 | .group ps ss q,r,n+1,h,hr,h6,hn,hd=>have a:=bW hT q r h.1 hr;e8 B hX _ (w:="group") (by decide) rfl rfl (bV B hX hT q r n h.1 hr h6 hn.1 (Nat.le_of_succ_le_succ hd)) (st_group B (n+4) (grouped_eq B (n+1) a.1 (Nat.le_trans a.2 h6) h.2.1 h.2.2.2.1 h.2.2.1 h.2.2.2.2))
 | .order ks q,r,n+1,h,hr,h6,hn,hd=>have a:=bW hT q r h.1 hr;e8 B hX _ (w:="order") (by decide) rfl rfl (bV B hX hT q r n h.1 hr h6 hn (Nat.le_of_succ_le_succ hd)) (st_order B (n+4) (ordered_eq B (n+2) a.1 (Nat.lt_of_le_of_lt a.2 (Nat.lt_of_le_of_lt h6 (by decide))) h.2.1))
 | .once q,r,n+1,h,hr,h6,hn,hd=>have a:=bW hT q r h hr;e8 B hX _ (w:="once") (by decide) rfl rfl (bV B hX hT q r n h hr h6 hn (Nat.le_of_succ_le_succ hd)) (st_once B (n+4) (once_eq B (n+3) a.1 (Nat.lt_of_le_of_lt a.2 (Nat.lt_of_le_of_lt h6 (by decide)))))
 | .first c q,r,n+1,h,⟨r',hr,h6',_⟩,h6,hn,hd=>e8 B hX _ (w:="first") (by decide) rfl rfl (bV B hX hT q r' n h hr h6' hn (Nat.le_of_succ_le_succ hd)) (st_first B (n+4))
 | .join a b prs,r,n+1,h,⟨r1,r2,h1,h2,l1,l2,_⟩,h6,hn,hd=>have i:=bW hT a r1 h.1 h1;have j:=bW hT b r2 h.2.1 h2;ans_join B hX _ (bV B hX hT a r1 n h.1 h1 l1 hn.1 (Nat.le_trans (Nat.le_max_left _ _) (Nat.le_of_succ_le_succ hd))) (bV B hX hT b r2 n h.2.1 h2 l2 hn.2.1 (Nat.le_trans (Nat.le_max_right _ _) (Nat.le_of_succ_le_succ hd))) (met_eq B (n+2) i.1 j.1 (Nat.le_trans i.2 l1) (Nat.le_trans j.2 l2) (Nat.le_trans hn.2.2 (by decide)) h.2.2.1)
 | .both a b,r,n+1,h,⟨r1,r2,h1,h2,l1,l2,_⟩,h6,hn,hd=>have i:=bW hT a r1 h.1 h1;have j:=bW hT b r2 h.2.1 h2;ans_both B hX _ (Nat.le_trans (Nat.add_le_add (Nat.le_trans i.2 l1) (Nat.le_trans j.2 l2)) (by decide)) (bV B hX hT a r1 n h.1 h1 l1 hn.1 (Nat.le_trans (Nat.le_max_left _ _) (Nat.le_of_succ_le_succ hd))) (bV B hX hT b r2 n h.2.1 h2 l2 hn.2 (Nat.le_trans (Nat.le_max_right _ _) (Nat.le_of_succ_le_succ hd)))
end

set_option maxRecDepth 100000
set_option maxHeartbeats 800000
noncomputable def jU(W R:Wd)(c dp:Nat)(d:D):Prop:=d=.list []∨∃ q r k,TpA W R c dp q r k∧d=.list [aF W q r k]
section
variable {P:List (String×Fn)} {X:CF} {W R:Wd} {c dp:Nat} {q q2:Q} {r k r2 k2:Nat}
theorem jz(B:BN P)(n:Nat)(z:Int)(h:TpA W R c dp q r k)(h2:TpA W R c dp q2 r2 k2):∃ d fr,jU W R (c+12) (dp+2) d∧(am P X (n+3)).call "_law_of_two" [sD "join",.int z,aF W q r k,aF W q2 r2 k2]=some (d,fr):=by
 have hr:=h.r;have hr2:=h2.r
 have mk:∀ (a b:Q) (ra rb:Nat),TpA W R c (dp+1) a ra k→TpA W R c (dp+1) b rb k2→a.wd W=q.wd W→b.wd W=q2.wd W→ra * rb≤60→k+k2≤24→∀ σ:St,Has σ "_law_cell" (.int z)→Has σ "_law_one" (aF W a ra k)→Has σ "_law_two" (aF W b rb k2) →
   ∀ rest:List MS,Rex (am P X (n+2)) (.assign "_law_query" (.tup [.str "join",.sub (.var "_law_one") (.int 0),.sub (.var "_law_two") (.int 0),.call "_law_pairs_by" [.var "_law_cell",.sub (.var "_law_one") (.int 1),.sub (.var "_law_two") (.int 1)]])::.ret (.lst [.tup [.var "_law_query",.bin .Add (.sub (.var "_law_one") (.int 1)) (.sub (.var "_law_two") (.int 1)),.bin .Mult (.sub (.var "_law_one") (.int 2)) (.sub (.var "_law_two") (.int 2)),.bin .Add (.sub (.var "_law_one") (.int 3)) (.sub (.var "_law_two") (.int 3))]])::rest) σ fun d _=>jU W R (c+12) (dp+2) d:=by
  intro a b ra rb ha hb ea eb hrr hk σ i1 i2 i3 rest
  obtain⟨prs,g1,g2,g3⟩:=pairs_by (X:=X) B n z (a.wd W) (b.wd W)
  have A:TpA W R (c+12) (dp+2) (.join a b prs) (ra * rb) (k+k2):=by
   have h1:=ha.wd;have h2:=hb.wd;have h3:=ha.k1;have h4:=ha.cp;have h5:=hb.cp;have h6:=ha.pr;have h7:=hb.pr;have h8:=ha.dp;have h9:=hb.dp
   exact⟨⟨ha.ok,hb.ok,g1,by omega⟩,by show a.wd W+b.wd W≤_;omega,by omega,hk,hrr,by show max _ _≤_;omega,by show max _ (max _ _)≤_;omega,⟨ha.nar,hb.nar,by omega⟩,by show max _ _+1≤_;omega,ra,rb,ha.rb,hb.rb,ha.r,hb.r,Nat.le_refl _⟩
  have s0:aT (aF W a ra k) (.int 0)=some a.d:=rfl
  have s1:aT (aF W a ra k) (.int 1)=some (.int (a.wd W)):=rfl
  have s2:aT (aF W a ra k) (.int 2)=some (.int ra):=rfl
  have s3:aT (aF W a ra k) (.int 3)=some (.int k):=rfl
  have t0:aT (aF W b rb k2) (.int 0)=some b.d:=rfl
  have t1:aT (aF W b rb k2) (.int 1)=some (.int (b.wd W)):=rfl
  have t2:aT (aF W b rb k2) (.int 2)=some (.int rb):=rfl
  have t3:aT (aF W b rb k2) (.int 3)=some (.int k2):=rfl
  have hra:=ha.r
  have hmul:du .Mult (.int ra) (.int rb)=some (.int (ra * rb:Nat)):=by
   rw[Int.natCast_mul];exact lF (by unfold lim;omega)
  have hadd:du .Add (.int (a.wd W)) (.int (b.wd W))=some (.int (a.wd W+b.wd W:Nat)):=by rw[Int.natCast_add];rfl
  have hadd2:du .Add (.int k) (.int k2)=some (.int (k+k2:Nat)):=by rw[Int.natCast_add];rfl
  refine aU (au (d:=.tup [sD "join",a.d,b.d,.tup (prs.map prT)]) (fr:=false) (ax (bx (ad (aE _ _ _) (ad (av (ae (aa i2)) (af _ _ _) s0) (ad (av (ae (aa i3)) (af _ _ _) t0) (ad (ay (ad (ae (aa i1)) (ad (av (ae (aa i2)) (af _ _ _) s1) (ad (av (ae (aa i3)) (af _ _ _) t1) (ai _ _)))) g3) (ai _ _))))) (Nat.le_of_ble_eq_true rfl)) rfl rfl)) ?_
  have j2:∀ v,Has (aD (settle (.tup [sD "join",a.d,b.d,.tup (prs.map prT)]) (ME.names (.tup [.str "join",.sub (.var "_law_one") (.int 0),.sub (.var "_law_two") (.int 0),.call "_law_pairs_by" [.var "_law_cell",.sub (.var "_law_one") (.int 1),.sub (.var "_law_two") (.int 1)]])) σ) "_law_query" v) "_law_one" (aF W a ra k):=fun _=>al rfl (aw i2)
  have j3:∀ v,Has (aD (settle (.tup [sD "join",a.d,b.d,.tup (prs.map prT)]) (ME.names (.tup [.str "join",.sub (.var "_law_one") (.int 0),.sub (.var "_law_two") (.int 0),.call "_law_pairs_by" [.var "_law_cell",.sub (.var "_law_one") (.int 1),.sub (.var "_law_two") (.int 1)]])) σ) "_law_query" v) "_law_two" (aF W b rb k2):=fun _=>al rfl (aw i3)
  exact bL (d:=.list [aF W (.join a b prs) (ra * rb) (k+k2)]) (fr:=true) (ax (cR (ad (bx (ad (ae (aa az)) (ad (ao (av (ae (aa (j2 _))) (af _ _ _) s1) (av (ae (aa (j3 _))) (af _ _ _) t1) hadd) (ad (ao (av (ae (aa (j2 _))) (af _ _ _) s2) (av (ae (aa (j3 _))) (af _ _ _) t2) hmul) (ad (ao (av (ae (aa (j2 _))) (af _ _ _) s3) (av (ae (aa (j3 _))) (af _ _ _) t3) hadd2) (ai _ _))))) (Nat.le_of_ble_eq_true rfl)) (ai _ _)) (Nat.le_of_ble_eq_true rfl)) rfl rfl) rfl (.inr ⟨_,_,_,A,rfl⟩)
 have c1:=lG (X:=X) (W:=W) (q:=q) (r:=r) (k:=k) B (n+1)
 have c2:=lG (X:=X) (W:=W) (q:=q2) (r:=r2) (k:=k2) B (n+1)
 have F1:TpA W R c (dp+1) (.first 6 q) (min 6 r) k:=⟨h.ok,h.wd,h.k1,h.k2,by omega,h.cp,h.pr,h.nar,Nat.succ_le_succ h.dp,r,h.rb,h.r,Nat.le_refl _⟩
 have F2:TpA W R c (dp+1) (.first 6 q2) (min 6 r2) k2:=⟨h2.ok,h2.wd,h2.k1,h2.k2,by omega,h2.cp,h2.pr,h2.nar,Nat.succ_le_succ h2.dp,r2,h2.rb,h2.r,Nat.le_refl _⟩
 have key:Rex (am P X (n+2)) dK.body [("_law_word",(false,sD "join")),("_law_cell",(false,.int z)),("_law_one",(false,aF W q r k)),("_law_two",(false,aF W q2 r2 k2))] fun d _=>jU W R (c+12) (dp+2) d:=by
  refine cD (k:=decide ((k:Int)+k2 > 24)) (x:=.bool (decide ((k:Int)+k2 > 24))) rfl rfl (fun _=>bL (d:=.list []) (fr:=true) rfl rfl (.inl rfl)) fun hk=>?_
  have hk:=of_decide_eq_false hk
  refine cD (k:=true) (x:=.bool true) rfl rfl (fun _=>?_) nofun
  have hmul:du .Mult (.int r) (.int r2)=some (.int (r * r2:Nat)):=by
   rw[Int.natCast_mul];exact lF (by unfold lim;omega)
  refine cD (k:=decide (((r * r2:Nat):Int) > 60)) (aA (ao (x:=.int r) (y:=.int r2) rfl rfl hmul) (af _ _ _) rfl) rfl (fun _=>?_) fun hm=>?_
  ·refine aU (au (aK (ad (d:=.int 8) rfl (ad (d:=.int 5) rfl (ad (d:=aF W q r k) rfl (ai _ _)))) c1)) ?_
   refine aU (au (aK (ad (d:=.int 8) rfl (ad (d:=.int 5) rfl (ad (d:=aF W q2 r2 k2) rfl (ai _ _)))) c2)) ?_
   have hle:min 6 r * min 6 r2≤60:=Nat.le_trans (Nat.mul_le_mul (Nat.min_le_left 6 r) (Nat.min_le_left 6 r2)) (by decide)
   refine mk (.first 6 q) (.first 6 q2) (min 6 r) (min 6 r2) F1 F2 rfl rfl hle (by omega) _ ?_ ?_ ?_ _
   ·exact al rfl (aw (al rfl (aw ⟨_,rfl⟩)))
   ·exact al rfl (aw az)
   ·exact az
  ·have hm:=of_decide_eq_false hm
   refine mk q q2 r r2 (h.up (Nat.le_refl _) (Nat.le_succ _)) (h2.up (Nat.le_refl _) (Nat.le_succ _)) rfl rfl (by omega) (by omega) _ ?_ ?_ ?_ _
   all_goals exact⟨_,rfl⟩
 obtain⟨d,fr,hm,hr⟩:=cA (X:=X) (args:=[sD "join",.int z,aF W q r k,aF W q2 r2 k2]) B.o2 rfl key
 exact⟨d,fr,hm,hr⟩
theorem jA(B:BN P)(n:Nat)(z:Int)(h:TpA W R c dp q r k)(h2:TpA W R c dp q2 r2 k2):∃ d fr,jU W R (c+12) (dp+2) d∧(am P X (n+3)).call "_law_of_two" [sD "both",.int z,aF W q r k,aF W q2 r2 k2]=some (d,fr):=by
 have hr:=h.r;have hr2:=h2.r
 have key:Rex (am P X (n+2)) dK.body [("_law_word",(false,sD "both")),("_law_cell",(false,.int z)),("_law_one",(false,aF W q r k)),("_law_two",(false,aF W q2 r2 k2))] fun d _=>jU W R (c+12) (dp+2) d:=by
  refine cD (k:=decide ((k:Int)+k2 > 24)) (x:=.bool (decide ((k:Int)+k2 > 24))) rfl rfl (fun _=>bL (d:=.list []) (fr:=true) rfl rfl (.inl rfl)) fun hk=>?_
  have hk:=of_decide_eq_false hk
  refine cD (k:=false) (x:=.bool false) rfl rfl nofun fun _=>?_
  refine cD (k:=true&&((q.wd W:Int) == (q2.wd W:Int)&&decide ((r:Int)+r2≤60))) (gK (k:=true) rfl fun _=>gK (k:=(q.wd W:Int) == (q2.wd W:Int)) (l:=decide ((r:Int)+r2≤60)) (aA (x:=.int (q.wd W)) (y:=.int (q2.wd W)) rfl rfl rfl) fun _=>bS (aA (x:=.int ((r:Int)+r2)) (y:=.int 60) rfl rfl rfl)) rfl (fun hc=>?_) fun _=>bL (d:=.list []) (fr:=true) rfl rfl (.inl rfl)
  rw[Bool.true_and,Bool.and_eq_true,beq_iff_eq,decide_eq_true_eq] at hc
  obtain⟨hw,hrr⟩:=hc
  have hw:q.wd W=q2.wd W:=by omega
  have A:TpA W R (c+12) (dp+2) (.both q q2) (r+r2) (k+k2):=by
   have h1:=h.wd;have h3:=h.k1;have h4:=h.cp;have h5:=h2.cp;have h6:=h.pr;have h7:=h2.pr;have h8:=h.dp;have h9:=h2.dp
   exact⟨⟨h.ok,h2.ok,hw⟩,by show q.wd W≤_;omega,by omega,by omega,by omega,by show max _ _≤_;omega,by show max _ _≤_;omega,⟨h.nar,h2.nar⟩,by show max _ _+1≤_;omega,r,r2,h.rb,h2.rb,h.r,h2.r,Nat.le_refl _⟩
  refine bL (d:=.list [aF W (.both q q2) (r+r2) (k+k2)]) (fr:=true) ?_ rfl (.inr ⟨_,_,_,A,rfl⟩)
  unfold aF
  rw[Int.natCast_add,Int.natCast_add]
  rfl
 obtain⟨d,fr,hm,hr⟩:=cA (X:=X) (args:=[sD "both",.int z,aF W q r k,aF W q2 r2 k2]) B.o2 rfl key
 exact⟨d,fr,hm,hr⟩
end

set_option maxRecDepth 100000
set_option maxHeartbeats 800000
noncomputable def fR:Fn:=⟨["_law_cell"],[
  .ite (.cmp .Eq (.bin .Mod (.bin .FloorDiv (.var "_law_cell") (.int 35)) (.int 6)) (.int 2)) [.ret (.bin .Mod (.bin .FloorDiv (.var "_law_cell") (.int 210)) (.int 13))] [],
  .ret (.sub (.lst [.int 2,.int 1,.int 3,.int 2,.int 0]) (.bin .Mod (.var "_law_cell") (.int 5)))]⟩
noncomputable def fV:Fn:=⟨["_law_cell"],[
  .ret (.sub (.lst [.int 5,.int 7,.int 4,.int 8,.int 6,.int 2,.int 0]) (.bin .Mod (.bin .FloorDiv (.var "_law_cell") (.int 5)) (.int 7)))]⟩
noncomputable def iN:Fn:=⟨["_law_script"],[
  .assign "_law_cell" (.call "_law_cell_at" [.var "_law_script",.int 0]),
  .assign "_law_words" (.lst [.str "one",.str "join",.str "table",.str "first",.str "sieve",.str "pick",.str "group",.str "order",.str "both",.str "once"]),
  .assign "_law_word" (.sub (.var "_law_words") (.bin .Mod (.bin .FloorDiv (.var "_law_cell") (.int 35)) (.int 10))),
  .assign "_law_rest" (.bin .FloorDiv (.var "_law_cell") (.int 350)),
  .ite (.cmp .Eq (.bin .Mod (.var "_law_rest") (.int 2)) (.int 0)) [.ret (.lst [.var "_law_word",.bin .Add (.str "Two ") (.call "_law_sign_by" [.bin .FloorDiv (.var "_law_rest") (.int 2)]),.str ""])] [],
  .assign "_law_at" (.bin .Mod (.bin .FloorDiv (.var "_law_rest") (.int 2)) (.bin .Add (.blt "len" [.var "_law_word"]) (.int 1))),
  .ret (.comp (.bin .Add (.bin .Add (.sl (.var "_law_word") .none (.var "_law_at")) (.call "_law_sign_by" [.bin .Add (.bin .FloorDiv (.var "_law_rest") (.int 18)) (.var "_law_k")])) (.sl (.var "_law_word") (.var "_law_at") .none)) "_law_k" (.blt "range" [.int 3]) [])]⟩
noncomputable def fY:Fn:=⟨["_law_script","_law_k"],[
  .assign "_law_shape" (.call "_law_cell_at" [.var "_law_script",.var "_law_k"]),
  .ret (.tup [.tup [.str "table",.sub (.call "_law_names" [.var "_law_script"]) (.var "_law_k")],.call "_law_wide_by" [.var "_law_shape"],.call "_law_rows_of" [.var "_law_shape"],.int 1])]⟩
noncomputable def gR:Fn:=⟨["_law_script"],[
  .assign "_law_names_here" (.call "_law_names" [.var "_law_script"]),
  .assign "_law_widths_here" (.dct [] []),
  .for_ "_law_k" (.blt "range" [.int 3]) [.setk "_law_widths_here" (.sub (.var "_law_names_here") (.var "_law_k")) (.call "_law_wide_by" [.call "_law_cell_at" [.var "_law_script",.var "_law_k"]])],
  .ret (.var "_law_widths_here")]⟩
noncomputable def fT:Fn:=⟨["_law_script"],[
  .assign "_law_top" (.call "_law_leaf" [.var "_law_script",.int 0]),
  .assign "_law_spare" (.call "_law_leaf" [.var "_law_script",.int 1]),
  .for_ "_law_k" (.blt "range" [.sub (.lst [.int 3,.int 5,.int 2,.int 9]) (.bin .Mod (.call "_law_cell_at" [.var "_law_script",.int 2]) (.int 4))]) [.ite (.cmp .GtE (.bin .Add (.int 6) (.bin .Mult (.int 2) (.var "_law_k"))) (.blt "len" [.var "_law_script"])) [.ret (.var "_law_top")] [],.assign "_law_word" (.sub (.lst [.int 0,.int 1,.int 8,.int 5,.int 4,.int 5,.int 6,.int 7,.int 8,.int 9,.int 9,.int 9,.int 12]) (.bin .Mod (.sub (.var "_law_script") (.bin .Add (.int 6) (.bin .Mult (.int 2) (.var "_law_k")))) (.int 13))),.assign "_law_cell" (.call "_law_cell_at" [.var "_law_script",.bin .Add (.int 7) (.bin .Mult (.int 2) (.var "_law_k"))]),.assign "_law_made" (.lst []),.ite (.cmp .Lt (.var "_law_word") (.int 9)) [.assign "_law_made" (.lst [.call "_law_around" [.var "_law_word",.var "_law_cell",.var "_law_top"]]),.ite (.bop .And [.bop .Or [.cmp .Eq (.var "_law_word") (.int 8),.cmp .Eq (.var "_law_word") (.int 5)],.cmp .Gt (.bin .Mod (.var "_law_cell") (.int 4)) (.int 0)]) [.assign "_law_made" (.lst [.call "_law_sieve_on" [.sub (.var "_law_made") (.int 0),.var "_law_cell"]])] []] [.ite (.cmp .Lt (.var "_law_word") (.int 12)) [.assign "_law_made" (.call "_law_of_two" [.str "join",.var "_law_cell",.sub (.lst [.var "_law_top",.var "_law_spare"]) (.bin .Mod (.bin .FloorDiv (.var "_law_cell") (.int 2)) (.int 2)),.sub (.lst [.var "_law_spare",.var "_law_top"]) (.bin .Mod (.bin .FloorDiv (.var "_law_cell") (.int 2)) (.int 2))]),.ite (.bop .And [.cmp .NotEq (.var "_law_made") (.lst []),.cmp .Gt (.bin .Mod (.var "_law_cell") (.int 4)) (.int 0)]) [.assign "_law_made" (.lst [.call "_law_sieve_on" [.sub (.var "_law_made") (.int 0),.var "_law_cell"]])] []] [.ite (.cmp .Eq (.bin .Mod (.var "_law_cell") (.int 3)) (.int 1)) [.assign "_law_made" (.call "_law_of_two" [.str "both",.var "_law_cell",.var "_law_top",.call "_law_around" [.sub (.lst [.int 0,.int 6,.int 7]) (.bin .Mod (.bin .FloorDiv (.var "_law_cell") (.int 3)) (.int 3)),.call "_law_mixed" [.var "_law_cell",.int 5],.var "_law_top"]])] []]],.ite (.cmp .Eq (.var "_law_made") (.lst [])) [.assign "_law_made" (.call "_law_of_two" [.str "both",.var "_law_cell",.var "_law_top",.var "_law_spare"])] [],.ite (.cmp .Eq (.var "_law_made") (.lst [])) [.assign "_law_made" (.lst [.var "_law_spare"]),.assign "_law_spare" (.var "_law_top")] [.ite (.cmp .GtE (.var "_law_word") (.int 9)) [.assign "_law_spare" (.call "_law_leaf" [.var "_law_script",.bin .Mod (.bin .FloorDiv (.var "_law_cell") (.int 36)) (.int 3)])] []],.assign "_law_top" (.sub (.var "_law_made") (.int 0))],
  .ret (.var "_law_top")]⟩
noncomputable def iP:Fn:=⟨["_law_script"],[
  .assign "_law_top" (.call "_law_stepped" [.var "_law_script"]),
  .assign "_law_last" (.call "_law_cell_at" [.var "_law_script",.int 5]),
  .ite (.cmp .Eq (.bin .Mod (.bin .FloorDiv (.var "_law_last") (.int 3)) (.int 3)) (.int 1)) [.assign "_law_top" (.call "_law_around" [.int 8,.bin .Mod (.bin .FloorDiv (.var "_law_last") (.int 9)) (.int 3),.var "_law_top"])] [],
  .ite (.cmp .Eq (.bin .Mod (.bin .FloorDiv (.var "_law_last") (.int 3)) (.int 3)) (.int 2)) [.assign "_law_top" (.call "_law_around" [.int 5,.bin .Add (.bin .Mult (.bin .FloorDiv (.call "_law_mixed" [.var "_law_last",.int 4]) (.int 4)) (.int 4)) (.int 1),.var "_law_top"])] [],
  .ite (.cmp .Gt (.bin .Mod (.var "_law_last") (.int 3)) (.int 0)) [.assign "_law_top" (.call "_law_around" [.int 0,.bin .Add (.bin .Mult (.bin .FloorDiv (.call "_law_mixed" [.var "_law_last",.int 9]) (.int 4)) (.int 4)) (.int 2),.var "_law_top"])] [],
  .assign "_law_cell" (.bin .FloorDiv (.call "_law_cell_at" [.var "_law_script",.int 1]) (.int 35)),
  .assign "_law_many_here" (.int 0),
  .ite (.cmp .Eq (.bin .Mod (.var "_law_cell") (.int 8)) (.int 1)) [.assign "_law_many_here" (.bin .Mod (.bin .FloorDiv (.var "_law_cell") (.int 8)) (.int 8))] [],
  .ite (.cmp .Eq (.bin .Mod (.var "_law_cell") (.int 32)) (.int 5)) [.assign "_law_top" (.call "_law_leaf" [.var "_law_script",.int 0]),.assign "_law_many_here" (.int 38)] [],
  .for_ "_law_k" (.blt "range" [.var "_law_many_here"]) [.assign "_law_top" (.call "_law_around" [.bin .Mod (.call "_law_mixed" [.var "_law_cell",.var "_law_k"]) (.int 9),.call "_law_mixed" [.var "_law_cell",.bin .Add (.int 50) (.var "_law_k")],.var "_law_top"])],
  .ret (.var "_law_top")]⟩
structure BE(P:List (String×Fn)):Prop extends BN P where
 wb:P.lookup "_law_wide_by"=some fR
 ro:P.lookup "_law_rows_of"=some fV
 nm:P.lookup "_law_names"=some iN
 lf:P.lookup "_law_leaf"=some fY
 ws:P.lookup "_law_widths"=some gR
 st:P.lookup "_law_stepped"=some fT
 bu:P.lookup "_law_built"=some iP
noncomputable def jZ:List String:=["one","join","table","first","sieve","pick","group","order","both","once"]
theorem o0:∀ m<94,bC bX m≠bC bX ((m+1) % 94)∧bC bX m≠bC bX ((m+2) % 94):=by decide +kernel
theorem oP(x y:Str):(x++y).cps.toList=x.cps.toList++y.cps.toList:=Array.toList_append
theorem str_ext{x y:Str}(h:x.cps.toList=y.cps.toList):x=y:=by
 obtain⟨⟨x⟩⟩:=x;obtain⟨⟨y⟩⟩:=y
 have h:x=y:=h
 rw[h]
theorem app_mid{U V x y:Str}(h:U++x++V=U++y++V):x=y:=by
 have h:=congrArg (fun s:Str=>s.cps.toList) h
 simp only[oP] at h
 exact str_ext (List.append_cancel_left (List.append_cancel_right h))
theorem two_head:∀ s∈jZ,(Str.ofString s).cps.toList.head?≠some 84:=by decide +kernel
theorem two_list:(Str.ofString "Two ").cps.toList=[84,119,111,32]:=by decide +kernel
theorem empty_len:(Str.ofString "").length=0:=by decide +kernel
theorem w10_ne:∀ s∈jZ,s≠"":=by decide
theorem w10_len:∀ s∈jZ,(Str.ofString s).length≤8:=by decide +kernel
theorem md94{y:Int}{m:Nat}(k:Nat)(h:y % 94=m):((y+(k:Int)) % 94).toNat=(m+k) % 94:=by
 rw[← Int.emod_add_emod,h,← Int.natCast_add];rfl
section
variable {P:List (String×Fn)} {X:CF}
theorem names_eq(B:BE P)(ns:List Int):∃ a b c:Str,(a≠b∧a≠c∧b≠c)∧∀ n,(am P X (n+2)).call "_law_names" [.list (ns.map .int)]=some (.list [.str a,.str b,.str c],true):=by
 have c0:∀ n,(am P X (n+1)).call "_law_cell_at" [.list (ns.map .int),.int 0]=some (.int (ns.getD 0 0),false):=fun n=>cZ (X:=X) B.toBG n ns 0
 generalize ns.getD 0 0=z at *
 generalize D.list (ns.map .int)=S at *
 obtain⟨d,⟨s,hs,rfl⟩,hd⟩:=cm (l:=[.str (Str.ofString "one"),.str (Str.ofString "join"),.str (Str.ofString "table"),.str (Str.ofString "first"),.str (Str.ofString "sieve"),.str (Str.ofString "pick"),.str (Str.ofString "group"),.str (Str.ofString "order"),.str (Str.ofString "both"),.str (Str.ofString "once")]) (by decide) (z / 35) (R:=fun d=>∃ s,s∈jZ∧d=.str (Str.ofString s)) (by
  intro d hd
  simp only[List.mem_cons,List.not_mem_nil,or_false] at hd
  rcases hd with rfl | rfl | rfl | rfl | rfl | rfl | rfl | rfl | rfl | rfl <;> exact⟨_,by decide,rfl⟩)
 have hd:aT (.list [.str (Str.ofString "one"),.str (Str.ofString "join"),.str (Str.ofString "table"),.str (Str.ofString "first"),.str (Str.ofString "sieve"),.str (Str.ofString "pick"),.str (Str.ofString "group"),.str (Str.ofString "order"),.str (Str.ofString "both"),.str (Str.ofString "once")]) (.int (z / 35 % 10))=some (.str (Str.ofString s)):=hd
 have hbig:100≤big:=by decide
 have hl:=w10_len s hs
 cases hm:(z / 350 % 2 == 0) with
 | true=>
  have g:=fun n=>mL (X:=X) B.toBG n (z / 350 / 2)
  have k0:=jv (u:=Str.ofString "Two ") (v:=bC bX (z / 350 / 2 % 94).toNat) (by have h1:(bC bX (z / 350 / 2 % 94).toNat).length=1:=rfl;have h2:(Str.ofString "Two ").length=4:=(by decide +kernel);omega)
  refine⟨Str.ofString s,Str.ofString "Two "++bC bX (z / 350 / 2 % 94).toNat,Str.ofString "",⟨fun e=>?_,fun e=>w10_ne s hs (cE e),fun e=>?_⟩,fun n=>aB B.nm rfl ?_⟩
  ·refine two_head s hs ?_
   rw[e,oP,two_list];rfl
  ·have:=congrArg Str.length e
   rw[ej,empty_len] at this
   have h1:(bC bX (z / 350 / 2 % 94).toNat).length=1:=rfl
   omega
  ·have c1:=c0 n;have g1:=g n
   exact aC (au (aK (ad (ae rfl) (ad (af _ _ _) (ai _ _))) c1)) (aC (au (ax (cR (ad (aE _ _ _) (ad (aE _ _ _) (ad (aE _ _ _) (ad (aE _ _ _) (ad (aE _ _ _) (ad (aE _ _ _) (ad (aE _ _ _) (ad (aE _ _ _) (ad (aE _ _ _) (ad (aE _ _ _) (ai _ _))))))))))) (of_decide_eq_true (id (Eq.refl true)))) rfl rfl)) (aC (au (ax (av (ae (aa az)) (ao (ao (ae (aa (al rfl (aw az)))) (af _ _ _) (aS (of_decide_eq_true (id (Eq.refl true))))) (af _ _ _) (aI (of_decide_eq_true (id (Eq.refl true))))) hd) rfl rfl)) (aC (au (ax (ao (ae (aa (al rfl (aw (al rfl (aw az)))))) (af _ _ _) (aS (of_decide_eq_true (id (Eq.refl true))))) rfl rfl)) (bb (aA (ao (ae (aa az)) (af _ _ _) (aI (of_decide_eq_true (id (Eq.refl true))))) (af _ _ _) rfl) rfl (fun hh=>aP (ax (cR (ad (ae (aa (al rfl (aw az)))) (ad (ao (aE _ _ _) (ay (ad (ao (ae (aa az)) (af _ _ _) (aS (of_decide_eq_true (id (Eq.refl true))))) (ai _ _)) g1) k0) (ad (aE _ _ _) (ai _ _)))) (Nat.le_of_ble_eq_true rfl)) rfl rfl) rfl) fun hh=>kG hm hh))))
 | false=>
  have hb:(Str.ofString s).length≤big:=by omega
  have l1:=len_s hb
  have w3:(0:Int)<((Str.ofString s).length:Int)+1:=by omega
  obtain⟨U,hU,w4⟩:=oZ (Str.ofString s) (z / 350 / 2 % (((Str.ofString s).length:Int)+1)) hb
  obtain⟨V,hV,w5⟩:=rA (Str.ofString s) (z / 350 / 2 % (((Str.ofString s).length:Int)+1)) hb
  have hne:∀ i j:Nat,bC bX i≠bC bX j→U++bC bX i++V≠U++bC bX j++V:=fun i j h e=>h (app_mid e)
  obtain⟨m,em,hm94⟩:=bv (z / 350 / 18) (k:=94) (by decide)
  have em:z / 350 / 18 % 94=(m:Int):=em
  have e0:((z / 350 / 18+(0:Nat)) % 94).toNat=m:=(md94 0 em).trans (Nat.mod_eq_of_lt hm94)
  have e1:((z / 350 / 18+(1:Nat)) % 94).toNat=(m+1) % 94:=md94 1 em
  have e2:((z / 350 / 18+(2:Nat)) % 94).toNat=(m+2) % 94:=md94 2 em
  have e3:(m+2) % 94=((m+1) % 94+1) % 94:=(Nat.mod_add_mod (m+1) 94 1).symm
  refine⟨U++bC bX ((z / 350 / 18+(0:Nat)) % 94).toNat++V,U++bC bX ((z / 350 / 18+(1:Nat)) % 94).toNat++V,U++bC bX ((z / 350 / 18+(2:Nat)) % 94).toNat++V,⟨hne _ _ ?_,hne _ _ ?_,hne _ _ ?_⟩,fun n=>aB B.nm rfl ?_⟩
  ·rw[e0,e1];exact (o0 m hm94).1
  ·rw[e0,e2];exact (o0 m hm94).2
  ·rw[e1,e2,e3];exact (o0 _ (Nat.mod_lt _ (by decide))).1
  ·have c1:=c0 n
   have hcomp:∀ σ:St,Has σ "_law_word" (.str (Str.ofString s))→Has σ "_law_at" (.int (z / 350 / 2 % (((Str.ofString s).length:Int)+1)))→Has σ "_law_rest" (.int (z / 350))→evE (am P X (n+1)) (vis σ) (.comp (.bin .Add (.bin .Add (.sl (.var "_law_word") .none (.var "_law_at")) (.call "_law_sign_by" [.bin .Add (.bin .FloorDiv (.var "_law_rest") (.int 18)) (.var "_law_k")])) (.sl (.var "_law_word") (.var "_law_at") .none)) "_law_k" (.blt "range" [.int 3]) [])=some (.list ((List.range 3).map fun (i:Nat)=>D.str (U++bC bX ((z / 350 / 18+(i:Int)) % 94).toNat++V))):=by
    intro σ i1 i2 i3
    refine gY (x:=.rng 0 3) rfl (d7 3) (by decide) (lm _ _ _ _ fun i _=>gG ?_)
    have g1:=mL (X:=X) B.toBG n (z / 350 / 18+(i:Int))
    have hc:(bC bX ((z / 350 / 18+(i:Int)) % 94).toNat).length=1:=rfl
    have w6:=jv (u:=U) (v:=bC bX ((z / 350 / 18+(i:Int)) % 94).toNat) (by omega)
    have w7:=jv (u:=U++bC bX ((z / 350 / 18+(i:Int)) % 94).toNat) (v:=V) (by rw[ej];omega)
    exact ao (ao (qU (ae (bP rfl (aa i1))) (jq _ _) (ae (bP rfl (aa i2))) w4) (ay (ad (ao (ao (ae (bP rfl (aa i3))) (af _ _ _) (aS (of_decide_eq_true (id (Eq.refl true))))) (ae cT) bY) (ai _ _)) g1) w6) (qU (ae (bP rfl (aa i1))) (ae (bP rfl (aa i2))) (jq _ _) w5) w7
   refine aC (au (aK (ad (d:=S) rfl (ad (d:=.int 0) rfl (ai _ _))) c1)) ?_
   refine aC (au (d:=.list [.str (Str.ofString "one"),.str (Str.ofString "join"),.str (Str.ofString "table"),.str (Str.ofString "first"),.str (Str.ofString "sieve"),.str (Str.ofString "pick"),.str (Str.ofString "group"),.str (Str.ofString "order"),.str (Str.ofString "both"),.str (Str.ofString "once")]) (fr:=true) rfl) ?_
   refine aC (au (d:=.str (Str.ofString s)) (fr:=false) (ax (av (ae (aa az)) (ao (ao (ae (aa (al rfl (aw az)))) (af _ _ _) (aS (of_decide_eq_true (id (Eq.refl true))))) (af _ _ _) (aI (of_decide_eq_true (id (Eq.refl true))))) hd) rfl rfl)) ?_
   refine aC (au (d:=.int (z / 350)) (fr:=false) (ax (ao (ae (aa (al rfl (aw (al rfl (aw az)))))) (af _ _ _) (aS (of_decide_eq_true (id (Eq.refl true))))) rfl rfl)) ?_
   refine bb (k:=false) (x:=.bool false) (by rw[← hm];exact aA (ao (ae (aa az)) (af _ _ _) (aI (of_decide_eq_true (id (Eq.refl true))))) (af _ _ _) rfl) rfl nofun fun _=>?_
   refine aC (au (d:=.int (z / 350 / 2 % (((Str.ofString s).length:Int)+1))) (fr:=false) (ax (ao (ao (ae (aa az)) (af _ _ _) (aS (of_decide_eq_true (id (Eq.refl true))))) (ao (cn (ad (ae (aa (al rfl (aw az)))) (ai _ _)) l1) (af _ _ _) bY) (aI w3)) rfl rfl)) ?_
   exact aP (ax (hcomp _ (al rfl (aw (al rfl (aw az)))) (az) (al rfl (aw az))) rfl rfl) rfl
end

set_option maxRecDepth 100000
set_option maxHeartbeats 800000
noncomputable def aJ(c:Int):Nat:=if (c / 35 % 6 == 2)=true then (c / 210 % 13).toNat else [2,1,3,2,0].getD (c % 5).toNat 0
theorem pC(c:Int):aJ c≤12:=by
 unfold aJ
 split
 ·omega
 ·obtain⟨m,e,hm⟩:=bv c (k:=5) (by decide)
  have e:c % 5=m:=e
  rw[e,Int.toNat_natCast]
  exact (by decide:∀ m<5,[2,1,3,2,0].getD m 0≤12) m hm
section
variable {P:List (String×Fn)} {X:CF}
theorem iy(B:BE P)(n:Nat)(c:Int):(am P X (n+1)).call "_law_wide_by" [.int c]=some (.int (aJ c),false):=by
 refine aB B.wb rfl ?_
 unfold aJ
 cases h:(c / 35 % 6 == 2) with
 | true=>
  rw[if_pos rfl]
  have e:((c / 210 % 13).toNat:Int)=c / 210 % 13:=by omega
  rw[e]
  exact bb (aA (ao (ao (ae rfl) (af _ _ _) (aS (of_decide_eq_true (id (Eq.refl true))))) (af _ _ _) (aI (of_decide_eq_true (id (Eq.refl true))))) (af _ _ _) rfl) rfl (fun hh=>aP (ax (ao (ao (ae rfl) (af _ _ _) (aS (of_decide_eq_true (id (Eq.refl true))))) (af _ _ _) (aI (of_decide_eq_true (id (Eq.refl true))))) rfl rfl) rfl) fun hh=>kG h hh
 | false=>
  rw[if_neg Bool.false_ne_true]
  obtain⟨m,e,hm⟩:=bv c (k:=5) (by decide)
  have e:c % 5=m:=e
  have q:aT (.list [.int 2,.int 1,.int 3,.int 2,.int 0]) (.int (c % 5))=some (.int ([2,1,3,2,0].getD (c % 5).toNat 0:Nat)):=by
   rw[e,Int.toNat_natCast]
   refine lZ (by simpa using hm) ?_
   match m,hm with
   | 0,_=>rfl
   | 1,_=>rfl
   | 2,_=>rfl
   | 3,_=>rfl
   | 4,_=>rfl
  exact bb (aA (ao (ao (ae rfl) (af _ _ _) (aS (of_decide_eq_true (id (Eq.refl true))))) (af _ _ _) (aI (of_decide_eq_true (id (Eq.refl true))))) (af _ _ _) rfl) rfl (fun hh=>kG hh h) fun hh=>aP (ax (av (cR (ad (af _ _ _) (ad (af _ _ _) (ad (af _ _ _) (ad (af _ _ _) (ad (af _ _ _) (ai _ _)))))) (of_decide_eq_true (id (Eq.refl true)))) (ao (ae rfl) (af _ _ _) (aI (of_decide_eq_true (id (Eq.refl true))))) q) rfl rfl) rfl
noncomputable def cz(c:Int):Nat:=match aT (.list [.int 5,.int 7,.int 4,.int 8,.int 6,.int 2,.int 0]) (.int (c / 5 % 7)) with
 | some (.int m)=>m.toNat
 | _=>0
theorem j5(B:BE P)(n:Nat)(c:Int):cz c≤8∧(am P X (n+1)).call "_law_rows_of" [.int c]=some (.int (cz c),false):=by
 obtain⟨d,⟨m,rfl,hm⟩,q⟩:=cm (l:=[.int 5,.int 7,.int 4,.int 8,.int 6,.int 2,.int 0]) (by decide) (c / 5) (R:=fun d=>∃ m:Nat,d=.int m∧m≤8) (by
  intro d hd
  simp only[List.mem_cons,List.not_mem_nil,or_false] at hd
  rcases hd with rfl | rfl | rfl | rfl | rfl | rfl | rfl <;> first | exact⟨5,rfl,by decide⟩ | exact⟨7,rfl,by decide⟩ | exact⟨4,rfl,by decide⟩ | exact⟨8,rfl,by decide⟩ | exact⟨6,rfl,by decide⟩ | exact⟨2,rfl,by decide⟩ | exact⟨0,rfl,by decide⟩)
 have q:aT (.list [.int 5,.int 7,.int 4,.int 8,.int 6,.int 2,.int 0]) (.int (c / 5 % 7))=some (.int m):=q
 have e:cz c=m:=by unfold cz;rw[q];exact Int.toNat_natCast m
 rw[e]
 refine⟨hm,aB B.ro rfl ?_⟩
 exact aP (ax (av (cR (ad (af _ _ _) (ad (af _ _ _) (ad (af _ _ _) (ad (af _ _ _) (ad (af _ _ _) (ad (af _ _ _) (ad (af _ _ _) (ai _ _)))))))) (of_decide_eq_true (id (Eq.refl true)))) (ao (ao (ae rfl) (af _ _ _) (aS (of_decide_eq_true (id (Eq.refl true))))) (af _ _ _) (aI (of_decide_eq_true (id (Eq.refl true))))) q) rfl rfl) rfl
noncomputable def W3(a b c:Str)(x y z:Nat):Wd:=[(a,x),(b,y),(c,z)]
theorem kt{a b:Str}(h:a≠b):aQ (.str a) (.str b)=false:=by
 show (a == b)=false
 rw[beq_eq_false_iff_ne];exact h
theorem widths_eq(B:BE P)(n:Nat)(ns:List Int){a b c:Str}(hab:a≠b)(hac:a≠c)(hbc:b≠c)(hn:(am P X (n+2)).call "_law_names" [.list (ns.map .int)]=some (.list [.str a,.str b,.str c],true)) :
  (am P X (n+3)).call "_law_widths" [.list (ns.map .int)]=some ((W3 a b c (aJ (ns.getD 0 0)) (aJ (ns.getD 1 0)) (aJ (ns.getD 2 0))).d,true):=by
 have c0:(am P X (n+2)).call "_law_cell_at" [.list (ns.map .int),.int 0]=some (.int (ns.getD 0 0),false):=cZ (X:=X) B.toBG (n+1) ns 0
 have c1:(am P X (n+2)).call "_law_cell_at" [.list (ns.map .int),.int 1]=some (.int (ns.getD 1 0),false):=cZ (X:=X) B.toBG (n+1) ns 1
 have c2:(am P X (n+2)).call "_law_cell_at" [.list (ns.map .int),.int 2]=some (.int (ns.getD 2 0),false):=cZ (X:=X) B.toBG (n+1) ns 2
 have w0:=iy (X:=X) B (n+1) (ns.getD 0 0)
 have w1:=iy (X:=X) B (n+1) (ns.getD 1 0)
 have w2:=iy (X:=X) B (n+1) (ns.getD 2 0)
 generalize ns.getD 0 0=z0 at *
 generalize ns.getD 1 0=z1 at *
 generalize ns.getD 2 0=z2 at *
 generalize D.list (ns.map .int)=S at *
 have nx:∀ (σ:St) (i:Int) (w z:Int) (nm:Str) (ks vs:List D),Has σ "_law_script" S→Has σ "_law_names_here" (.list [.str a,.str b,.str c])→cG σ "_law_widths_here" (.dict ks vs)→cB (.str nm) ks=true→ks.length<4 →
   aT (.list [.str a,.str b,.str c]) (.int i)=some (.str nm)→(am P X (n+2)).call "_law_cell_at" [S,.int i]=some (.int z,false)→(am P X (n+2)).call "_law_wide_by" [.int z]=some (.int w,false) →
   ∃ σ',(Has σ' "_law_script" S∧Has σ' "_law_names_here" (.list [.str a,.str b,.str c])∧cG σ' "_law_widths_here" (.dict (cw ks vs (.str nm) (.int w)).1 (cw ks vs (.str nm) (.int w)).2))∧bn (am P X (n+2)) [.setk "_law_widths_here" (.sub (.var "_law_names_here") (.var "_law_k")) (.call "_law_wide_by" [.call "_law_cell_at" [.var "_law_script",.var "_law_k"]])] (aD σ "_law_k" (false,.int i))=some (.next,σ'):=by
  intro σ i w z nm ks vs i1 i2 i3 hk hl hs hc hw
  have hb:4≤big:=by decide
  obtain⟨fl,σ',⟨rfl,q⟩,e⟩:Out (am P X (n+2)) [.setk "_law_widths_here" (.sub (.var "_law_names_here") (.var "_law_k")) (.call "_law_wide_by" [.call "_law_cell_at" [.var "_law_script",.var "_law_k"]])] (aD σ "_law_k" (false,.int i)) fun fl σ'=>fl=.next∧(Has σ' "_law_script" S∧Has σ' "_law_names_here" (.list [.str a,.str b,.str c])∧cG σ' "_law_widths_here" (.dict (cw ks vs (.str nm) (.int w)).1 (cw ks vs (.str nm) (.int w)).2)):=by
   refine aN (pe (d:=.int w) (dk:=.str nm) (ks:=ks) (vs:=vs) (ay (ad (ay (ad (ae (aa (al rfl i1))) (ad (ae (aa az)) (ai _ _))) hc) (ai _ _)) hw) (av (ae (aa (al rfl i2))) (ae (aa az)) hs) (?_:cG _ _ _) (by rw[hk,decide_eq_true (by omega)];rfl)) (cq ⟨rfl,?_,?_,?_⟩)
   ·exact fH rfl (fH rfl (d9 rfl i3))
   ·exact al rfl (aw (aw (al rfl i1)))
   ·exact al rfl (aw (aw (al rfl i2)))
   ·exact eO
  exact⟨σ',q,e⟩
 refine aB B.ws rfl ?_
 refine aC (au (aK (ad (d:=S) rfl (ai _ _)) hn)) ?_
 refine aC (au (d:=.dict [] []) (fr:=true) rfl) ?_
 generalize hσ:aD (settle (.dict [] []) (ME.names (.dct [] [])) (aD (settle (.list [.str a,.str b,.str c]) (ME.names (.call "_law_names" [.var "_law_script"])) _) "_law_names_here" (true,.list [.str a,.str b,.str c]))) "_law_widths_here" (true,D.dict [] [])=σ
 have i1:Has σ "_law_script" S:=by rw[← hσ];exact⟨_,rfl⟩
 have i2:Has σ "_law_names_here" (.list [.str a,.str b,.str c]):=by rw[← hσ];exact⟨_,rfl⟩
 have i3:cG σ "_law_widths_here" (.dict [] []):=by rw[← hσ];exact eO
 obtain⟨σ1,⟨j1,j2,j3⟩,e1⟩:=nx (freeze (ME.names (.blt "range" [.int 3])) σ) 0 (aJ z0) z0 a [] [] (cP i1) (cP i2) (lL rfl i3) rfl (Nat.le_of_ble_eq_true rfl) rfl c0 w0
 have k1:cG σ1 "_law_widths_here" (.dict [.str a] [.int (aJ z0)]):=j3
 obtain⟨σ2,⟨l1,l2,l3⟩,e2⟩:=nx σ1 1 (aJ z1) z1 b [.str a] [.int (aJ z0)] j1 j2 k1 rfl (Nat.le_of_ble_eq_true rfl) rfl c1 w1
 have k2:cG σ2 "_law_widths_here" (.dict [.str a,.str b] [.int (aJ z0),.int (aJ z1)]):=by
  simp only[cw,kt hab,Bool.false_eq_true,if_false] at l3
  exact l3
 obtain⟨σ3,⟨m1,m2,m3⟩,e3⟩:=nx σ2 2 (aJ z2) z2 c [.str a,.str b] [.int (aJ z0),.int (aJ z1)] l1 l2 k2 rfl (Nat.le_of_ble_eq_true rfl) rfl c2 w2
 have k3:cG σ3 "_law_widths_here" (.dict [.str a,.str b,.str c] [.int (aJ z0),.int (aJ z1),.int (aJ z2)]):=by
  simp only[cw,kt hac,kt hbc,Bool.false_eq_true,if_false] at m3
  exact m3
 refine fu (x:=.rng 0 3) (its:=[.int 0,.int 1,.int 2]) (σ':=σ3) rfl rfl ?_ (dT k3)
 rw[bK,e1];show bU _ _ _=_;rw[bK,e2];show bU _ _ _=_;rw[bK,e3];rfl
theorem leaf_eq(B:BE P)(n:Nat)(ns:List Int){a b c:Str}(hab:a≠b)(hac:a≠c)(hbc:b≠c)(hn:(am P X (n+2)).call "_law_names" [.list (ns.map .int)]=some (.list [.str a,.str b,.str c],true))(k:Nat)(hk:k<3) :
  ∃ q r,TpA (W3 a b c (aJ (ns.getD 0 0)) (aJ (ns.getD 1 0)) (aJ (ns.getD 2 0))) (W3 a b c (cz (ns.getD 0 0)) (cz (ns.getD 1 0)) (cz (ns.getD 2 0))) 0 0 q r 1∧(am P X (n+3)).call "_law_leaf" [.list (ns.map .int),.int k]=some (aF (W3 a b c (aJ (ns.getD 0 0)) (aJ (ns.getD 1 0)) (aJ (ns.getD 2 0))) q r 1,false):=by
 obtain⟨nm,h1,h2,h3⟩:∃ nm,aT (.list [.str a,.str b,.str c]) (.int k)=some (.str nm)∧(W3 a b c (aJ (ns.getD 0 0)) (aJ (ns.getD 1 0)) (aJ (ns.getD 2 0))).lookup nm=some (aJ (ns.getD k 0))∧(W3 a b c (cz (ns.getD 0 0)) (cz (ns.getD 1 0)) (cz (ns.getD 2 0))).lookup nm=some (cz (ns.getD k 0)):=by
  have e1:∀ x:Str,(x == x)=true:=fun x=>beq_self_eq_true x
  have e2:(b == a)=false:=by rw[beq_eq_false_iff_ne];exact hab.symm
  have e3:(c == a)=false:=by rw[beq_eq_false_iff_ne];exact hac.symm
  have e4:(c == b)=false:=by rw[beq_eq_false_iff_ne];exact hbc.symm
  have f0:∀ x y z,(W3 a b c x y z).lookup a=some x:=fun x y z=>by unfold W3;rw[List.lookup_cons,e1]
  have f1:∀ x y z,(W3 a b c x y z).lookup b=some y:=fun x y z=>by unfold W3;rw[List.lookup_cons,e2];show List.lookup _ _=_;rw[List.lookup_cons,e1]
  have f2:∀ x y z,(W3 a b c x y z).lookup c=some z:=fun x y z=>by unfold W3;rw[List.lookup_cons,e3];show List.lookup _ _=_;rw[List.lookup_cons,e4];show List.lookup _ _=_;rw[List.lookup_cons,e1]
  match k,hk with
  | 0,_=>exact⟨a,rfl,f0 _ _ _,f0 _ _ _⟩
  | 1,_=>exact⟨b,rfl,f1 _ _ _,f1 _ _ _⟩
  | 2,_=>exact⟨c,rfl,f2 _ _ _,f2 _ _ _⟩
 generalize W3 a b c (aJ (ns.getD 0 0)) (aJ (ns.getD 1 0)) (aJ (ns.getD 2 0))=W at *
 generalize W3 a b c (cz (ns.getD 0 0)) (cz (ns.getD 1 0)) (cz (ns.getD 2 0))=R at *
 have c0:=cZ (X:=X) B.toBG (n+1) ns k
 have w0:=iy (X:=X) B (n+1) (ns.getD k 0)
 have hw:=pC (ns.getD k 0)
 have hr:=(j5 (X:=X) B (n+1) (ns.getD k 0)).1
 have r0:=(j5 (X:=X) B (n+1) (ns.getD k 0)).2
 generalize cz (ns.getD k 0)=r at *
 generalize ns.getD k 0=z at *
 have hwd:(Q.table nm).wd W=aJ z:=by show (W.lookup nm).getD 0=_;rw[h2];rfl
 refine⟨.table nm,r,⟨⟨_,h2⟩,by rw[hwd];omega,by decide,by decide,by omega,Nat.le_refl _,Nat.zero_le _,trivial,Nat.le_refl _,r,h3,Nat.le_refl _⟩,?_⟩
 unfold aF
 rw[hwd]
 show _=some (D.tup [.tup [.str (Str.ofString "table"),.str nm],.int (aJ z),.int r,.int 1],false)
 generalize D.list (ns.map .int)=S at *
 refine aB B.lf rfl ?_
 show Run _ fY.body [("_law_script",(false,S)),("_law_k",(false,.int k))] _ _
 exact aC (au (aK (ad (ae (aa ag)) (ad (ae (aa (aj rfl ag))) (ai _ _))) c0)) (aP (ax (bx (ad (bx (ad (aE _ _ _) (ad (av (ay (ad (ae (aa (al rfl (aw ag)))) (ai _ _)) hn) (ae (aa (al rfl (aw (aj rfl ag))))) h1) (ai _ _))) (Nat.le_of_ble_eq_true rfl)) (ad (ay (ad (ae (aa az)) (ai _ _)) w0) (ad (ay (ad (ae (aa az)) (ai _ _)) r0) (ad (af _ _ _) (ai _ _))))) (Nat.le_of_ble_eq_true rfl)) rfl rfl) rfl)
end

set_option maxRecDepth 100000
set_option maxHeartbeats 800000
theorem o_retv{cf:CF}{σ:St}{z:String}{d:D}{fr:Bool}{r:List MS}{R:Fl→St→Prop}(h:σ.lookup z=some (fr,d))(q:R (.ret fr d) σ):Out cf (.ret (.var z)::r) σ R:=⟨_,_,q,pB (x_rx h)⟩
theorem kI{cf:CF}{body:List MS}{z:String}(I:Nat→St→Prop)(R:D→Bool→Prop)(N:Nat):∀ (its:List D) (k:Nat) (σ:St),k+its.length≤N→I k σ→(∀ k it σ,k<N→it∈its→I k σ→Out cf body (aD σ z (false,it)) fun fl σ'=>(fl=.next∧I (k+1) σ')∨∃ d fr,fl=.ret fr d∧R d fr) →
  ∃ σ',(I (k+its.length) σ'∧bU (cH cf body z) its σ=some (.next,σ'))∨∃ d fr,R d fr∧bU (cH cf body z) its σ=some (.ret fr d,σ')
 | [],k,σ,_,h,_=>⟨σ,.inl ⟨h,rfl⟩⟩
 | it::r,k,σ,hN,h,hs=>by
  rw[List.length_cons] at hN
  obtain⟨fl,σ₁,q,e⟩:=hs k it σ (by omega) (.head _) h
  rcases q with⟨rfl,i1⟩ | ⟨d,fr,rfl,q⟩
  ·obtain⟨σ₂,c⟩:=kI I R N r (k+1) σ₁ (by omega) i1 fun k i s hk hi=>hs k i s hk (.tail _ hi)
   refine⟨σ₂,?_⟩
   rw[bK,e,List.length_cons,Nat.add_comm r.length 1,← Nat.add_assoc]
   exact c
  ·exact⟨σ₁,.inr ⟨d,fr,q,by rw[bK,e];rfl⟩⟩
noncomputable def pE:List MS:=[.ite (.cmp .Eq (.var "_law_made") (.lst [])) [.assign "_law_made" (.lst [.var "_law_spare"]),.assign "_law_spare" (.var "_law_top")] [.ite (.cmp .GtE (.var "_law_word") (.int 9)) [.assign "_law_spare" (.call "_law_leaf" [.var "_law_script",.bin .Mod (.bin .FloorDiv (.var "_law_cell") (.int 36)) (.int 3)])] []],.assign "_law_top" (.sub (.var "_law_made") (.int 0))]
noncomputable def mK:List MS:=.ite (.cmp .Eq (.var "_law_made") (.lst [])) [.assign "_law_made" (.call "_law_of_two" [.str "both",.var "_law_cell",.var "_law_top",.var "_law_spare"])] []::pE
noncomputable def nF:List MS:=[.ite (.cmp .GtE (.bin .Add (.int 6) (.bin .Mult (.int 2) (.var "_law_k"))) (.blt "len" [.var "_law_script"])) [.ret (.var "_law_top")] [],.assign "_law_word" (.sub (.lst [.int 0,.int 1,.int 8,.int 5,.int 4,.int 5,.int 6,.int 7,.int 8,.int 9,.int 9,.int 9,.int 12]) (.bin .Mod (.sub (.var "_law_script") (.bin .Add (.int 6) (.bin .Mult (.int 2) (.var "_law_k")))) (.int 13))),.assign "_law_cell" (.call "_law_cell_at" [.var "_law_script",.bin .Add (.int 7) (.bin .Mult (.int 2) (.var "_law_k"))]),.assign "_law_made" (.lst []),.ite (.cmp .Lt (.var "_law_word") (.int 9)) [.assign "_law_made" (.lst [.call "_law_around" [.var "_law_word",.var "_law_cell",.var "_law_top"]]),.ite (.bop .And [.bop .Or [.cmp .Eq (.var "_law_word") (.int 8),.cmp .Eq (.var "_law_word") (.int 5)],.cmp .Gt (.bin .Mod (.var "_law_cell") (.int 4)) (.int 0)]) [.assign "_law_made" (.lst [.call "_law_sieve_on" [.sub (.var "_law_made") (.int 0),.var "_law_cell"]])] []] [.ite (.cmp .Lt (.var "_law_word") (.int 12)) [.assign "_law_made" (.call "_law_of_two" [.str "join",.var "_law_cell",.sub (.lst [.var "_law_top",.var "_law_spare"]) (.bin .Mod (.bin .FloorDiv (.var "_law_cell") (.int 2)) (.int 2)),.sub (.lst [.var "_law_spare",.var "_law_top"]) (.bin .Mod (.bin .FloorDiv (.var "_law_cell") (.int 2)) (.int 2))]),.ite (.bop .And [.cmp .NotEq (.var "_law_made") (.lst []),.cmp .Gt (.bin .Mod (.var "_law_cell") (.int 4)) (.int 0)]) [.assign "_law_made" (.lst [.call "_law_sieve_on" [.sub (.var "_law_made") (.int 0),.var "_law_cell"]])] []] [.ite (.cmp .Eq (.bin .Mod (.var "_law_cell") (.int 3)) (.int 1)) [.assign "_law_made" (.call "_law_of_two" [.str "both",.var "_law_cell",.var "_law_top",.call "_law_around" [.sub (.lst [.int 0,.int 6,.int 7]) (.bin .Mod (.bin .FloorDiv (.var "_law_cell") (.int 3)) (.int 3)),.call "_law_mixed" [.var "_law_cell",.int 5],.var "_law_top"]])] []]]]++mK
theorem jU.up{W R:Wd}{c dp c' dp':Nat}{d:D}(h:jU W R c dp d)(h1:c≤c')(h2:dp≤dp'):jU W R c' dp' d:=h.elim .inl fun⟨q,r,k,a,e⟩=>.inr ⟨q,r,k,a.up h1 h2,e⟩
theorem rR:dZ .Eq (.list []) (.list [])=some (.bool true):=rfl
theorem rS(t:D):dZ .Eq (.list [t]) (.list [])=some (.bool false):=rfl
theorem made_nf:dZ .NotEq (.list []) (.list [])=some (.bool false):=rfl
theorem made_nt(t:D):dZ .NotEq (.list [t]) (.list [])=some (.bool true):=rfl
section
variable {P:List (String×Fn)} {X:CF} {W R:Wd}
structure fo(W R:Wd)(S:D)(c dp:Nat)(σ:St):Prop where
 sc:Has σ "_law_script" S
 tp:∃ q r k,TpA W R c dp q r k∧Has σ "_law_top" (aF W q r k)
 sp:∃ q r k,TpA W R c dp q r k∧Has σ "_law_spare" (aF W q r k)
theorem nE{cf:CF}{S:D}{c dp:Nat}(hleaf:∀ k:Nat,k<3→∃ q r,TpA W R 0 0 q r 1∧cf.call "_law_leaf" [S,.int k]=some (aF W q r 1,false)){w z:Int}{d:D}{σ:St}(I:fo W R S c dp σ)(h1:Has σ "_law_word" (.int w))(h2:Has σ "_law_cell" (.int z))(h3:Has σ "_law_made" d)(hm:jU W R c dp d) :
  Out cf pE σ fun fl σ'=>fl=.next∧fo W R S c dp σ':=by
 obtain⟨i0,⟨q1,r1,k1,t1,i1⟩,⟨q2,r2,k2,t2,i2⟩⟩:=I
 have hbig:1≤big:=by decide
 rcases hm with rfl | ⟨q,r,k,t,rfl⟩
 ·have s0:aT (.list [aF W q2 r2 k2]) (.int 0)=some (aF W q2 r2 k2):=rfl
  generalize hT2:aF W q2 r2 k2=T2 at *
  generalize hT1:aF W q1 r1 k1=T1 at *
  refine ef (k:=true) (x:=.bool true) (aA (ae (aa h3)) (cR (ai _ _) (Nat.zero_le _)) rR) rfl (fun _=>?_) nofun
  refine aN (au (d:=.list [T2]) (fr:=true) (ax (cR (ad (ae (aa i2)) (ai _ _)) (Nat.le_of_ble_eq_true rfl)) rfl rfl)) (aN (au (d:=T1) (fr:=frF (.var "_law_top") T1) (ax (ae (aa (al rfl (aw i1)))) rfl rfl)) (aN (au (d:=T2) (fr:=frF (.sub (.var "_law_made") (.int 0)) T2) (ax (av (x:=.list [T2]) (y:=.int 0) (ae (aa (al rfl (aw az)))) (af _ _ _) s0) rfl rfl)) (cq ⟨rfl,(al rfl (aw (al rfl (aw (al rfl (aw i0)))))),⟨q2,r2,k2,t2,?_⟩,⟨q1,r1,k1,t1,?_⟩⟩)))
  ·rw[hT2];exact az
  ·rw[hT1];exact al rfl (aw az)
 ·have s0:aT (.list [aF W q r k]) (.int 0)=some (aF W q r k):=rfl
  generalize hT:aF W q r k=T at *
  refine ef (k:=false) (x:=.bool false) (aA (ae (aa h3)) (cR (ai _ _) (Nat.zero_le _)) (rS _)) rfl nofun fun _=>?_
  refine ef (k:=decide (w ≥ 9)) (aA (ae (aa h1)) (af _ _ _) rfl) rfl (fun _=>?_) fun _=>?_
  ·obtain⟨m,em,hm3⟩:=bv (z / 36) (k:=3) (by decide)
   have em:z / 36 % 3=(m:Int):=em
   obtain⟨q3,r3,t3,l3⟩:=hleaf m hm3
   rw[← em] at l3
   generalize hT3:aF W q3 r3 1=T3 at *
   refine aN (au (d:=T3) (fr:=false) (aK (ad (ae (aa i0)) (ad (ao (ao (ae (aa h2)) (af _ _ _) (aS (of_decide_eq_true (id (Eq.refl true))))) (af _ _ _) (aI (of_decide_eq_true (id (Eq.refl true))))) (ai _ _))) l3)) (aN (au (d:=T) (fr:=frF (.sub (.var "_law_made") (.int 0)) T) (ax (av (x:=.list [T]) (y:=.int 0) (ae (aa (al rfl (aw h3)))) (af _ _ _) s0) rfl rfl)) (cq ⟨rfl,(al rfl (aw (al rfl (aw i0)))),⟨q,r,k,t,?_⟩,⟨q3,r3,1,t3.up (Nat.zero_le _) (Nat.zero_le _),?_⟩⟩))
   ·rw[hT];exact az
   ·rw[hT3];exact al rfl (aw az)
  ·refine aN (au (d:=T) (fr:=frF (.sub (.var "_law_made") (.int 0)) T) (ax (av (x:=.list [T]) (y:=.int 0) (ae (aa h3)) (af _ _ _) s0) rfl rfl)) (cq ⟨rfl,(al rfl (aw i0)),⟨q,r,k,t,?_⟩,⟨q2,r2,k2,t2,?_⟩⟩)
   ·rw[hT];exact az
   ·exact al rfl (aw i2)
theorem fo.up{S:D}{c dp c' dp':Nat}{σ:St}(I:fo W R S c dp σ)(h1:c≤c')(h2:dp≤dp'):fo W R S c' dp' σ:=
 ⟨I.sc,let ⟨q,r,k,t,h⟩:=I.tp;⟨q,r,k,t.up h1 h2,h⟩,let ⟨q,r,k,t,h⟩:=I.sp;⟨q,r,k,t.up h1 h2,h⟩⟩
theorem fo.set{S:D}{c dp:Nat}{σ:St}{x:String}{v:Bool×D}{e:D}{ns:List String}(I:fo W R S c dp σ)(h1:("_law_script" == x)=false)(h2:("_law_top" == x)=false)(h3:("_law_spare" == x)=false):fo W R S c dp (aD (settle e ns σ) x v):=
 ⟨al h1 (aw I.sc),let ⟨q,r,k,t,h⟩:=I.tp;⟨q,r,k,t,al h2 (aw h)⟩,let ⟨q,r,k,t,h⟩:=I.sp;⟨q,r,k,t,al h3 (aw h)⟩⟩
theorem step_mid(B:BN P)(n:Nat){S:D}{c dp:Nat}(hleaf:∀ k:Nat,k<3→∃ q r,TpA W R 0 0 q r 1∧(am P X (n+7)).call "_law_leaf" [S,.int k]=some (aF W q r 1,false)){w z:Int}{d:D}{σ:St}(I:fo W R S c dp σ)(h1:Has σ "_law_word" (.int w))(h2:Has σ "_law_cell" (.int z))(h3:Has σ "_law_made" d)(hm:jU W R (c+24) (dp+3) d) :
  Out (am P X (n+7)) mK σ fun fl σ'=>fl=.next∧fo W R S (c+24) (dp+3) σ':=by
 obtain⟨i0,⟨q1,r1,k1,t1,i1⟩,⟨q2,r2,k2,t2,i2⟩⟩:=id I
 rcases hm with rfl | ⟨q,r,k,t,rfl⟩
 ·obtain⟨d',fr,m',e'⟩:=jA (X:=X) B (n+4) z t1 t2
  refine ef (k:=true) (x:=.bool true) (aA (ae (aa h3)) (cR (ai _ _) (Nat.zero_le _)) rR) rfl (fun _=>?_) nofun
  refine aN (au (aK (ad (aE _ _ _) (ad (ae (aa h2)) (ad (ae (aa i1)) (ad (ae (aa i2)) (ai _ _))))) e')) ?_
  exact nE hleaf ((I.set rfl rfl rfl).up (Nat.le_add_right _ _) (Nat.le_add_right _ _)) (al rfl (aw h1)) (al rfl (aw h2)) az (m'.up (by omega) (by omega))
 ·refine ef (k:=false) (x:=.bool false) (aA (ae (aa h3)) (cR (ai _ _) (Nat.zero_le _)) (rS _)) rfl nofun fun _=>?_
  exact nE hleaf (I.up (Nat.le_add_right _ _) (Nat.le_add_right _ _)) h1 h2 h3 (.inr ⟨q,r,k,t,rfl⟩)
end

set_option maxRecDepth 100000
set_option maxHeartbeats 800000
section
variable {P:List (String×Fn)} {X:CF} {W R:Wd}
theorem fo.var{S:D}{c dp:Nat}{σ:St}{x:String}{v:Bool×D}(I:fo W R S c dp σ)(h1:("_law_script" == x)=false)(h2:("_law_top" == x)=false)(h3:("_law_spare" == x)=false):fo W R S c dp (aD σ x v):=
 ⟨al h1 I.sc,let ⟨q,r,k,t,h⟩:=I.tp;⟨q,r,k,t,al h2 h⟩,let ⟨q,r,k,t,h⟩:=I.sp;⟨q,r,k,t,al h3 h⟩⟩
theorem script_at(ns:List Int){k:Nat}(h:k<ns.length):aT (.list (ns.map .int)) (.int k)=some (.int (ns.getD k 0)):=
 lZ (by rw[List.length_map];exact h) (by rw[List.getElem?_map,List.getElem?_eq_getElem h,List.getD_eq_getElem?_getD,List.getElem?_eq_getElem h];rfl)
theorem nQ(l:List Int)(hl:0<l.length)(z:Int):∃ w:Int,aT (.list (l.map .int)) (.int (z % (l.length:Int)))=some (.int w):=by
 obtain⟨d,⟨w,rfl⟩,h⟩:=cm (l:=l.map .int) (by rw[List.length_map];exact hl) z (R:=fun d=>∃ w:Int,d=.int w) fun d hd=>let ⟨w,_,e⟩:=List.mem_map.mp hd;⟨w,e.symm⟩
 rw[List.length_map] at h
 exact⟨w,h⟩
theorem step_turn(B:BN P)(n:Nat){ns:List Int}{c dp:Nat}(hleaf:∀ k:Nat,k<3→∃ q r,TpA W R 0 0 q r 1∧(am P X (n+7)).call "_law_leaf" [.list (ns.map .int),.int k]=some (aF W q r 1,false))(i:Nat){σ:St}(I:fo W R (.list (ns.map .int)) c dp σ) :
  Out (am P X (n+7)) nF (aD σ "_law_k" (false,.int i)) fun fl σ'=>(fl=.next∧fo W R (.list (ns.map .int)) (c+24) (dp+3) σ')∨∃ d fr,fl=.ret fr d∧∃ q r k,TpA W R c dp q r k∧d=aF W q r k:=by
 have hlen:eZ "len" [.list (ns.map .int)]=some (.int ns.length):=by show some (D.int ((ns.map D.int).length:Nat))=_;rw[List.length_map]
 have ck:=cZ (X:=X) B.toBG (n+6) ns (7+2 * i)
 have e7:((7+2 * i:Nat):Int)=7+2 * (i:Int):=by omega
 rw[e7] at ck
 generalize ns.getD (7+2 * i) 0=z at *
 have I0:=I.var (x:="_law_k") (v:=(false,.int i)) rfl rfl rfl
 have hk0:Has (aD σ "_law_k" (false,.int i)) "_law_k" (.int i):=az
 generalize aD σ "_law_k" (false,.int i)=σ0 at *
 clear I
 obtain⟨j0,⟨q1,r1,k1,t1,j1⟩,⟨q2,r2,k2,t2,j2⟩⟩:=id I0
 have fin:∀ {σ:St} {d:D} {w:Int},fo W R (.list (ns.map .int)) c dp σ→Has σ "_law_word" (.int w)→Has σ "_law_cell" (.int z)→Has σ "_law_made" d→jU W R (c+24) (dp+3) d →
   Out (am P X (n+7)) mK σ fun fl σ'=>(fl=.next∧fo W R (.list (ns.map .int)) (c+24) (dp+3) σ')∨∃ d fr,fl=.ret fr d∧∃ q r k,TpA W R c dp q r k∧d=aF W q r k:=fun I h1 h2 h3 hm=>
  let ⟨fl,σ',q,e⟩:=step_mid B n hleaf I h1 h2 h3 hm;⟨fl,σ',.inl q,e⟩
 have hmul:du .Mult (.int 2) (.int i)=some (.int (2 * i)):=lF (by decide)
 have hcnt:evE (am P X (n+7)) (vis σ0) (.bin .Add (.int 6) (.bin .Mult (.int 2) (.var "_law_k")))=some (.int (6+2 * (i:Int))):=ao (af _ _ _) (ao (af _ _ _) (ae (aa hk0)) hmul) bY
 refine ef (k:=decide (6+2 * (i:Int) ≥ ns.length)) (aA hcnt (cn (ad (ae (aa j0)) (ai _ _)) hlen) rfl) rfl (fun _=>?_) fun hc=>?_
 ·obtain⟨fr,j1⟩:=j1
  exact o_retv j1 (.inr ⟨_,fr,rfl,q1,r1,k1,t1,rfl⟩)
 have hc:=of_decide_eq_false hc
 have s6:=script_at ns (k:=6+2 * i) (by omega)
 have e6:((6+2 * i:Nat):Int)=6+2 * (i:Int):=by omega
 rw[e6] at s6
 generalize ns.getD (6+2 * i) 0=y at *
 obtain⟨w,hw⟩:=nQ [0,1,8,5,4,5,6,7,8,9,9,9,12] (by decide) y
 have hw:aT (.list [.int 0,.int 1,.int 8,.int 5,.int 4,.int 5,.int 6,.int 7,.int 8,.int 9,.int 9,.int 9,.int 12]) (.int (y % 13))=some (.int w):=hw
 have hb13:13≤big:=by decide
 clear hc
 have I1:=I0.set (x:="_law_word") (v:=(false,.int w)) (e:=.int w) (ns:=ME.names (.sub (.lst [.int 0,.int 1,.int 8,.int 5,.int 4,.int 5,.int 6,.int 7,.int 8,.int 9,.int 9,.int 9,.int 12]) (.bin .Mod (.sub (.var "_law_script") (.bin .Add (.int 6) (.bin .Mult (.int 2) (.var "_law_k")))) (.int 13)))) rfl rfl rfl
 refine aN (au (d:=.int w) (fr:=false) (ax (av (x:=.list [.int 0,.int 1,.int 8,.int 5,.int 4,.int 5,.int 6,.int 7,.int 8,.int 9,.int 9,.int 9,.int 12]) rfl (ao (av (ae (aa j0)) hcnt s6) (af _ _ _) (aI (by decide))) hw) rfl rfl)) ?_
 have hk1:Has (aD (settle (.int w) (ME.names (.sub (.lst [.int 0,.int 1,.int 8,.int 5,.int 4,.int 5,.int 6,.int 7,.int 8,.int 9,.int 9,.int 9,.int 12]) (.bin .Mod (.sub (.var "_law_script") (.bin .Add (.int 6) (.bin .Mult (.int 2) (.var "_law_k")))) (.int 13)))) σ0) "_law_word" (false,.int w)) "_law_k" (.int i):=al rfl (aw hk0)
 have hw1:Has (aD (settle (.int w) (ME.names (.sub (.lst [.int 0,.int 1,.int 8,.int 5,.int 4,.int 5,.int 6,.int 7,.int 8,.int 9,.int 9,.int 9,.int 12]) (.bin .Mod (.sub (.var "_law_script") (.bin .Add (.int 6) (.bin .Mult (.int 2) (.var "_law_k")))) (.int 13)))) σ0) "_law_word" (false,.int w)) "_law_word" (.int w):=az
 generalize aD (settle (.int w) (ME.names (.sub (.lst [.int 0,.int 1,.int 8,.int 5,.int 4,.int 5,.int 6,.int 7,.int 8,.int 9,.int 9,.int 9,.int 12]) (.bin .Mod (.sub (.var "_law_script") (.bin .Add (.int 6) (.bin .Mult (.int 2) (.var "_law_k")))) (.int 13)))) σ0) "_law_word" (false,.int w)=σ1 at *
 clear j0 t1 j1 t2 j2 hk0 hcnt I0
 have I2:=I1.set (x:="_law_cell") (v:=(false,.int z)) (e:=.int z) (ns:=ME.names (.call "_law_cell_at" [.var "_law_script",.bin .Add (.int 7) (.bin .Mult (.int 2) (.var "_law_k"))])) rfl rfl rfl
 refine aN (au (d:=.int z) (fr:=false) (aK (ad (ae (aa I1.sc)) (ad (ao (af _ _ _) (ao (af _ _ _) (ae (aa hk1)) hmul) bY) (ai _ _))) ck)) ?_
 have I3:=I2.set (x:="_law_made") (v:=(true,.list [])) (e:=.list []) (ns:=ME.names (.lst [])) rfl rfl rfl
 refine aN (au (d:=.list []) (fr:=true) rfl) ?_
 have hw3:=al (x:="_law_word") (y:="_law_made") (v:=(true,.list [])) rfl (aw (e:=.list []) (ns:=ME.names (.lst [])) (al (x:="_law_word") (y:="_law_cell") (v:=(false,.int z)) rfl (aw (e:=.int z) (ns:=ME.names (.call "_law_cell_at" [.var "_law_script",.bin .Add (.int 7) (.bin .Mult (.int 2) (.var "_law_k"))])) hw1)))
 have hz3:=al (x:="_law_cell") (y:="_law_made") (v:=(true,.list [])) rfl (aw (e:=.list []) (ns:=ME.names (.lst [])) (az (σ:=settle (.int z) (ME.names (.call "_law_cell_at" [.var "_law_script",.bin .Add (.int 7) (.bin .Mult (.int 2) (.var "_law_k"))])) σ1) (x:="_law_cell") (fr:=false) (d:=.int z)))
 have hm3:=az (σ:=settle (.list []) (ME.names (.lst [])) (aD (settle (.int z) (ME.names (.call "_law_cell_at" [.var "_law_script",.bin .Add (.int 7) (.bin .Mult (.int 2) (.var "_law_k"))])) σ1) "_law_cell" (false,.int z))) (x:="_law_made") (fr:=true) (d:=.list [])
 generalize aD (settle (.list []) (ME.names (.lst [])) (aD (settle (.int z) (ME.names (.call "_law_cell_at" [.var "_law_script",.bin .Add (.int 7) (.bin .Mult (.int 2) (.var "_law_k"))])) σ1) "_law_cell" (false,.int z))) "_law_made" (true,.list [])=σ3 at *
 clear I1 I2 hk1 hw1 hlen s6 ck hw
 obtain⟨j0,⟨q1,r1,k1,t1,j1⟩,⟨q2,r2,k2,t2,j2⟩⟩:=id I3
 refine ef (k:=decide (w<9)) (aA (ae (aa hw3)) (af _ _ _) rfl) rfl (fun _=>?_) fun _=>?_
 ·obtain⟨qa,ra,ta,ea⟩:=dI (X:=X) B (n+1) w z t1
  refine aN (au (d:=.list [aF W qa ra k1]) (fr:=true) (ax (cR (ad (ay (ad (ae (aa hw3)) (ad (ae (aa hz3)) (ad (ae (aa j1)) (ai _ _)))) ea) (ai _ _)) (Nat.le_of_ble_eq_true rfl)) rfl rfl)) ?_
  have I4:=I3.set (x:="_law_made") (v:=(true,.list [aF W qa ra k1])) (e:=.list [aF W qa ra k1]) (ns:=ME.names (.lst [.call "_law_around" [.var "_law_word",.var "_law_cell",.var "_law_top"]])) rfl rfl rfl
  refine ef (k:=(w == 8||w == 5)&&decide (z % 4 > 0)) (gK (k:=w == 8||w == 5) (l:=decide (z % 4 > 0)) (gX (k:=w == 8) (l:=w == 5) (aA (ae (aa (al rfl (aw hw3)))) (af _ _ _) rfl) fun _=>bS (aA (ae (aa (al rfl (aw hw3)))) (af _ _ _) rfl)) fun _=>bS (aA (ao (ae (aa (al rfl (aw hz3)))) (af _ _ _) (aI (by decide))) (af _ _ _) rfl)) rfl (fun _=>?_) fun _=>?_
  ·obtain⟨qb,rb,tb,eb⟩:=nL (X:=X) B n z ta
   refine aN (au (d:=.list [aF W qb rb k1]) (fr:=true) (ax (cR (ad (ay (ad (av (x:=.list [aF W qa ra k1]) (y:=.int 0) (ae (aa az)) (af _ _ _) rfl) (ad (ae (aa (al rfl (aw hz3)))) (ai _ _))) eb) (ai _ _)) (Nat.le_of_ble_eq_true rfl)) rfl rfl)) ?_
   exact fin (I4.set rfl rfl rfl) (al rfl (aw (al rfl (aw hw3)))) (al rfl (aw (al rfl (aw hz3)))) az (.inr ⟨qb,rb,k1,tb.up (by omega) (by omega),rfl⟩)
  ·exact fin I4 (al rfl (aw hw3)) (al rfl (aw hz3)) az (.inr ⟨qa,ra,k1,ta.up (by omega) (by omega),rfl⟩)
 ·refine ef (k:=decide (w<12)) (aA (ae (aa hw3)) (af _ _ _) rfl) rfl (fun _=>?_) fun _=>?_
  ·obtain⟨d,fr,m,u1,u2,hd,hu1,hu2,e2⟩:∃ d fr,∃ m:Nat,∃ u1 u2:D,jU W R (c+12) (dp+2) d∧aT (.list [aF W q1 r1 k1,aF W q2 r2 k2]) (.int (z / 2 % 2))=some u1∧aT (.list [aF W q2 r2 k2,aF W q1 r1 k1]) (.int (z / 2 % 2))=some u2∧(am P X (n+7)).call "_law_of_two" [sD "join",.int z,u1,u2]=some (d,fr):=by
    rcases (show z / 2 % 2=0∨z / 2 % 2=1 by omega) with e | e
    ·rw[e]
     obtain⟨d,fr,h1,h2⟩:=jz (X:=X) B (n+4) z t1 t2
     exact⟨d,fr,0,_,_,h1,rfl,rfl,h2⟩
    ·rw[e]
     obtain⟨d,fr,h1,h2⟩:=jz (X:=X) B (n+4) z t2 t1
     exact⟨d,fr,0,_,_,h1,rfl,rfl,h2⟩
   have hdiv:evE (am P X (n+7)) (vis σ3) (.bin .Mod (.bin .FloorDiv (.var "_law_cell") (.int 2)) (.int 2))=some (.int (z / 2 % 2)):=ao (ao (ae (aa hz3)) (af _ _ _) (aS (by decide))) (af _ _ _) (aI (by decide))
   refine aN (au (aK (ad (aE _ _ _) (ad (ae (aa hz3)) (ad (av (cR (ad (ae (aa j1)) (ad (ae (aa j2)) (ai _ _))) (Nat.le_of_ble_eq_true rfl)) hdiv hu1) (ad (av (cR (ad (ae (aa j2)) (ad (ae (aa j1)) (ai _ _))) (Nat.le_of_ble_eq_true rfl)) hdiv hu2) (ai _ _))))) e2)) ?_
   rcases hd with rfl | ⟨q,r,k,t,rfl⟩
   ·refine ef (k:=false) (x:=.bool (false&&false)) (gK (k:=false) (l:=false) (aA (ae (aa az)) (cR (ai _ _) (Nat.zero_le _)) made_nf) nofun) rfl nofun fun _=>?_
    exact fin (I3.set rfl rfl rfl) (al rfl (aw hw3)) (al rfl (aw hz3)) az (.inl rfl)
   ·refine ef (k:=true&&decide (z % 4 > 0)) (gK (k:=true) (l:=decide (z % 4 > 0)) (aA (ae (aa az)) (cR (ai _ _) (Nat.zero_le _)) (made_nt _)) fun _=>bS (aA (ao (ae (aa (al rfl (aw hz3)))) (af _ _ _) (aI (by decide))) (af _ _ _) rfl)) rfl (fun _=>?_) fun _=>?_
    ·obtain⟨qb,rb,tb,eb⟩:=nL (X:=X) B n z t
     refine aN (au (d:=.list [aF W qb rb k]) (fr:=true) (ax (cR (ad (ay (ad (av (x:=.list [aF W q r k]) (y:=.int 0) (ae (aa az)) (af _ _ _) rfl) (ad (ae (aa (al rfl (aw hz3)))) (ai _ _))) eb) (ai _ _)) (Nat.le_of_ble_eq_true rfl)) rfl rfl)) ?_
     exact fin ((I3.set rfl rfl rfl).set rfl rfl rfl) (al rfl (aw (al rfl (aw hw3)))) (al rfl (aw (al rfl (aw hz3)))) az (.inr ⟨qb,rb,k,tb.up (by omega) (by omega),rfl⟩)
    ·exact fin (I3.set rfl rfl rfl) (al rfl (aw hw3)) (al rfl (aw hz3)) az (.inr ⟨q,r,k,t.up (by omega) (by omega),rfl⟩)
  ·refine ef (k:=z % 3 == 1) (aA (ao (ae (aa hz3)) (af _ _ _) (aI (by decide))) (af _ _ _) rfl) rfl (fun _=>?_) fun _=>fin I3 hw3 hz3 hm3 (.inl rfl)
   obtain⟨v,hv⟩:=nQ [0,6,7] (by decide) (z / 3)
   have hv:aT (.list [.int 0,.int 6,.int 7]) (.int (z / 3 % 3))=some (.int v):=hv
   obtain⟨x5,_,m5⟩:=mixed (X:=X) B.toBG (n+6) z 5
   obtain⟨qa,ra,ta,ea⟩:=dI (X:=X) B (n+1) v x5 t1
   obtain⟨d,fr,hd,e2⟩:=jA (X:=X) B (n+4) z (t1.up (Nat.le_add_right _ 12) (Nat.le_succ _)) ta
   refine aN (au (aK (ad (aE _ _ _) (ad (ae (aa hz3)) (ad (ae (aa j1)) (ad (ay (ad (av (x:=.list [.int 0,.int 6,.int 7]) (y:=.int (z / 3 % 3)) rfl (ao (ao (ae (aa hz3)) (af _ _ _) (aS (by decide))) (af _ _ _) (aI (by decide))) hv) (ad (ay (ad (ae (aa hz3)) (ad (af _ _ _) (ai _ _))) m5) (ad (ae (aa j1)) (ai _ _)))) ea) (ai _ _))))) e2)) ?_
   exact fin (I3.set rfl rfl rfl) (al rfl (aw hw3)) (al rfl (aw hz3)) az (hd.up (by omega) (by omega))
end

set_option maxRecDepth 100000
set_option maxHeartbeats 800000
noncomputable def sj:List MS:=[.for_ "_law_k" (.blt "range" [.var "_law_many_here"]) [.assign "_law_top" (.call "_law_around" [.bin .Mod (.call "_law_mixed" [.var "_law_cell",.var "_law_k"]) (.int 9),.call "_law_mixed" [.var "_law_cell",.bin .Add (.int 50) (.var "_law_k")],.var "_law_top"])],.ret (.var "_law_top")]
noncomputable def sk:List MS:=.ite (.cmp .Eq (.bin .Mod (.var "_law_cell") (.int 32)) (.int 5)) [.assign "_law_top" (.call "_law_leaf" [.var "_law_script",.int 0]),.assign "_law_many_here" (.int 38)] []::sj
noncomputable def sn:List MS:=.assign "_law_cell" (.bin .FloorDiv (.call "_law_cell_at" [.var "_law_script",.int 1]) (.int 35))::.assign "_law_many_here" (.int 0)::.ite (.cmp .Eq (.bin .Mod (.var "_law_cell") (.int 8)) (.int 1)) [.assign "_law_many_here" (.bin .Mod (.bin .FloorDiv (.var "_law_cell") (.int 8)) (.int 8))] []::sk
noncomputable def built4:List MS:=.ite (.cmp .Gt (.bin .Mod (.var "_law_last") (.int 3)) (.int 0)) [.assign "_law_top" (.call "_law_around" [.int 0,.bin .Add (.bin .Mult (.bin .FloorDiv (.call "_law_mixed" [.var "_law_last",.int 9]) (.int 4)) (.int 4)) (.int 2),.var "_law_top"])] []::sn
section
variable {P:List (String×Fn)} {X:CF} {W R:Wd}
noncomputable def eu(W R:Wd)(c dp:Nat)(d:D):Prop:=∃ q r k,TpA W R c dp q r k∧d=aF W q r k
theorem eu.up{c dp c' dp':Nat}{d:D}(h:eu W R c dp d)(h1:c≤c')(h2:dp≤dp'):eu W R c' dp' d:=let ⟨q,r,k,t,e⟩:=h;⟨q,r,k,t.up h1 h2,e⟩
theorem stepped_eq(B:BE P)(n:Nat){ns:List Int}(hleaf:∀ k:Nat,k<3→∃ q r,TpA W R 0 0 q r 1∧(am P X (n+7)).call "_law_leaf" [.list (ns.map .int),.int k]=some (aF W q r 1,false)) :
  ∃ d fr,eu W R 216 27 d∧(am P X (n+8)).call "_law_stepped" [.list (ns.map .int)]=some (d,fr):=by
 have c2:(am P X (n+7)).call "_law_cell_at" [.list (ns.map .int),.int 2]=some (.int (ns.getD 2 0),false):=cZ (X:=X) B.toBG (n+6) ns 2
 obtain⟨q0,r0,t0,l0⟩:=hleaf 0 (by decide)
 obtain⟨q1,r1,t1,l1⟩:=hleaf 1 (by decide)
 have turn:=fun k i σ (I:fo W R (.list (ns.map .int)) (24 * k) (3 * k) σ)=>step_turn B.toBN n hleaf (c:=24 * k) (dp:=3 * k) i I
 generalize ns.getD 2 0=z at *
 generalize D.list (ns.map .int)=S at *
 obtain⟨d,⟨m,rfl,hm⟩,hd⟩:=cm (l:=[.int 3,.int 5,.int 2,.int 9]) (by decide) z (R:=fun d=>∃ m:Nat,d=.int m∧m≤9) (by
  intro d hd
  simp only[List.mem_cons,List.not_mem_nil,or_false] at hd
  rcases hd with rfl | rfl | rfl | rfl <;> first | exact⟨3,rfl,by decide⟩ | exact⟨5,rfl,by decide⟩ | exact⟨2,rfl,by decide⟩ | exact⟨9,rfl,by decide⟩)
 have hd:aT (.list [.int 3,.int 5,.int 2,.int 9]) (.int (z % 4))=some (.int m):=hd
 have hb:9≤big:=by decide
 refine cA (X:=X) (args:=[S]) B.st rfl ?_
 refine aU (au (aK (ad (d:=S) rfl (ad (d:=.int 0) rfl (ai _ _))) l0)) ?_
 refine aU (au (aK (ad (d:=S) rfl (ad (d:=.int 1) rfl (ai _ _))) l1)) ?_
 generalize hσ:aD (settle (aF W q1 r1 1) (ME.names (.call "_law_leaf" [.var "_law_script",.int 1])) (aD (settle (aF W q0 r0 1) (ME.names (.call "_law_leaf" [.var "_law_script",.int 0])) _) "_law_top" (false,aF W q0 r0 1))) "_law_spare" (false,aF W q1 r1 1)=σ
 have i1:Has σ "_law_script" S:=by rw[← hσ];exact⟨_,rfl⟩
 have i2:Has σ "_law_top" (aF W q0 r0 1):=by rw[← hσ];exact⟨_,rfl⟩
 have i3:Has σ "_law_spare" (aF W q1 r1 1):=by rw[← hσ];exact⟨_,rfl⟩
 obtain⟨σ',c⟩:=kI (cf:=am P X (n+7)) (body:=nF) (z:="_law_k") (fun k σ=>fo W R S (24 * k) (3 * k) σ) (fun d _=>eu W R 216 27 d) m ((List.range m).map fun (i:Nat)=>D.int (i:Int)) 0 (freeze (ME.names (.blt "range" [.sub (.lst [.int 3,.int 5,.int 2,.int 9]) (.bin .Mod (.call "_law_cell_at" [.var "_law_script",.int 2]) (.int 4))])) σ) (by rw[List.length_map,List.length_range];omega) ⟨cP i1,⟨q0,r0,1,t0,cP i2⟩,⟨q1,r1,1,t1,cP i3⟩⟩ (by
  intro k it σ hk hit I
  obtain⟨i,_,rfl⟩:=List.mem_map.mp hit
  obtain⟨fl,σ',q,e⟩:=turn k i σ I
  refine⟨fl,σ',?_,e⟩
  rcases q with q | ⟨d,fr,h1,q,r,k',t,h2⟩
  ·exact .inl q
  ·exact .inr ⟨d,fr,h1,q,r,k',t.up (by omega) (by omega),h2⟩)
 have hsrc:evE (am P X (n+7)) (vis σ) (.blt "range" [.sub (.lst [.int 3,.int 5,.int 2,.int 9]) (.bin .Mod (.call "_law_cell_at" [.var "_law_script",.int 2]) (.int 4))])=some (.rng 0 m):=
  cn (ad (av (x:=.list [.int 3,.int 5,.int 2,.int 9]) rfl (ao (ay (ad (ae (aa i1)) (ad (af _ _ _) (ai _ _))) c2) (af _ _ _) (aI (by decide))) hd) (ai _ _)) (kg (Nat.le_trans hm hb))
 rcases c with⟨I,e⟩ | ⟨d,fr,h,e⟩
 ·refine q_for hsrc (d7 m) e ?_
  obtain⟨q,r,k,t,fr,h⟩:=I.tp
  rw[List.length_map,List.length_range,Nat.zero_add] at t
  exact rJ h ⟨q,r,k,t.up (by omega) (by omega),rfl⟩
 ·exact q_forR hsrc (d7 m) e h
theorem lD(B:BN P)(n:Nat){c dp m:Nat}(hm:m≤38){z:Int}{σ:St}{d:D}(hd:eu W R c dp d)(h1:Has σ "_law_cell" (.int z))(h2:Has σ "_law_top" d)(h3:Has σ "_law_many_here" (.int m)):Rex (am P X (n+6)) sj σ fun d _=>eu W R (c+12 * m) (dp+m) d:=by
 have hb:38≤big:=by decide
 obtain⟨σ',e⟩:=kI (cf:=am P X (n+6)) (body:=[.assign "_law_top" (.call "_law_around" [.bin .Mod (.call "_law_mixed" [.var "_law_cell",.var "_law_k"]) (.int 9),.call "_law_mixed" [.var "_law_cell",.bin .Add (.int 50) (.var "_law_k")],.var "_law_top"])]) (z:="_law_k") (fun k σ=>Has σ "_law_cell" (.int z)∧∃ d,eu W R (c+12 * k) (dp+k) d∧Has σ "_law_top" d) (fun _ _=>False) m ((List.range m).map fun (i:Nat)=>D.int (i:Int)) 0 (freeze (ME.names (.blt "range" [.var "_law_many_here"])) σ) (by rw[List.length_map,List.length_range];omega) ⟨cP h1,d,hd,cP h2⟩ (by
  rintro k it σ hk hit ⟨i1,d,⟨q,r,k',t,rfl⟩,i2⟩
  obtain⟨i,_,rfl⟩:=List.mem_map.mp hit
  obtain⟨x,_,mx⟩:=mixed (X:=X) B.toBG (n+5) z i
  obtain⟨y,_,my⟩:=mixed (X:=X) B.toBG (n+5) z (50+i)
  obtain⟨q',r',t',e'⟩:=dI (X:=X) B n (x % 9) y t
  have hz:=al (y:="_law_k") (v:=(false,.int i)) rfl i1
  have ht:=al (y:="_law_k") (v:=(false,.int i)) rfl i2
  have hi:Has (aD σ "_law_k" (false,.int i)) "_law_k" (.int i):=az
  generalize aD σ "_law_k" (false,.int i)=σ at *
  refine aN (au (aK (ad (ao (ay (ad (ae (aa hz)) (ad (ae (aa hi)) (ai _ _))) mx) (af _ _ _) (aI (by decide))) (ad (ay (ad (ae (aa hz)) (ad (ao (af _ _ _) (ae (aa hi)) bY) (ai _ _))) my) (ad (ae (aa ht)) (ai _ _)))) e')) ?_
  exact cq (.inl ⟨rfl,al rfl (aw hz),_,⟨q',r',k',t'.up (by omega) (by omega),rfl⟩,az⟩))
 rcases e with⟨⟨_,d,hd,fr,h⟩,e⟩ | ⟨_,_,h,_⟩
 ·refine q_for (cn (ad (ae (aa h3)) (ai _ _)) (kg (Nat.le_trans hm hb))) (d7 m) e ?_
  rw[List.length_map,List.length_range,Nat.zero_add] at hd
  exact rJ h hd
 ·exact h.elim
theorem built_eq(B:BE P)(n:Nat){ns:List Int}(hleaf:∀ n,∀ k:Nat,k<3→∃ q r,TpA W R 0 0 q r 1∧(am P X (n+3)).call "_law_leaf" [.list (ns.map .int),.int k]=some (aF W q r 1,false)) :
  ∃ d fr,eu W R 456 38 d∧(am P X (n+9)).call "_law_built" [.list (ns.map .int)]=some (d,fr):=by
 have c5:(am P X (n+8)).call "_law_cell_at" [.list (ns.map .int),.int 5]=some (.int (ns.getD 5 0),false):=cZ (X:=X) B.toBG (n+7) ns 5
 have c1:(am P X (n+8)).call "_law_cell_at" [.list (ns.map .int),.int 1]=some (.int (ns.getD 1 0),false):=cZ (X:=X) B.toBG (n+7) ns 1
 obtain⟨d0,fr0,hd0,e0⟩:=stepped_eq (X:=X) B n (hleaf (n+4))
 obtain⟨ql,rl,tl,el⟩:=hleaf (n+5) 0 (by decide)
 generalize ns.getD 5 0=y at *
 generalize ns.getD 1 0=z at *
 generalize D.list (ns.map .int)=S at *
 have t8:∀ {σ:St} {d:D} {m:Nat},m≤7→eu W R 240 29 d→Has σ "_law_script" S→Has σ "_law_cell" (.int (z / 35))→Has σ "_law_top" d→Has σ "_law_many_here" (.int m)→Rex (am P X (n+8)) sk σ fun d _=>eu W R 456 38 d:=by
  intro σ d m hm hd i1 i2 i3 i4
  refine cD (k:=z / 35 % 32 == 5) (aA (ao (ae (aa i2)) (af _ _ _) (aI (by decide))) (af _ _ _) rfl) rfl (fun _=>?_) fun _=>?_
  ·refine aU (au (aK (ad (ae (aa i1)) (ad (af _ _ _) (ai _ _))) el)) ?_
   refine aU (au (d:=.int (38:Nat)) (fr:=false) rfl) ?_
   obtain⟨d,fr,h,r⟩:=lD (X:=X) (W:=W) B.toBN (n+2) (m:=38) (c:=0) (dp:=0) (by decide) ⟨ql,rl,1,tl,rfl⟩ (al rfl (aw (al rfl (aw i2)))) (al rfl (aw az)) az
   exact⟨d,fr,h.up (by omega) (by omega),r⟩
  ·obtain⟨d,fr,h,r⟩:=lD (X:=X) (W:=W) B.toBN (n+2) (by omega) hd i2 i3 i4
   exact⟨d,fr,h.up (by omega) (by omega),r⟩
 have t5:∀ {σ:St} {d:D},eu W R 240 29 d→Has σ "_law_script" S→Has σ "_law_top" d→Rex (am P X (n+8)) sn σ fun d _=>eu W R 456 38 d:=by
  intro σ d hd i1 i2
  refine aU (au (d:=.int (z / 35)) (fr:=false) (ax (ao (ay (ad (ae (aa i1)) (ad (af _ _ _) (ai _ _))) c1) (af _ _ _) (aS (by decide))) rfl rfl)) ?_
  refine aU (au (d:=.int (0:Nat)) (fr:=false) rfl) ?_
  refine cD (k:=z / 35 % 8 == 1) (aA (ao (ae (aa (al rfl (aw az)))) (af _ _ _) (aI (by decide))) (af _ _ _) rfl) rfl (fun _=>?_) fun _=>?_
  ·obtain⟨m,em,hm⟩:=bv (z / 35 / 8) (k:=8) (by decide)
   have hx:du .Mod (.int (z / 35 / 8)) (.int 8)=some (.int m):=by rw[← em];exact aI (by decide)
   refine aU (au (d:=.int m) (fr:=false) (ax (ao (ao (ae (aa (al rfl (aw az)))) (af _ _ _) (aS (by decide))) (af _ _ _) hx) rfl rfl)) ?_
   exact t8 (m:=m) (by omega) hd (al rfl (aw (al rfl (aw (al rfl (aw i1)))))) (al rfl (aw (al rfl (aw az)))) (al rfl (aw (al rfl (aw (al rfl (aw i2)))))) az
  ·exact t8 (m:=0) (by omega) hd (al rfl (aw (al rfl (aw i1)))) (al rfl (aw az)) (al rfl (aw (al rfl (aw i2)))) az
 have t4:∀ {σ:St} {d:D},eu W R 228 28 d→Has σ "_law_script" S→Has σ "_law_last" (.int y)→Has σ "_law_top" d→Rex (am P X (n+8)) built4 σ fun d _=>eu W R 456 38 d:=by
  intro σ d hd i1 i3 i2
  refine cD (k:=decide (y % 3 > 0)) (aA (ao (ae (aa i3)) (af _ _ _) (aI (by decide))) (af _ _ _) rfl) rfl (fun _=>?_) fun _=>t5 (hd.up (by omega) (by omega)) i1 i2
  obtain⟨q,r,k,t,rfl⟩:=hd
  obtain⟨x,_,mx⟩:=mixed (X:=X) B.toBG (n+7) y 9
  obtain⟨q',r',t',e'⟩:=dI (X:=X) B.toBN (n+2) 0 (x / 4 * 4+2) t
  refine aU (au (aK (ad (af _ _ _) (ad (ao (ao (ao (ay (ad (ae (aa i3)) (ad (af _ _ _) (ai _ _))) mx) (af _ _ _) (aS (by decide))) (af _ _ _) (oN (by decide))) (af _ _ _) bY) (ad (ae (aa i2)) (ai _ _)))) e')) ?_
  exact t5 ⟨q',r',k,t',rfl⟩ (al rfl (aw i1)) az
 have hq:∀ {σ:St},Has σ "_law_last" (.int y)→evE (am P X (n+8)) (vis σ) (.bin .Mod (.bin .FloorDiv (.var "_law_last") (.int 3)) (.int 3))=some (.int (y / 3 % 3)):=fun i=>ao (ao (ae (aa i)) (af _ _ _) (aS (by decide))) (af _ _ _) (aI (by decide))
 refine cA (X:=X) (args:=[S]) B.bu rfl ?_
 refine aU (au (aK (ad (d:=S) rfl (ai _ _)) e0)) ?_
 refine aU (au (aK (ad (ae (aa (al rfl (aw ag)))) (ad (af _ _ _) (ai _ _))) c5)) ?_
 refine cD (k:=y / 3 % 3 == 1) (aA (hq az) (af _ _ _) rfl) rfl (fun h1=>?_) fun _=>?_
 ·obtain⟨q,r,k,t,rfl⟩:=hd0
  obtain⟨q',r',t',e'⟩:=dI (X:=X) B.toBN (n+2) 8 (y / 9 % 3) t
  refine aU (au (aK (ad (af _ _ _) (ad (ao (ao (ae (aa az)) (af _ _ _) (aS (by decide))) (af _ _ _) (aI (by decide))) (ad (ae (aa (al rfl (aw az)))) (ai _ _)))) e')) ?_
  rw[beq_iff_eq] at h1
  refine cD (k:=false) (x:=.bool false) (aA (hq (al rfl (aw az))) (af _ _ _) (by rw[h1];rfl)) rfl nofun fun _=>?_
  exact t4 ⟨q',r',k,t',rfl⟩ (al rfl (aw (al rfl (aw (al rfl (aw ag)))))) (al rfl (aw az)) az
 ·refine cD (k:=y / 3 % 3 == 2) (aA (hq az) (af _ _ _) rfl) rfl (fun _=>?_) fun _=>t4 (hd0.up (by omega) (by omega)) (al rfl (aw (al rfl (aw ag)))) az (al rfl (aw az))
  obtain⟨q,r,k,t,rfl⟩:=hd0
  obtain⟨x,_,mx⟩:=mixed (X:=X) B.toBG (n+7) y 4
  obtain⟨q',r',t',e'⟩:=dI (X:=X) B.toBN (n+2) 5 (x / 4 * 4+1) t
  refine aU (au (aK (ad (af _ _ _) (ad (ao (ao (ao (ay (ad (ae (aa az)) (ad (af _ _ _) (ai _ _))) mx) (af _ _ _) (aS (by decide))) (af _ _ _) (oN (by decide))) (af _ _ _) bY) (ad (ae (aa (al rfl (aw az)))) (ai _ _)))) e')) ?_
  exact t4 ⟨q',r',k,t',rfl⟩ (al rfl (aw (al rfl (aw (al rfl (aw ag)))))) (al rfl (aw az)) az
end

set_option maxRecDepth 100000
noncomputable def fW:Fn:=⟨["_law_cell","_law_wide","_law_many_here"],[
  .assign "_law_rows" (.lst []),
  .for_ "_law_at" (.blt "range" [.var "_law_many_here"]) [.assign "_law_like" (.bin .Sub (.var "_law_at") (.bin .FloorDiv (.bin .Mod (.var "_law_at") (.int 3)) (.int 2))),.ite (.cmp .Eq (.bin .Mod (.var "_law_at") (.int 5)) (.int 4)) [.assign "_law_like" (.int 0)] [],.append "_law_rows" (.blt "tuple" [.comp (.call "_law_thing_by" [.call "_law_mixed" [.var "_law_cell",.bin .Add (.bin .Mult (.int 13) (.var "_law_like")) (.var "_law_k")]]) "_law_k" (.blt "range" [.var "_law_wide"]) []])],
  .ret (.var "_law_rows")]⟩
noncomputable def gS:Fn:=⟨["_law_script","_law_more"],[
  .assign "_law_names_here" (.call "_law_names" [.var "_law_script"]),
  .assign "_law_tables_here" (.dct [] []),
  .for_ "_law_k" (.blt "range" [.int 3]) [.assign "_law_shape" (.call "_law_cell_at" [.var "_law_script",.var "_law_k"]),.assign "_law_cell" (.call "_law_mixed" [.call "_law_cell_at" [.var "_law_script",.bin .Add (.int 3) (.var "_law_k")],.bin .Add (.int 80) (.var "_law_more")]),.setk "_law_tables_here" (.sub (.var "_law_names_here") (.var "_law_k")) (.call "_law_rows_by" [.var "_law_cell",.call "_law_wide_by" [.var "_law_shape"],.call "_law_rows_of" [.var "_law_shape"]])],
  .ret (.var "_law_tables_here")]⟩
structure BT(P:List (String×Fn)):Prop extends BE P,BA P where
 rowsBy:P.lookup "_law_rows_by"=some fW
 tables:P.lookup "_law_tables"=some gS
noncomputable abbrev rowsB:List MS:=[.assign "_law_like" (.bin .Sub (.var "_law_at") (.bin .FloorDiv (.bin .Mod (.var "_law_at") (.int 3)) (.int 2))),.ite (.cmp .Eq (.bin .Mod (.var "_law_at") (.int 5)) (.int 4)) [.assign "_law_like" (.int 0)] [],.append "_law_rows" (.blt "tuple" [.comp (.call "_law_thing_by" [.call "_law_mixed" [.var "_law_cell",.bin .Add (.bin .Mult (.int 13) (.var "_law_like")) (.var "_law_k")]]) "_law_k" (.blt "range" [.var "_law_wide"]) []])]
section
variable {P:List (String×Fn)} {X:CF}
theorem rows_by(B:BT P)(n:Nat)(c:Int){m k:Nat}(hm:m≤1000)(hk:k≤60):∃ t:Tab,bA m t∧t.length=k∧(am P X (n+3)).call "_law_rows_by" [.int c,.int m,.int k]=some (aL t,true):=by
 obtain⟨σ',⟨t,h1,h2,h3,_⟩,e⟩:=jE (cf:=am P X (n+2)) (body:=rowsB) (z:="_law_at") (g:=fun i:Nat=>D.int (i:Int)) (fun b σ=>∃ t:Tab,bA m t∧t.length=b.length∧cG σ "_law_rows" (aL t)∧Has σ "_law_cell" (.int c)∧Has σ "_law_wide" (.int m)) (List.range k) [] (freeze ["_law_many_here"] (aD [("_law_cell",(false,.int c)),("_law_wide",(false,.int m)),("_law_many_here",(false,.int k))] "_law_rows" (true,.list [])))
  ⟨[],(fun _ h=>nomatch h),rfl,lL rfl eO,cP (al rfl ag),cP (al rfl (aj rfl ag))⟩ (by
  rintro b i σ _ hb ⟨t,h1,h2,h3,h4,h5⟩
  have fin:∀ (L:Int) (σ:St),cG σ "_law_rows" (aL t)→Has σ "_law_cell" (.int c)→Has σ "_law_wide" (.int m)→Has σ "_law_like" (.int L)→Out (am P X (n+2)) (rowsB.drop 2) σ fun fl σ'=>fl=.next∧∃ t:Tab,bA m t∧t.length=(b++[i]).length∧cG σ' "_law_rows" (aL t)∧Has σ' "_law_cell" (.int c)∧Has σ' "_law_wide" (.int m):=fun L σ i3 i4 i5 i6=>by
   obtain⟨cs,q1,q2,q3⟩:=gW (cf:=am P X (n+2)) (ρ:=vis σ) (z:="_law_k") (elt:=.call "_law_thing_by" [.call "_law_mixed" [.var "_law_cell",.bin .Add (.bin .Mult (.int 13) (.var "_law_like")) (.var "_law_k")]]) (src:=.var "_law_wide") hm pv (ae (aa i5)) fun j _=>by
    obtain⟨r,_,hr⟩:=mixed (X:=X) B.toBG (n+1) c (13 * L+j)
    obtain⟨d,gd,hd⟩:=nB (X:=X) B.toBG n r
    exact⟨d,gd,ay (ad (ay (ad (ae (bP rfl (aa i4))) (ad (ao (ao (af _ _ _) (ae (bP rfl (aa i6))) (lF (by unfold lim;omega))) (ae cT) bY) (ai _ _))) hr) (ai _ _)) hd⟩
   refine aN (ee (ds:=t.map .tup) q3 (fH rfl i3) ?_) (cq ⟨rfl,t++[cs],fun r hr=>(List.mem_append.mp hr).elim (h1 r) fun hr=>List.mem_singleton.mp hr▸⟨q1,fun d hd=>(q2 d hd).cell⟩,?_,?_,al rfl (aw i4),al rfl (aw i5)⟩)
   ·rw[List.length_map,h2]
    exact Nat.lt_of_lt_of_le (by rw[List.length_range,List.length_nil,Nat.zero_add] at hb;exact hb) (Nat.le_trans hk (by decide))
   ·rw[List.length_append,List.length_append,h2];rfl
   ·rw[gv];exact eO
  refine aN (bg (d:=.int (i - i % 3 / 2)) (fr:=false) (ax (ao (ae (aa az)) (ao (ao (ae (aa az)) (af _ _ _) (aI (by decide))) (af _ _ _) (aS (by unfold lim;decide))) pu) rfl rfl) rfl) (ef (k:=(i:Int) % 5 == 4) (aA (ao (ae (aa (al rfl az))) (af _ _ _) (aI (by decide))) (af _ _ _) rfl) rfl (fun _=>?_) fun _=>?_)
  ·exact aN (bg (d:=.int 0) (fr:=false) (ax (af _ _ _) rfl rfl) rfl) (fin 0 _ (d9 rfl (d9 rfl (d9 rfl h3))) (al rfl (al rfl (al rfl h4))) (al rfl (al rfl (al rfl h5))) az)
  ·exact fin _ _ (d9 rfl (d9 rfl h3)) (al rfl (al rfl h4)) (al rfl (al rfl h5)) az)
 refine⟨t,h1,h2.trans (by rw[List.nil_append,List.length_range]),aB B.rowsBy rfl ?_⟩
 exact aC (au (d:=.list []) (fr:=true) rfl) (fu (x:=.rng 0 k) (cn (ad (d:=.int k) (ae (aa (al rfl (aj rfl (aj rfl ag))))) (ai _ _)) (kg (Nat.le_trans hk (by decide)))) (d7 k) e (dT h3))
noncomputable abbrev tabsB:List MS:=[.assign "_law_shape" (.call "_law_cell_at" [.var "_law_script",.var "_law_k"]),.assign "_law_cell" (.call "_law_mixed" [.call "_law_cell_at" [.var "_law_script",.bin .Add (.int 3) (.var "_law_k")],.bin .Add (.int 80) (.var "_law_more")]),.setk "_law_tables_here" (.sub (.var "_law_names_here") (.var "_law_k")) (.call "_law_rows_by" [.var "_law_cell",.call "_law_wide_by" [.var "_law_shape"],.call "_law_rows_of" [.var "_law_shape"]])]
structure TabI(S:D)(a b c:Str)(more:Int)(ks vs:List D)(σ:St):Prop where
 s:Has σ "_law_script" S
 m:Has σ "_law_more" (.int more)
 n:Has σ "_law_names_here" (.list [.str a,.str b,.str c])
 t:cG σ "_law_tables_here" (.dict ks vs)
theorem i8(B:BT P)(n:Nat)(ns:List Int){a b c:Str}{more:Int}{i:Nat}{nm:Str}{ks vs:List D}(hs:aT (.list [.str a,.str b,.str c]) (.int i)=some (.str nm))(hk:cB (.str nm) ks=true)(hl:ks.length<4)(hno:∀ x∈ks,aQ x (.str nm)=false)(hlen:ks.length=vs.length){σ:St}(I:TabI (.list (ns.map .int)) a b c more ks vs σ) :
  ∃ t σ',(bA (aJ (ns.getD i 0)) t∧t.length=cz (ns.getD i 0))∧TabI (.list (ns.map .int)) a b c more (ks++[.str nm]) (vs++[aL t]) σ'∧bn (am P X (n+4)) tabsB (aD σ "_law_k" (false,.int i))=some (.next,σ'):=by
 have c1:=cZ (X:=X) B.toBG (n+3) ns i
 have c2:=cZ (X:=X) B.toBG (n+3) ns (3+i)
 obtain⟨x,_,hx⟩:=mixed (X:=X) B.toBG (n+3) (ns.getD (3+i) 0) (80+more)
 obtain⟨t,t1,t2,ht⟩:=rows_by (X:=X) B (n+1) x (m:=aJ (ns.getD i 0)) (k:=cz (ns.getD i 0)) (Nat.le_trans (pC _) (by decide)) (Nat.le_trans (j5 (X:=X) B.toBE 0 _).1 (by decide))
 have w1:=iy (X:=X) B.toBE (n+3) (ns.getD i 0)
 have w2:=(j5 (X:=X) B.toBE (n+3) (ns.getD i 0)).2
 have e3:((3+i:Nat):Int)=3+(i:Int):=Int.natCast_add 3 i
 rw[e3] at c2
 obtain⟨fl,σ',⟨rfl,q⟩,e⟩:Out (am P X (n+4)) tabsB (aD σ "_law_k" (false,.int i)) fun fl σ'=>fl=.next∧TabI (.list (ns.map .int)) a b c more (ks++[.str nm]) (vs++[aL t]) σ':=by
  refine aN (bg (d:=.int (ns.getD i 0)) (fr:=false) (aK (ad (ae (aa (al rfl I.s))) (ad (ae (aa az)) (ai _ _))) c1) rfl) ?_
  refine aN (bg (d:=.int x) (fr:=false) (aK (ad (ay (ad (ae (aa (al rfl (al rfl I.s)))) (ad (ao (af _ _ _) (ae (aa (al rfl az))) bY) (ai _ _))) c2) (ad (ao (af _ _ _) (ae (aa (al rfl (al rfl I.m)))) bY) (ai _ _))) hx) rfl) ?_
  refine aN (pe (d:=aL t) (dk:=.str nm) (ks:=ks) (vs:=vs) (ay (ad (ae (aa az)) (ad (ay (ad (ae (aa (al rfl az))) (ai _ _)) w1) (ad (ay (ad (ae (aa (al rfl az))) (ai _ _)) w2) (ai _ _)))) ht) (av (ae (aa (al rfl (al rfl (al rfl I.n))))) (ae (aa (al rfl (al rfl az)))) hs) (fH rfl (fH rfl (d9 rfl (d9 rfl (d9 rfl I.t))))) (by rw[hk,decide_eq_true (Nat.lt_trans hl (by decide))];rfl)) (cq ⟨rfl,?_,?_,?_,?_⟩)
  ·exact al rfl (aw (aw (al rfl (al rfl (al rfl I.s)))))
  ·exact al rfl (aw (aw (al rfl (al rfl (al rfl I.m)))))
  ·exact al rfl (aw (aw (al rfl (al rfl (al rfl I.n)))))
  ·rw[ni hlen hno];exact eO
 exact⟨t,σ',⟨t1,t2⟩,q,e⟩
theorem for3{cf:CF}{body:List MS}{z:String}{σ σ0 σ1 σ2:St}{d0 d1 d2:D}(e0:bn cf body (aD σ z (false,d0))=some (.next,σ0))(e1:bn cf body (aD σ0 z (false,d1))=some (.next,σ1))(e2:bn cf body (aD σ1 z (false,d2))=some (.next,σ2)):bU (cH cf body z) [d0,d1,d2] σ=some (.next,σ2):=by
 rw[bK,e0];show bU _ _ _=_;rw[bK,e1];show bU _ _ _=_;rw[bK,e2];rfl
theorem tables_eq(B:BT P)(n:Nat)(ns:List Int)(more:Int){a b c:Str}(hab:a≠b)(hac:a≠c)(hbc:b≠c)(hn:(am P X (n+4)).call "_law_names" [.list (ns.map .int)]=some (.list [.str a,.str b,.str c],true)) :
  ∃ t0 t1 t2,((bA (aJ (ns.getD 0 0)) t0∧t0.length=cz (ns.getD 0 0))∧(bA (aJ (ns.getD 1 0)) t1∧t1.length=cz (ns.getD 1 0))∧(bA (aJ (ns.getD 2 0)) t2∧t2.length=cz (ns.getD 2 0)))∧(am P X (n+5)).call "_law_tables" [.list (ns.map .int),.int more]=some (Tbs.d [(a,t0),(b,t1),(c,t2)],true):=by
 have i0:TabI (.list (ns.map .int)) a b c more [] [] (freeze [] (aD (aD (freeze ["_law_script"] [("_law_script",(false,.list (ns.map .int))),("_law_more",(false,.int more))]) "_law_names_here" (true,.list [.str a,.str b,.str c])) "_law_tables_here" (true,.dict [] []))):=⟨cP (al rfl (al rfl (cP ag))),cP (al rfl (al rfl (cP (aj rfl ag)))),cP (al rfl az),lL rfl eO⟩
 have one:∀ {x y:Str},x≠y→∀ z∈[D.str x],aQ z (.str y)=false:=fun h z hz=>List.mem_singleton.mp hz▸kt h
 obtain⟨t0,σ0,p0,j0,e0⟩:=i8 (X:=X) B n ns (i:=0) (nm:=a) (ks:=[]) (vs:=[]) rfl rfl (Nat.le_of_ble_eq_true rfl) (fun x (h:x∈[])=>nomatch h) rfl i0
 obtain⟨t1,σ1,p1,j1,e1⟩:=i8 (X:=X) B n ns (i:=1) (nm:=b) (ks:=[.str a]) (vs:=[aL t0]) rfl rfl (Nat.le_of_ble_eq_true rfl) (one hab) rfl j0
 obtain⟨t2,σ2,p2,j2,e2⟩:=i8 (X:=X) B n ns (i:=2) (nm:=c) (ks:=[.str a,.str b]) (vs:=[aL t0,aL t1]) rfl rfl (Nat.le_of_ble_eq_true rfl) (fun z hz=>(List.mem_cons.mp hz).elim (fun e=>e▸kt hac) (one hbc z)) rfl j1
 refine⟨t0,t1,t2,⟨p0,p1,p2⟩,aB B.tables rfl ?_⟩
 refine aC (au (aK (ad (ae (aa ag)) (ai _ _)) hn)) (aC (au (d:=.dict [] []) (fr:=true) rfl) ?_)
 refine fu (x:=.rng 0 3) (its:=[.int 0,.int 1,.int 2]) (σ':=σ2) rfl rfl ?_ (dT j2.t)
 exact for3 e0 e1 e2
end

set_option maxRecDepth 100000
noncomputable def pn:Fn:=⟨["_law_script"],[
  .assign "_law_built_here" (.call "_law_built" [.var "_law_script"]),
  .assign "_law_widths_here" (.call "_law_widths" [.var "_law_script"]),
  .assign "_law_found" (.call "width" [.sub (.var "_law_built_here") (.int 0),.var "_law_widths_here"]),
  .ite (.bop .Or [.not (.isi (.var "_law_found") "int"),.isi (.var "_law_found") "bool",.cmp .NotEq (.var "_law_found") (.sub (.var "_law_built_here") (.int 1))]) [.ret (.bool false)] [],
  .ite (.bop .Or [.cmp .NotEq (.var "_law_widths_here") (.call "_law_widths" [.var "_law_script"]),.cmp .NotEq (.lcp (.var "_law_widths_here")) (.call "_law_names" [.var "_law_script"])]) [.ret (.bool false)] [],
  .assign "_law_rows" (.call "answer" [.sub (.var "_law_built_here") (.int 0),.call "_law_tables" [.var "_law_script",.int 0]]),
  .ite (.not (.isi (.var "_law_rows") "list")) [.ret (.bool false)] [],
  .ret (.not (.comp (.var "_law_row") "_law_row" (.var "_law_rows") [.bop .Or [.not (.isi (.var "_law_row") "tuple"),.cmp .NotEq (.blt "len" [.var "_law_row"]) (.var "_law_found")]]))]⟩
noncomputable def PP:List (String×Fn):=[("before",jo),("does",nd),("_law_one_by",eI),("rank",qB),("told_of",ii),("holds",k9),("alike",ou),("_law_many",fX),("_law_clause_by",cF),("_law_pairs_by",fC),("_law_thing_by",dX),("once",nb),("ordered",ik),("grouped",il),("cells_at",jJ),("keeps",k8),("meets",k7),("places_of",iM),("need_columns",dW),("_law_keys_by",fZ),("_law_sums_by",fS),("_law_places_by",eU),("_law_clauses_by",cr),("_law_of_two",dK),("_law_sieve_on",dY),("_law_rows_of",fV),("_law_rows_by",fW),("stepped",ij),("met",pk),("_law_sign_by",fU),("width_upon",eH),("width_of_two",fB),("_law_wide_by",fR),("_law_leaf",fY),("_law_mixed",iO),("_law_around",dL),("_law_cell_at",ge),("_law_stepped",fT),("_law_tables",gS),("answer",gF),("_law_names",iN),("width",ot),("_law_widths",gR),("_law_built",iP),("law",pn)]
noncomputable def X7:CF:=⟨fun _ _=>none,fun x=>if x="STEPS" then some (.tup dN) else none⟩
theorem bt:BT PP:={ toBE:=⟨⟨⟨⟨rfl,rfl,rfl,rfl⟩,rfl,rfl⟩,rfl,rfl,rfl,rfl,rfl,rfl,rfl,rfl,rfl⟩,rfl,rfl,rfl,rfl,rfl,rfl,rfl⟩,toBA:=⟨rfl,rfl,rfl,rfl,rfl,rfl,rfl,rfl,rfl,rfl,rfl,rfl,rfl,rfl,rfl⟩,rowsBy:=rfl,tables:=rfl }
theorem bw:BW PP:=⟨rfl,rfl,rfl,rfl,rfl⟩
theorem pL{cf:CF}{z:String}{e:ME}{r:List MS}{σ:St}{d R:D}{fr f:Bool}(h:evF cf (vis σ) e=some (d,fr))(k:∀ σ':St,(∀ x u,(x == z)=false→Has σ x u→Has σ' x u)→Has σ' z d→Run cf r σ' R f):Run cf (.assign z e::r) σ R f:=
 aC (au h) (k _ (fun x u hx i=>al hx (aw i)) az)
theorem skX{cf:CF}{e:ME}{σ:St}{t r:List MS}{R:D}{fr k:Bool}(h:evE cf (vis σ) e=some (.bool k))(hk:k=false)(z:Run cf r σ R fr):Run cf (.ite e t []::r) σ R fr:=bb (k:=false) (x:=.bool false) (hk▸h) rfl nofun fun _=>z
theorem eqS_self{d:D}(h:d.isCell=true):eqS d d=some true:=gH (C:=fun d=>eqS d d=some true) h (fun i=>by show some (i == i)=_;rw[beq_self_eq_true]) fun x=>by show some (x == x)=_;rw[beq_self_eq_true]
theorem io:∀ {l:List D},(∀ d∈l,d.isCell=true)→gf l l=some true
 | [],_=>rfl
 | d::l,h=>by
  show (eqS d d).bind _=_
  rw[eqS_self (h d (.head _))]
  show (gf l l).map _=_
  rw[io fun x hx=>h x (.tail _ hx)];rfl
theorem pp{x y z:D}(hx:x.isCell=true)(hy:y.isCell=true)(hz:z.isCell=true):∀ d∈[x,y,z],d.isCell=true:=fun d hd=>(List.mem_cons.mp hd).elim (fun e=>e▸hx) fun hd=>(List.mem_cons.mp hd).elim (fun e=>e▸hy) fun hd=>List.mem_singleton.mp hd▸hz
theorem nY{a b:D}(h:eqX a b=some true):dZ .NotEq a b=some (.bool false):=by
 show (eqX a b).map (fun x=>D.bool (!x))=_
 rw[h];rfl
theorem wd_same(a b c:Str)(x y z:Nat):dZ .NotEq (W3 a b c x y z).d (W3 a b c x y z).d=some (.bool false):=by
 refine nY ((if_pos ?_).trans (io (l:=[aY x,aY y,aY z]) (pp rfl rfl rfl)))
 have e:aO [D.str a,.str b,.str c] [D.str a,.str b,.str c]=true:=iT (pp rfl rfl rfl)
 show ([D.str a,.str b,.str c].all D.isCell&&aO [D.str a,.str b,.str c] [D.str a,.str b,.str c]&&_)=true
 rw[e];rfl
theorem nm_same(a b c:Str):dZ .NotEq (.list [.str a,.str b,.str c]) (.list [.str a,.str b,.str c])=some (.bool false):=by
 refine nY ?_
 show (if [D.str a,.str b,.str c].length=[D.str a,.str b,.str c].length then gf [D.str a,.str b,.str c] [D.str a,.str b,.str c] else some false)=_
 rw[if_pos rfl]
 exact io (pp rfl rfl rfl)
theorem pure_ok(n:Nat)(ns:List Int):∃ fr,(am PP X7 (n+61)).call "law" [.list (ns.map .int)]=some (.bool true,fr):=by
 have hX:X7.glob "STEPS"=some (.tup dN):=rfl
 obtain⟨a,b,c,⟨hab,hac,hbc⟩,hn⟩:=names_eq (X:=X7) bt.toBE ns
 have hw:(am PP X7 (n+60)).call "_law_widths" [.list (ns.map .int)]=_:=widths_eq bt.toBE (n+57) ns hab hac hbc (hn (n+57))
 have hnm:(am PP X7 (n+60)).call "_law_names" [.list (ns.map .int)]=_:=hn (n+58)
 obtain⟨t0,t1,t2,⟨p0,p1,p2⟩,ht⟩:=tables_eq (X:=X7) bt (n+55) ns 0 hab hac hbc (hn (n+57))
 obtain⟨d,fr,⟨q,r,k,t,rfl⟩,hb⟩:=built_eq bt.toBE (n+51) fun n k hk=>leaf_eq bt.toBE n ns hab hac hbc (hn n) k hk
 have e2:(b == a)=false:=beq_false_of_ne hab.symm
 have e3:(c == a)=false:=beq_false_of_ne hac.symm
 have e4:(c == b)=false:=beq_false_of_ne hbc.symm
 have hT:sr (W3 a b c (aJ (ns.getD 0 0)) (aJ (ns.getD 1 0)) (aJ (ns.getD 2 0))) (W3 a b c (cz (ns.getD 0 0)) (cz (ns.getD 1 0)) (cz (ns.getD 2 0))) [(a,t0),(b,t1),(c,t2)]:=fun nm k h=>by
  unfold W3 at h ⊢
  rw[List.lookup_cons] at h ⊢
  cases x1:nm == a with
  | true=>
   rw[x1] at h
   exact⟨t0,rfl,Option.some.inj h▸p0.1,fun r hr=>by rw[List.lookup_cons,x1] at hr;exact Option.some.inj hr▸Nat.le_of_eq p0.2⟩
  | false=>
   rw[x1] at h
   dsimp only at h ⊢
   rw[List.lookup_cons] at h ⊢
   cases x2:nm == b with
   | true=>
    rw[x2] at h
    exact⟨t1,rfl,Option.some.inj h▸p1.1,fun r hr=>by rw[List.lookup_cons,x1] at hr;dsimp only at hr;rw[List.lookup_cons,x2] at hr;exact Option.some.inj hr▸Nat.le_of_eq p1.2⟩
   | false=>
    rw[x2] at h
    dsimp only at h ⊢
    rw[List.lookup_cons] at h ⊢
    cases x3:nm == c with
    | true=>
     rw[x3] at h
     exact⟨t2,rfl,Option.some.inj h▸p2.1,fun r hr=>by rw[List.lookup_cons,x1] at hr;dsimp only at hr;rw[List.lookup_cons,x2] at hr;dsimp only at hr;rw[List.lookup_cons,x3] at hr;exact Option.some.inj hr▸Nat.le_of_eq p2.2⟩
    | false=>rw[x3] at h;cases h
 have hdp:=t.dp
 have hwd:(am PP X7 (n+60)).call "width" [q.d,Wd.d _]=_:=cy bw hX q (n+57) t.ok (by omega)
 have han:(am PP X7 (n+60)).call "answer" [q.d,Tbs.d _]=_:=bV bt.toBA hX hT q r (n+55) t.ok t.rb t.r t.nar (by omega)
 have hok:=bW hT q r t.ok t.rb
 have hl:(q.ans [(a,t0),(b,t1),(c,t2)]).length≤big:=Nat.le_trans hok.2 (Nat.le_trans t.r (by decide))
 have same:=wd_same a b c (aJ (ns.getD 0 0)) (aJ (ns.getD 1 0)) (aJ (ns.getD 2 0))
 have lst:n0 (W3 a b c (aJ (ns.getD 0 0)) (aJ (ns.getD 1 0)) (aJ (ns.getD 2 0))).d=some [.str a,.str b,.str c]:=rfl
 have u0:aT (aF (W3 a b c (aJ (ns.getD 0 0)) (aJ (ns.getD 1 0)) (aJ (ns.getD 2 0))) q r k) (.int 0)=some q.d:=rfl
 have u1:aT (aF (W3 a b c (aJ (ns.getD 0 0)) (aJ (ns.getD 1 0)) (aJ (ns.getD 2 0))) q r k) (.int 1)=some (.int (q.wd (W3 a b c (aJ (ns.getD 0 0)) (aJ (ns.getD 1 0)) (aJ (ns.getD 2 0))))):=rfl
 refine⟨false,aB (by rfl:PP.lookup "law"=some pn) rfl ?_⟩
 show Run _ pn.body [("_law_script",(false,.list (ns.map .int)))] _ _
 generalize aF (W3 a b c (aJ (ns.getD 0 0)) (aJ (ns.getD 1 0)) (aJ (ns.getD 2 0))) q r k=T at *
 generalize q.wd (W3 a b c (aJ (ns.getD 0 0)) (aJ (ns.getD 1 0)) (aJ (ns.getD 2 0)))=w at *
 generalize (W3 a b c (aJ (ns.getD 0 0)) (aJ (ns.getD 1 0)) (aJ (ns.getD 2 0))).d=V at *
 generalize q.ans [(a,t0),(b,t1),(c,t2)]=A at *
 generalize Tbs.d [(a,t0),(b,t1),(c,t2)]=U at *
 generalize D.list (ns.map .int)=S at *
 have hb:(am PP X7 (n+60)).call "_law_built" [S]=some (T,fr):=hb
 have ht:(am PP X7 (n+60)).call "_law_tables" [S,.int 0]=some (U,true):=ht
 generalize am PP X7 (n+60)=cf at *
 refine pL (aK (ad (ae (aa ag)) (ai _ _)) hb) fun σ1 f1 z1=>?_
 have s1:=f1 _ _ rfl ag
 refine pL (aK (ad (ae (aa s1)) (ai _ _)) hw) fun σ2 f2 z2=>?_
 have s2:=f2 _ _ rfl s1
 have b2:=f2 _ _ rfl z1
 refine pL (aK (ad (av (ae (aa b2)) (af _ _ _) u0) (ad (ae (aa z2)) (ai _ _))) hwd) fun σ3 f3 z3=>?_
 have s3:=f3 _ _ rfl s2
 have b3:=f3 _ _ rfl b2
 have w3:=f3 _ _ rfl z2
 refine skX (gX (k:=false) (l:=false||false) (jy (k:=true) (lU (ae (aa z3)) rfl) rfl) fun _=>gX (k:=false) (l:=false) (lU (ae (aa z3)) rfl) fun _=>bS (aA (ae (aa z3)) (av (ae (aa b3)) (af _ _ _) u1) (nW w))) rfl ?_
 refine skX (gX (k:=false) (l:=false) (aA (ae (aa w3)) (ay (ad (ae (aa s3)) (ai _ _)) hw) same) fun _=>bS (aA (v_lcp (ae (aa w3)) lst) (ay (ad (ae (aa s3)) (ai _ _)) hnm) (nm_same a b c))) rfl ?_
 refine pL (aK (ad (av (ae (aa b3)) (af _ _ _) u0) (ad (ay (ad (ae (aa s3)) (ad (af _ _ _) (ai _ _))) ht) (ai _ _))) han) fun σ4 f4 z4=>?_
 have g4:=f4 _ _ rfl z3
 refine skX (jy (k:=true) (lU (ae (aa z4)) rfl) rfl) rfl ?_
 refine aP (ax (jy (k:=false) (gY (ds:=[]) (z:="_law_row") (its:=A.map .tup) (ae (aa z4)) rfl (by rw[List.length_map];exact hl) (ll _ _ fun it hit=>?_)) rfl) rfl rfl) rfl
 obtain⟨row,hrow,rfl⟩:=List.mem_map.mp hit
 have hlen:eZ "len" [.tup row]=some (.int w):=by show some (D.int (row.length:Nat))=_;rw[(hok.1 row hrow).1]
 exact js (k:=false) (y:=.none) (gX (k:=false) (l:=false) (jy (k:=true) (lU (ae cT) rfl) rfl) fun _=>bS (aA (cn (ad (ae cT) (ai _ _)) hlen) (ae (bP rfl (aa g4))) (nW w))) rfl nofun

noncomputable def GlobOk(mg:Str→Option Value)(h:Heap):Prop:=∃ a vs n,mg (Str.ofString "STEPS")=some (.ref a)∧h.get? a=some (cV vs n)∧iB vs.toList l5=true
theorem GlobOk.keeps{mg:Str→Option Value}{h h':Heap}(x:GlobOk mg h)(hk:∀ b o,h.get? b=some o→h'.get? b=some o):GlobOk mg h':=let ⟨a,vs,n,h1,h2,h3⟩:=x;⟨a,vs,n,h1,hk _ _ h2,h3⟩
theorem glob_of(s:Shared)(e:stepsAt s=true):GlobOk (s.heap.nsMap mainGlobals) s.heap:=by
 unfold stepsAt at e
 split at e
 ·rename_i a ha
  split at e
  ·rename_i o ho
   unfold nD at e
   simp only[Bool.and_eq_true,beq_iff_eq,Option.isNone_iff_eq_none,Array.isEmpty_iff] at e
   obtain⟨⟨⟨e1,e2⟩,e3⟩,e4⟩:=e
   split at e1
   ·rename_i vs n hd
    refine⟨a,vs,n,ha,?_,e1⟩
    rw[ho]
    obtain⟨c,d,dt,sl⟩:=o
    dsimp only at e2 e3 e4 hd
    subst e2 e3 e4 hd
    rfl
   ·cases e1
  ·cases e
 ·cases e
theorem l6{P:Params}{h:Heap}{H:Addr→Prop}:∀ {vs:List Value} {ys:List Str},iB vs ys=true→aq P h H vs (ys.map .str)
 | [],[],_=>.nil
 | [],_::_,e=>by cases e
 | _::_,[],e=>by cases e
 | v::vs,y::ys,e=>by
  rw[iB,Bool.and_eq_true] at e
  obtain⟨e1,e2⟩:=e
  refine .cons ?_ (l6 e2)
  cases v <;> first | (cases e1;done) | skip
  rename_i x t
  have e3:(x == y)=true:=e1
  rw[beq_iff_eq] at e3
  subst e3
  exact .str _ _
theorem hx7{prog:Program}{w:World}{base:Heap}{mg:Str→Option Value}{A:Around}(g:GlobOk mg base):dn prog w base mg X7 A:=by
 refine⟨(fun _ _ _ _ h=>nomatch h),fun x d h=>?_⟩
 have h:(if x="STEPS" then some (D.tup dN) else none)=some d:=h
 split at h
 ·rename_i hx
  cases h
  subst hx
  obtain⟨a,vs,n,h1,h2,h3⟩:=g
  refine⟨_,h1,.tup h2 (fun q=>q) (by decide) ?_⟩
  exact l6 h3
 ·cases h
end Mine
namespace Mine
open PySem PySem.W PyProof.Rows
set_option maxRecDepth 100000
set_option maxHeartbeats 0
theorem chkd:nj (recsOf vw) PP=true:=by decide +kernel
theorem freed:ki vw (looseW vw [])=true:=by decide +kernel
end Mine
open PySem PySem.W PyProof.Rows
set_option maxRecDepth 100000 in
set_option maxHeartbeats 8000000 in
theorem PySem.Challenge.cw_uf030018_08_holds : PySem.Challenge.rw_uf030018_08.Holds := by
 refine holds_law Mine.ws fun said=>?_
 refine holds_open (q:=Mine.vw) (loose:=[]) (Xt:=fun s=>(xlAt Mine.vw [] s&&recOk (RowW.records PySem.Challenge.rw_uf030018_08.row.toRowW) s)&&(Mine.tbAt s&&Mine.stepsAt s)) (XP:=(fun mg h=>XL Mine.vw [] mg h∧Mine.TbOk mg h∧Mine.GlobOk mg h)) (Yf:=Hook.obs Hook.none) (Ya:=Hook.val Hook.none) (YP:=Hook.says Hook.none) (N:=20000) Mine.left (Hook.of Hook.none) (Hook.keeps Hook.none) (fun s e=>⟨xl_of s (Bool.and_eq_true_iff.mp (Bool.and_eq_true_iff.mp e).1).1,Mine.tb_of s (Bool.and_eq_true_iff.mp (Bool.and_eq_true_iff.mp e).2).1,Mine.glob_of s (Bool.and_eq_true_iff.mp (Bool.and_eq_true_iff.mp e).2).2⟩) (fun mg h h' x k=>⟨XL.keeps mg h h' x.1 k,Mine.TbOk.keeps x.2.1 k,Mine.GlobOk.keeps x.2.2 k⟩) Mine.dlDef Mine.dlIs Mine.dlKw (fun s e=>recFacts_of (Bool.and_eq_true_iff.mp (Bool.and_eq_true_iff.mp e).1).2) (by rfl) said Mine.okAll ⟨rfl,rfl,rfl,rfl,rfl,by decide +kernel⟩ ?hw ?hc
 (case hw=>w_witness2)
 intro w s₀ s₁ mg mb G Y fa o pm cd doc dV kV ho hd hcd hD hmg hg args vals as hpre hlay hrd hwl hlo
 rw[Mine.dlName] at hmg
 refine Ground.open G ?_
 intro T B D TE TW
 wrow_args hpre hlay hrd hwl hlo
 exact Mine.law_fin (P:=Mine.PP) (X:=Mine.X7) 61 T Mine.chkd Mine.freed (by decide) (fun _ _=>Mine.hx7 G.X.2.2) G.X.2.1 hmg hg (by assumption) (by assumption) (Mine.pure_ok _ _)
