import PyProof.Rows.All
import Wide.All
import Open.Line
import Wide.FinOn
import PyProof.Cells
import PyProof.RangeIter
import PyProof.CodeObjX
import PyProof.FactsAll.tuple
import PyProof.DictKinds
import PyProof.CompMap
import PyProof.DictKind
import PyProof.Rows.Tup
import PyProof.DictRoads
import PyProof.DictDisplay
import PyProof.NeKinds
import PyProof.DictRoadsH
import PyProof.StrBlockI
import PyProof.StrBlock2
import KE.KSortTup
import PyProof.CompFree
import PyProof.Rows.Walk
import PyProof.Rows.IntRules
import PyProof.Rows.RuleB_mul
import PyProof.Rows.RuleB_floordiv
import PyProof.Rows.RuleB_pow
import PyProof.Rows.RuleB_mod
import PyProof.Rows.RuleC_int
import PyProof.Rows.RuleU_int
import PyProof.Rows.StrRules
import PyProof.Rows.Nodes
import PyProof.Rows.TupSub
import PyProof.ListOps
import PyProof.TupleOps
import PyProof.DictStraight
import PyProof.Rows.Lst
import PyProof.Rows.TupMore
import PyProof.Rows.StrTemp
import PyProof.ListTruth
import PyProof.TupleOfSeq
import PyProof.CallStr
import PyProof.RangeFor
import PyProof.Conv_int_bool
import PyProof.SliceStr2
import PyProof.SliceMore
import PyProof.ListIndexNeg
import PyProof.IsiPairs
import PyProof.IsiHeapPairs
import PyProof.Rows.Exc
import PyProof.Rows.Globals
import PyProof.IsiTuple
import PyProof.ListCopy
import PyProof.WalkInts
import PyProof.Rows.SumAny
import KE.KDictList
import PyProof.DictWalks
import PyProof.WalksMore
import PyProof.Rows.StrTempNeg
import PyProof.Rows.SortRuns
import PyProof.SetKind
import PyProof.SetRoads
import PyProof.Rows.SetFrom
import PyProof.Rows.SortShell
import PyProof.Rows.RuleB_bool
import KE.KLam
import PyProof.ForAppend
import KE.KRevIter
import PyProof.TupleCall
import PyProof.CallTypeRange
import PySem.Challenge.RW_uf030018_10
set_option Elab.async false
set_option linter.all false
set_option backward.eqns.nonrecursive false
set_option genSizeOf false
namespace Mine
open PySem PySem.W PyProof.Rows
noncomputable def tb:Addr:=125
noncomputable def oc:Addr:=129
noncomputable def rP:Str:=Str.ofString "ordered"
noncomputable def tW{α:Type}(l:Option α)(f:α→Bool):Bool:=match l with | some x=>f x | none=>false
noncomputable def cRef(v:Option Value)(f:Addr→Bool):Bool:=tW v fun v=>match v with | .ref a=>f a | _=>false
noncomputable def cObj(o:Option Obj)(f:Data→Bool):Bool:=tW o fun o=>f o.data
noncomputable def tbAt(s:Shared):Bool:=cRef (s.heap.nsMap mainGlobals rP) fun a=>cObj (s.heap.get? a) fun d=>match d with
 | .func fd=>fd.code == .ref oc&&cObj (s.heap.get? oc) fun d=>match d with
  | .fields vs=>vs[11]? == some (.ref tb)
  | _=>false
 | _=>false
noncomputable def nZ:List Str:=["table","sieve","pick","join","group","order","both","once","first"].map Str.ofString
noncomputable def strIs(v:Value)(y:Str):Bool:=match v with
 | .str x _=>x == y
 | _=>false
noncomputable def jO:List Value→List Str→Bool
 | [],[]=>true
 | v::vs,y::ys=>strIs v y&&jO vs ys
 | _,_=>false
noncomputable def pY(o:Obj):Bool:=(match o.data with | .seq vs _=>jO vs.toList nZ | _=>false)&&o.cls == .type "tuple"&&o.dict.isNone&&o.slots.isEmpty
noncomputable def stepsAt(s:Shared):Bool:=match s.heap.nsMap mainGlobals (Str.ofString "STEPS") with
 | some (.ref a)=>(match s.heap.get? a with | some o=>pY o | none=>false)
 | _=>false
set_option maxRecDepth 100000
set_option maxHeartbeats 0
noncomputable def keepS:Stmt→Bool
 | .Assign [.Name x _] _ _=>x != Str.ofString "__name__"
 | _=>true
noncomputable def vw:Program:={ PySem.Challenge.pw_uf030018_10 with main:={ PySem.Challenge.pw_uf030018_10.main with body:=PySem.Challenge.pw_uf030018_10.main.body.filter keepS } }
theorem glue{S A B C Y:Type _}{o:Option S}{f:S→A×B}{g:S→C×Y}{F:S→(A×B×C)×Y}{a:A}{b:B}{c:C}{y:Y}(h1:o.map f=some (a,b))(h2:o.map g=some (c,y))(hF:∀ s,F s=(((f s).1,(f s).2,(g s).1),(g s).2)):o.map F=some ((a,b,c),y):=by
 cases o with
 | none=>cases h1
 | some s=>exact congrArg some ((hF s).trans (by rw[Option.some.inj h1,Option.some.inj h2]))
theorem leftA(w:World):(openEnds treeTable PySem.Challenge.pw_uf030018_10 w 20000).map (fun s=>(seen ((recsOf vw).map (·.name)) (ownsOf vw) [] { s with gens:=#[] },s.heap.bltView))=some (expectedOf vw,bltViewBooted):=by kernel_rfl
theorem leftB(w:World):(openEnds treeTable PySem.Challenge.pw_uf030018_10 w 20000).map (fun s=>((openSeen vw [] (importedModules PySem.Challenge.pw_uf030018_10.main.body) (fun s=>(xlAt vw [] s&&recOk (RowW.records PySem.Challenge.rw_uf030018_10.row.toRowW) s)&&(tbAt s&&stepsAt s)) true s).2.2,Hook.obs Hook.none s))=some ((openGood vw []).2.2,Hook.val Hook.none w):=by kernel_rfl
theorem left:LeftO PySem.Challenge.pw_uf030018_10 vw [] (fun s=>(xlAt vw [] s&&recOk (RowW.records PySem.Challenge.rw_uf030018_10.row.toRowW) s)&&(tbAt s&&stepsAt s)) (Hook.obs Hook.none) (Hook.val Hook.none) 20000:=fun w=>glue (leftA w) (leftB w) fun _=>rfl
theorem ws:OpenLaw.wellSaid PySem.Challenge.rw_uf030018_10=true:=by decide +kernel
theorem uU:(defOf vw (Str.ofString "law")).isSome=true:=by decide +kernel
noncomputable def dl:DefRec×List (Str×Expr):=(defOf vw (Str.ofString "law")).get uU
theorem dlDef:defOf vw PySem.Challenge.rw_uf030018_10.row.name=some (dl.1,dl.2):=(Option.some_get uU).symm
theorem dlIs:PySem.Challenge.rw_uf030018_10.row.prog.theDef PySem.Challenge.rw_uf030018_10.row.name=some (dl.1.params,dl.1.body,dl.1.scope):=by kernel_rfl
theorem dlKw:kwWritten? dl.1.params.kwonlyargs dl.1.params.kw_defaults=some dl.2:=by kernel_rfl
theorem dlName:dl.1.name=Str.ofString "law":=by kernel_rfl
theorem okAll:(chainsOk vw&&opensWell PySem.Challenge.rw_uf030018_10.row.prog&&(frees PySem.Challenge.rw_uf030018_10.row.toRowW&&PySem.Challenge.rw_uf030018_10.row.within.isEmpty))=true:=by decide +kernel
end Mine
namespace Mine
open PySem
noncomputable def lamP:Str:=rP++".<locals>."
noncomputable def mH:Str:=lamP++"<lambda>"
noncomputable def qK(d:Data):Bool:=match d with
 | .fields _=>true
 | _=>false
noncomputable def tz(c:Value):Bool:=match c with
 | .none=>true
 | .type s=>s == "code"
 | _=>false
noncomputable def bn(o:Obj):Bool:=qK o.data&&tz o.cls
noncomputable abbrev tP:Obj:={ cls:=.none,data:=.fields #[] }
noncomputable def gB(h:Heap)(c:Addr):Prop:=∃ o vs t,h.get? c=some o∧o.cls=.type "code"∧o.data=.fields vs∧vs[1]?=some (.str mH t)
inductive ii(h:Heap):List Value→Prop
 | nil:ii h []
 | cons {a t b u c r} (hc:gB h c) (hr:ii h r):ii h (.int a t::.int b u::.ref c::r)
noncomputable def hY(h:Heap)(o:Obj):Prop:=∃ xs,o={ cls:=.none,data:=.fields xs }∧ii h xs.toList
open Classical in
noncomputable def gat(h:Heap)(a:Addr):Option Obj:=
 if a=tb then (h.get? a).bind fun o=>if bn o=true then (if hY h o then some tP else none) else some o else h.get? a

section
variable {h h':Heap} {a:Addr} {o:Obj}
theorem isTab_code(hc:o.cls=.type "code"){vs:Array Value}(hd:o.data=.fields vs):bn o=true:=by
 unfold bn;rw[hc,hd];rfl
noncomputable abbrev KC(h h':Heap):Prop:=∀ b o,h.get? b=some o→bn o=true→o.cls≠.none→h'.get? b=some o
theorem gB.mono{c:Addr}(x:gB h c)(hk:KC h h'):gB h' c:=
 x.elim fun o x=>x.elim fun vs x=>x.elim fun t x=>⟨o,vs,t,hk _ _ x.1 (isTab_code x.2.1 x.2.2.1) (by rw[x.2.1];nofun),x.2⟩
theorem ii.mono(hk:KC h h'){l:List Value}(x:ii h l):ii h' l:=x.rec .nil fun hc _ ih=>.cons (hc.mono hk) ih
theorem ii.triples{l:List Value}(x:ii h l):TriplesOk l:=x.rec trivial fun _ _ ih=>ih
theorem ii.snoc{c:Addr}(a b:Int)(hc:gB h c){l:List Value}(x:ii h l):ii h (l++[rawInt a,rawInt b,.ref c]):=x.rec (.cons hc .nil) fun hc _ ih=>.cons hc ih
theorem ii.among{pos:Pos}{v:Value}{l:List Value}(x:ii h l):codeAmong pos l=some v→∃ c,v=.ref c∧gB h c:=x.rec (fun e=>nomatch e) fun {a t b u c r} hc _ ih e=>by
 simp only[codeAmong] at e
 split at e
 ·cases e;exact⟨c,rfl,hc⟩
 ·exact ih e
theorem hY.mono(x:hY h o)(hk:KC h h'):hY h' o:=x.elim fun xs x=>⟨xs,x.1,x.2.mono hk⟩
theorem hY.tab(x:hY h o):bn o=true:=let ⟨_,e,_⟩:=x;e▸rfl
theorem hY.empty:hY h tP:=⟨#[],rfl,.nil⟩

theorem Heap.gt_ne(hn:a≠tb):gat h a=h.get? a:=by unfold gat;rw[if_neg hn]
theorem Heap.gt_of(e:h.get? a=some o)(ht:bn o=false:=by rfl):gat h a=some o:=by
 unfold gat;split
 ·rw[e,Option.bind_some,if_neg (by rw[ht];nofun)]
 ·exact e
theorem Heap.gt_good(e:h.get? tb=some o)(g:hY h o):gat h tb=some tP:=by
 unfold gat;rw[if_pos rfl,e,Option.bind_some,if_pos g.tab,if_pos g]
theorem Heap.gt_some(e:gat h a=some o):∃ o',h.get? a=some o'∧(o'=o∧(a=tb→bn o=false)∨a=tb∧o=tP∧hY h o'):=by
 unfold gat at e
 split at e
 ·rename_i q
  rw[Option.bind_eq_some_iff] at e
  obtain⟨o',e1,e2⟩:=e
  split at e2
  ·split at e2
   ·rename_i g;cases e2;exact⟨o',e1,.inr ⟨q,rfl,g⟩⟩
   ·cases e2
  ·rename_i ht;cases e2;exact⟨_,e1,.inl ⟨rfl,fun _=>by simpa using ht⟩⟩
 ·rename_i q;exact⟨o,e,.inl ⟨rfl,fun e=>absurd e q⟩⟩
theorem Heap.of_gt'(e:gat h a=some o)(hne:o.cls≠.none):h.get? a=some o:=by
 obtain⟨o',e1,⟨rfl,_⟩ | ⟨_,e2,_⟩⟩:=gt_some e
 ·exact e1
 ·subst e2;exact absurd rfl hne
theorem Heap.of_gt(e:gat h a=some o)(ht:bn o=false:=by rfl):h.get? a=some o:=by
 obtain⟨o',e1,⟨rfl,_⟩ | ⟨_,e2,_⟩⟩:=gt_some e
 ·exact e1
 ·subst e2;cases ht
theorem Heap.gt_lt(e:gat h a=some o):@LT.lt Nat _ a h.objs.size:=let ⟨_,e,_⟩:=gt_some e;Heap.lt_size e
theorem Heap.gt_lift{F:Addr→Prop}(hF:∀ b o,h.get? b=some o→bn o=true→F b)(hk:∀ b o,F b→h.get? b=some o→h'.get? b=some o):∀ b o,F b→gat h b=some o→gat h' b=some o:=fun b o f e=>by
 obtain⟨o',e',⟨rfl,q⟩ | ⟨rfl,rfl,g⟩⟩:=gt_some e
 ·by_cases hb:b=tb
  ·exact gt_of (hk b o' f e') (q hb)
  ·rw[gt_ne hb];exact hk b o' f e'
 ·exact gt_good (hk _ o' f e') (g.mono fun b o e ht _=>hk b o (hF b o e ht) e)
noncomputable def KH(h h':Heap):Prop:=∀ b o,gat h b=some o→gat h' b=some o
theorem Heap.gt_up(hk:∀ b o,h.get? b=some o→h'.get? b=some o):KH h h':=
 fun b o e=>gt_lift (F:=fun _=>True) (fun _ _ _ _=>trivial) (fun b o _ e=>hk b o e) b o trivial e
theorem Heap.gt_push_of_some(x:Obj)(e:gat h a=some o):gat (h.push x) a=some o:=gt_up (fun _ _ e=>Heap.get?_push_of_some _ e) a o e
theorem Heap.gt_push_size(x:Obj)(hf:x.isFreed=false)(ht:bn x=false:=by rfl):gat (h.push x) h.objs.size=some x:=gt_of (Heap.get?_push_size _ hf) ht
theorem Heap.gt_none_of_le(e:@LE.le Nat _ h.objs.size a):gat h a=none:=by
 cases q:gat h a with
 | none=>rfl
 | some o=>obtain⟨o',e',_⟩:=gt_some q;rw[Heap.get?_none_of_le e] at e';cases e'
theorem g1{b:Addr}(hs:Heap.SameBut b h h')(n:∀ o,h.get? b=some o→bn o=false)(a:Addr)(hn:a≠b)(e:gat h a=some o):gat h' a=some o:=
 Heap.gt_lift (F:=fun x=>x≠b) (fun x o e ht q=>by rw[n o (q▸e)] at ht;cases ht) (fun x o hx e=>(hs.2 x hx).trans e) a o hn e
structure Heap.SB(b:Addr)(h h':Heap):Prop where
 s:Heap.SameBut b h h'
 n:∀ o,h.get? b=some o→bn o=false
 n':∀ o,h'.get? b=some o→bn o=false
theorem Heap.SB.g{b:Addr}(hs:Heap.SB b h h')(a:Addr)(hn:a≠b):gat h' a=gat h a:=by
 have one:∀ {h h':Heap},Heap.SB b h h'→∀ o,gat h a=some o→gat h' a=some o:=fun {h h'} hs o e=>
  gt_lift (F:=fun x=>x≠b) (fun x o e ht q=>by rw[hs.n o (q▸e)] at ht;cases ht) (fun x o hx e=>(hs.s.2 x hx).trans e) a o hn e
 have hs':Heap.SB b h' h:=⟨⟨hs.s.1.symm,fun x hx=>(hs.s.2 x hx).symm⟩,hs.n',hs.n⟩
 cases q:gat h a with
 | some o=>exact one hs o q
 | none=>
  cases q':gat h' a with
  | none=>rfl
  | some o=>rw[one hs' o q'] at q;cases q
theorem bZ{o:Obj}(h:∀ v,o.data≠.fields v):bn o=false:=by
 have e:qK o.data=false:=by
  generalize o.data=d at h
  cases d <;> first | rfl | exact absurd rfl (h _)
 unfold bn;rw[e];rfl
theorem notTab_cls{o:Obj}(h:o.cls≠.none)(h2:o.cls≠.type "code"):bn o=false:=by
 have e:tz o.cls=false:=by
  generalize o.cls=c at h h2
  cases c <;> first | rfl | exact absurd rfl h | exact decide_eq_false fun e=>h2 (congrArg Value.type e)
 unfold bn;rw[e,Bool.and_false]
theorem bH(e:h.get? a=some o)(ht:bn o=false:=by rfl):∀ o,h.get? a=some o→bn o=false:=fun o' e'=>by
 rw[e] at e';cases e';exact ht
theorem eO{m:Str→Option Value}(x:h.Ns a m):∀ o,h.get? a=some o→bn o=false:=
 let ⟨_,_,_,e,hd,_⟩:=x;bH e (bZ (by rw[hd];nofun))
theorem iu{v:Option Value}(x:h.IsCell a v):∀ o,h.get? a=some o→bn o=false:=
 let ⟨_,e,hd⟩:=x;bH e (bZ (by rw[hd];nofun))
theorem qT{m:Str→Option Value}(x:h.Ns a m):∃ o,gat h a=some o:=let ⟨_,_,_,e,_⟩:=id x;⟨_,Heap.gt_of e (eO x _ e)⟩
theorem lU{v:Option Value}(x:h.IsCell a v):∃ o,gat h a=some o:=let ⟨_,e,_⟩:=id x;⟨_,Heap.gt_of e (iu x _ e)⟩
end
end Mine
namespace Mine
open PySem

inductive D where
 | none
 | bool (b:Bool)
 | int (i:Int)
 | str (x:Str)
 | tup (ds:List D)
 | list (ds:List D)
 | dict (ks:List D) (vs:List D)
 | rng (a b:Int)
 | ptr (a:Addr)

noncomputable def big:Nat:=2 ^ 24

noncomputable def uK(P:Params):D→Int
 | .int i=>hashInt i
 | .str x=>if x.cps.isEmpty=true then 0 else reduceHash (P.strHash x.cps)
 | _=>0
noncomputable def fW(P:Params):D→Int
 | .tup ds=>reduceHash (Builtin.Tuple.tupleHashOf (ds.map (uK P)))
 | d=>uK P d
noncomputable def D.isCell:D→Bool
 | .int _ | .str _=>true
 | _=>false
noncomputable def D.isKey:D→Bool
 | .int _ | .str _=>true
 | .tup ds=>ds.all D.isCell
 | _=>false

noncomputable abbrev da(vs:Array Value)(n:Nat):Obj:={ cls:=.type "tuple",dict:=Option.none,data:=.seq vs n,slots:=#[] }
noncomputable abbrev fC(vs:Array Value)(n:Nat):Obj:={ cls:=.type "list",dict:=Option.none,data:=.seq vs n,slots:=#[] }
noncomputable abbrev lH(es:Array DictEntry)(n:Nat):Obj:={ cls:=.type "dict",dict:=Option.none,data:=.dict es n,slots:=#[] }

inductive kt(mkO:Array Value→Nat→Obj)(h:Heap)(H:Addr→Prop)(n:Nat)(R:List Value→Prop):Value→Prop
 | mk {a vs k} (ho:h.get? a=some (mkO vs k)) (hn:¬ H a) (hl:n≤big) (hr:R vs.toList):kt mkO h H n R (.ref a)
inductive nM(P:Params)(h:Heap)(H:Addr→Prop)(ks:List D)(R1 R2:List Value→Prop):Value→Prop
 | mk {a es n} (ho:h.get? a=some (lH es n)) (hn:¬ H a) (hl:ks.length≤big) (h1:R1 (es.toList.map (·.key))) (h2:R2 (es.toList.map (·.val))) (hh:es.toList.map (·.hash)=ks.map (fW P)) (hk:ks.all D.isKey=true) (hd:ks.Nodup) (hs:(a == sysModules)=false):nM P h H ks R1 R2 (.ref a)
inductive RRng(h:Heap)(H:Addr→Prop)(lo hi:Int):Value→Prop
 | mk {a t u v} (hr:IsRange h a lo hi 1 t u v) (hn:¬ H a) (hl:-big≤lo∧lo≤big∧-big≤hi∧hi≤big):RRng h H lo hi (.ref a)
inductive u9(i:Int):Value→Prop
 | mk (t):u9 i (.int i t)
inductive u8(x:Str):Value→Prop
 | mk (t):u8 x (.str x t)
inductive dg(p:Value→Prop)(q:List Value→Prop):List Value→Prop
 | mk {v vs} (h1:p v) (h2:q vs):dg p q (v::vs)
mutual
noncomputable def Rep(P:Params)(h:Heap)(H:Addr→Prop)(v:Value)(d:D):Prop:=match d with
 | .none=>v=.none
 | .bool b=>v=.bool b
 | .int i=>u9 i v
 | .str x=>u8 x v
 | .tup ds=>kt da h H ds.length (fun vs=>aq P h H vs ds) v
 | .list ds=>kt fC h H ds.length (fun vs=>aq P h H vs ds) v
 | .dict ks vs=>nM P h H ks (fun l=>aq P h H l ks) (fun l=>aq P h H l vs) v
 | .rng lo hi=>RRng h H lo hi v
 | .ptr a=>v=.ref a
termination_by structural d
noncomputable def aq(P:Params)(h:Heap)(H:Addr→Prop)(vs:List Value)(ds:List D):Prop:=match ds with
 | []=>vs=[]
 | d::ds=>dg (fun v=>Rep P h H v d) (fun l=>aq P h H l ds) vs
termination_by structural ds
end
section
variable {P:Params} {h h':Heap} {H H':Addr→Prop} {v:Value} {d:D} {vs:List Value} {ds:List D}
theorem Rep.int(i:Int)(t:Tok):Rep P h H (.int i t) (.int i):=.mk t
theorem Rep.str(x:Str)(t:Tok):Rep P h H (.str x t) (.str x):=.mk t
theorem Rep.tup{a:Addr}{vs:Array Value}{n:Nat}(ho:h.get? a=some (da vs n))(hn:¬ H a)(hl:ds.length≤big)(hr:aq P h H vs.toList ds):Rep P h H (.ref a) (.tup ds):=.mk ho hn hl hr
theorem aq.nil:aq P h H [] []:=rfl
theorem aq.cons(h1:Rep P h H v d)(h2:aq P h H vs ds):aq P h H (v::vs) (d::ds):=.mk h1 h2
noncomputable abbrev lK(h:Heap)(H:Addr→Prop)(h':Heap):Prop:=∀ a o,¬ H a→gat h a=some o→gat h' a=some o
noncomputable abbrev pQ(h:Heap)(H H':Addr→Prop):Prop:=∀ a o,gat h a=some o→H' a→H a
theorem pM{a:Addr}{o:Obj}(hk:lK h H h')(ho:h.get? a=some o)(hn:¬ H a)(ht:bn o=false):h'.get? a=some o:=Heap.of_gt (hk _ _ hn (Heap.gt_of ho ht)) ht
theorem mt{a:Addr}{o:Obj}(hH:pQ h H H')(ho:h.get? a=some o)(hn:¬ H a)(ht:bn o=false):¬ H' a:=fun x=>hn (hH _ _ (Heap.gt_of ho ht) x)
theorem kt.mono{mkO:Array Value→Nat→Obj}{n:Nat}{R R':List Value→Prop}(ht:∀ vs k,bn (mkO vs k)=false)(hk:lK h H h')(hH:pQ h H H')(r:kt mkO h H n R v)(hR:∀ l,R l→R' l):kt mkO h' H' n R' v:=
 r.rec fun ho hn hl hr=>.mk (pM hk ho hn (ht _ _)) (mt hH ho hn (ht _ _)) hl (hR _ hr)
theorem Rep.mono(hk:lK h H h')(hH:pQ h H H')(r:Rep P h H v d):Rep P h' H' v d:=
 D.rec (motive_1:=fun d=>∀ v,Rep P h H v d→Rep P h' H' v d) (motive_2:=fun ds=>∀ l,aq P h H l ds→aq P h' H' l ds)
  (fun _ r=>r) (fun _ _ r=>r) (fun _ _ r=>r) (fun _ _ r=>r)
  (fun _ ih _ r=>kt.mono (fun _ _=>rfl) hk hH r ih) (fun _ ih _ r=>kt.mono (fun _ _=>rfl) hk hH r ih)
  (fun _ _ i1 i2 _ r=>nM.rec (fun ho hn hl h1 h2 hh hk' hd hs=>.mk (pM hk ho hn rfl) (mt hH ho hn rfl) hl (i1 _ h1) (i2 _ h2) hh hk' hd hs) r)
  (fun _ _ _ r=>RRng.rec (fun hr hn hl=>.mk (pM hk hr hn rfl) (mt hH hr hn rfl) hl) r)
  (fun _ _ r=>r)
  (fun _ r=>r) (fun _ _ i1 i2 _ r=>dg.rec (fun h1 h2=>.mk (i1 _ h1) (i2 _ h2)) r) d v r
theorem aq.mono(hk:lK h H h')(hH:pQ h H H')(r:aq P h H vs ds):aq P h' H' vs ds:=
 List.rec (motive:=fun ds=>∀ l,aq P h H l ds→aq P h' H' l ds) (fun _ r=>r) (fun _ _ ih _ r=>dg.rec (fun h1 h2=>.mk (Rep.mono hk hH h1) (ih _ h2)) r) ds vs r
theorem Rep.keeps(hr:Rep P h H v d)(hk:KH h h'):Rep P h' H v d:=hr.mono (fun a o _ e=>hk a o e) fun _ _ _ x=>x
theorem aq.keeps(hr:aq P h H vs ds)(hk:KH h h'):aq P h' H vs ds:=hr.mono (fun a o _ e=>hk a o e) fun _ _ _ x=>x
theorem Rep.sub(hr:Rep P h H v d)(hH:∀ a,H' a→H a):Rep P h H' v d:=hr.mono (fun _ _ _ e=>e) fun a _ _ x=>hH a x
theorem aq.length(r:aq P h H vs ds):vs.length=ds.length:=
 List.rec (motive:=fun ds=>∀ l,aq P h H l ds→l.length=ds.length) (fun _ r=>congrArg List.length r) (fun _ _ ih _ r=>dg.rec (fun _ h2=>congrArg Nat.succ (ih _ h2)) r) ds vs r
theorem aq.size{vs:Array Value}(r:aq P h H vs.toList ds):vs.size=ds.length:=r.length
theorem aq.append{ws:List Value}{es:List D}(r:aq P h H vs ds)(k:aq P h H ws es):aq P h H (vs++ws) (ds++es):=
 List.rec (motive:=fun ds=>∀ l,aq P h H l ds→aq P h H (l++ws) (ds++es)) (fun l r=>(show l=[] from r)▸k) (fun _ _ ih _ r=>dg.rec (fun h1 h2=>.mk h1 (ih _ h2)) r) ds vs r
theorem aq.get(i:Nat)(r:aq P h H vs ds)(e:ds[i]?=some d):∃ v,vs[i]?=some v∧Rep P h H v d:=
 List.rec (motive:=fun ds=>∀ l i,aq P h H l ds→ds[i]?=some d→∃ v,l[i]?=some v∧Rep P h H v d) (fun _ _ _ e=>by rw[List.getElem?_nil] at e;cases e)
  (fun _ _ ih _ i r=>dg.rec (fun h1 h2=>Nat.rec (fun e=>⟨_,rfl,Option.some.inj e▸h1⟩) (fun i _ e=>ih _ i h2 e) i) r) ds vs i r e
theorem aq.drop(i:Nat)(r:aq P h H vs ds):aq P h H (vs.drop i) (ds.drop i):=
 List.rec (motive:=fun ds=>∀ l i,aq P h H l ds→aq P h H (l.drop i) (ds.drop i)) (fun l i r=>by rw[show l=[] from r,List.drop_nil,List.drop_nil];rfl)
  (fun _ _ ih _ i r=>dg.rec (fun h1 h2=>Nat.rec (.mk h1 h2) (fun i _=>ih _ i h2) i) r) ds vs i r
theorem aq.take(i:Nat)(r:aq P h H vs ds):aq P h H (vs.take i) (ds.take i):=
 List.rec (motive:=fun ds=>∀ l i,aq P h H l ds→aq P h H (l.take i) (ds.take i)) (fun l i r=>by rw[show l=[] from r,List.take_nil,List.take_nil];rfl)
  (fun _ _ ih _ i r=>dg.rec (fun h1 h2=>Nat.rec rfl (fun i _=>.mk h1 (ih _ i h2)) i) r) ds vs i r
end
noncomputable def D.scalar:D→Bool
 | .none | .bool _ | .int _ | .str _=>true
 | _=>false
theorem Rep.scalar{P:Params}{h h':Heap}{H H':Addr→Prop}{v:Value}{d:D}(hr:Rep P h H v d)(hs:d.scalar=true):Rep P h' H' v d:=
 D.casesOn (motive_1:=fun d=>d.scalar=true→Rep P h H v d→Rep P h' H' v d) d (fun _ r=>r) (fun _ _ r=>r) (fun _ _ r=>r) (fun _ _ r=>r) (fun _ h=>nomatch h) (fun _ h=>nomatch h) (fun _ _ h=>nomatch h) (fun _ _ h=>nomatch h)
  (fun _ h=>nomatch h)
  hs hr
theorem sq{H:Addr→Prop}{a b:Addr}(hn:¬ H a)(e:Value.ref a=.ref b):¬ H b:=Value.ref.inj e▸hn
theorem kt.off{mkO:Array Value→Nat→Obj}{h:Heap}{H:Addr→Prop}{n:Nat}{R:List Value→Prop}{v:Value}{b:Addr}(r:kt mkO h H n R v):v=.ref b→¬ H b:=r.rec fun _ hn _ _ e=>sq hn e
theorem cW{a b:String}(h:Str.ofString a=Str.ofString b):a=b:=by
 rw[Str.ofString_eq_toList,Str.ofString_eq_toList] at h
 have h1:a.toList.map Char.toNat=b.toList.map Char.toNat:=by simpa using h
 have h2:a.toList=b.toList:=by
  generalize a.toList=l at h1;generalize b.toList=m at h1
  induction l generalizing m with
  | nil=>cases m <;> simp_all
  | cons x l ih=>
   cases m with
   | nil=>simp at h1
   | cons y m=>
    simp only[List.map_cons,List.cons.injEq] at h1
    have:x=y:=by
     have:=h1.1
     exact Char.toNat_inj.mp this
    rw[this,ih _ h1.2]
 exact String.toList_inj.mp h2

end Mine
namespace Mine
open PySem PySem.SeqAt
noncomputable abbrev CK:=Int ⊕ Str
noncomputable def bq:CK→D
 | .inl i=>.int i
 | .inr x=>.str x
noncomputable def CK.is:CK→Value→Bool
 | .inl i,v=>Value.isInt i v
 | .inr x,v=>Value.isStrOf x v
theorem CK.is_inl{i:Int}{v:Value}(h:CK.is (.inl i) v=true):∃ t,v=.int i t:=Value.isInt_shape h
theorem CK.is_inr{x:Str}{v:Value}(h:CK.is (.inr x) v=true):∃ t,v=.str x t:=Value.isStrOf_shape h
theorem CK.cases{C:CK→Value→Prop}{k:CK}{v:Value}(h:CK.is k v=true)(hi:∀ i t,C (.inl i) (.int i t))(hs:∀ x t,C (.inr x) (.str x t)):C k v:=
 match k,h with
 | .inl _,h=>(CK.is_inl h).elim fun t e=>e▸hi _ t
 | .inr _,h=>(CK.is_inr h).elim fun t e=>e▸hs _ t
theorem CK.inj{v:Value}{a b:CK}(ha:CK.is a v=true)(hb:CK.is b v=true):a=b:=by
 cases a <;> cases b
 ·obtain⟨t,rfl⟩:=CK.is_inl ha
  obtain⟨u,e⟩:=CK.is_inl hb
  cases e;rfl
 ·obtain⟨t,rfl⟩:=CK.is_inl ha
  obtain⟨u,e⟩:=CK.is_inr hb
  cases e
 ·obtain⟨t,rfl⟩:=CK.is_inr ha
  obtain⟨u,e⟩:=CK.is_inl hb
  cases e
 ·obtain⟨t,rfl⟩:=CK.is_inr ha
  obtain⟨u,e⟩:=CK.is_inr hb
  cases e;rfl
theorem nd(i j:Int):decide ((Sum.inl i:CK)=.inl j)=decide (i=j):=decide_eq_decide.mpr ⟨Sum.inl.inj,congrArg _⟩
theorem nb(i j:Str):decide ((Sum.inr i:CK)=.inr j)=decide (i=j):=decide_eq_decide.mpr ⟨Sum.inr.inj,congrArg _⟩
noncomputable def ce(prog:Program)(w:World):KeyKind prog w CK where
 is:=CK.is
 hash:=fun k=>fW w.params (bq k)
 inj:=fun v a b ha hb=>CK.inj ha hb
 byValue:=fun k v h=>CK.cases (C:=fun _ v=>carriedByValue v=true) h (fun _ _=>rfl) fun _ _=>rfl
 pyHash:=fun {A E s k v Q} hv=>CK.cases (C:=fun k v=>Q (fW w.params (bq k)) { s with toks:=s.toks+1 }→wpAny (model prog w) A (pyHash v) Q E s) hv (fun _ _ h=>wpAny_pyHash_int h) fun _ _ h=>wpAny_pyHash_str h
 eqBool:=fun {A E s a b u v Q} hu hv=>CK.cases (C:=fun a u=>Q (decide (a=b)) s→wpAny (model prog w) A (PySem.eqBool u v) Q E s) hu
  (fun i t=>CK.cases (C:=fun b v=>Q (decide (.inl i=b)) s→wpAny (model prog w) A (PySem.eqBool (.int i t) v) Q E s) hv (fun j _ h=>wpAny_eqBool_int (show Q (decide (i=j)) s from nd i j▸h)) fun _ _ h=>EqAt.int_str _ _ _ _ prog w E Q h)
  fun x t=>CK.cases (C:=fun b v=>Q (decide (.inr x=b)) s→wpAny (model prog w) A (PySem.eqBool (.str x t) v) Q E s) hv (fun _ _ h=>EqAt.str_int _ _ _ _ prog w E Q h) fun y _ h=>wpAny_eqBool_str (show Q (decide (x=y)) s from nb x y▸h)
 «strs»:=fun k x t v h=>by
  cases k
  ·obtain⟨u,e⟩:=CK.is_inl h;cases e
  ·exact (strKind prog w).strs _ x t v h
theorem qw{a b:CK}(h:bq a=bq b):a=b:=by
 cases a <;> cases b <;> cases h <;> rfl
theorem fk{d:D}(h:d.isCell=true):∃ k,d=bq k:=
 D.casesOn (motive_1:=fun d=>d.isCell=true→∃ k,d=bq k) d (fun h=>nomatch h) (fun _ h=>nomatch h) (fun i _=>⟨.inl i,rfl⟩) (fun x _=>⟨.inr x,rfl⟩) (fun _ h=>nomatch h) (fun _ h=>nomatch h) (fun _ _ h=>nomatch h) (fun _ _ h=>nomatch h)
  (fun _ h=>nomatch h)
  h
theorem np{ks:List D}(h:ks.all D.isCell=true):∃ cs:List CK,ks=cs.map bq:=by
 induction ks with
 | nil=>exact⟨[],rfl⟩
 | cons k ks ih=>
  have h:=Bool.and_eq_true_iff.mp (show (k.isCell&&ks.all D.isCell)=true from h)
  exact (fk h.1).elim fun c e=>(ih h.2).elim fun cs e'=>⟨c::cs,e▸e'▸rfl⟩
theorem d5(i:Int)(t:Tok):Value.isInt i (.int i t)=true:=decide_eq_true rfl
theorem isStr_self(x:Str)(t:Tok):Value.isStrOf x (.str x t)=true:=by simp[Value.isStrOf]
theorem kB{P:Params}{h:Heap}{H:Addr→Prop}{v:Value}{k:CK}(r:Rep P h H v (bq k)):CK.is k v=true:=
 match k,r with
 | .inl i,r=>u9.rec (motive:=fun v _=>CK.is (.inl i) v=true) (d5 i) r
 | .inr x,r=>u8.rec (motive:=fun v _=>CK.is (.inr x) v=true) (isStr_self x) r
theorem uV{P:Params}{h:Heap}{H:Addr→Prop}{v:Value}{k:CK}(r:CK.is k v=true):Rep P h H v (bq k):=CK.cases (C:=fun k v=>Rep P h H v (bq k)) r (fun _ t=>.int _ t) fun _ t=>.str _ t
theorem aq.inv{P:Params}{h:Heap}{H:Addr→Prop}{v:Value}{vs:List Value}{d:D}{ds:List D}(r:aq P h H (v::vs) (d::ds)):Rep P h H v d∧aq P h H vs ds:=by
 cases r with
 | mk h1 h2=>exact⟨h1,h2⟩
theorem aq.inv_nil{P:Params}{h:Heap}{H:Addr→Prop}{d:D}{ds:List D}{C:Prop}(r:aq P h H [] (d::ds)):C:=by cases r
theorem pairs_of{prog:Program}{w:World}{h:Heap}{H:Addr→Prop}{es:List DictEntry}{cs:List CK}(r:aq w.params h H (es.map (·.key)) (cs.map bq)):Pairs (ce prog w) es (cs.zip (es.map (·.val))):=by
 induction cs generalizing es with
 | nil=>
  cases es with
  | nil=>exact .nil
  | cons _ _=>exact nomatch (show _::_=[] from r)
 | cons c cs ih=>
  cases es with
  | nil=>exact r.inv_nil
  | cons e es=>exact .cons (kB r.inv.1) rfl (ih r.inv.2)
theorem of_pairs{prog:Program}{w:World}{h:Heap}{H:Addr→Prop}{es:List DictEntry}{kvs:List (CK×Value)}(hp:Pairs (ce prog w) es kvs):aq w.params h H (es.map (·.key)) (kvs.map fun p=>bq p.1)∧es.map (·.val)=kvs.map (·.2):=
 hp.rec ⟨rfl,rfl⟩ fun h1 h2 _ ih=>⟨.mk (uV h1) ih.1,congr (congrArg List.cons h2) ih.2⟩
theorem lM{α β:Type}{a:List α}{b:List β}(h:a.length=b.length):(a.zip b).map (·.1)=a:=List.map_fst_zip (Nat.le_of_eq h)
theorem zip_snd{α β:Type}{a:List α}{b:List β}(h:a.length=b.length):(a.zip b).map (·.2)=b:=List.map_snd_zip (Nat.le_of_eq h.symm)
theorem m9{prog:Program}{w:World}{h:Heap}{H:Addr→Prop}{a:Addr}{es:Array DictEntry}{n:Nat}{cs:List CK}(ho:h.get? a=some (lH es n))(hr:aq w.params h H (es.toList.map (·.key)) (cs.map bq))
  (hh:es.toList.map (·.hash)=(cs.map bq).map (fW w.params)) (hn:(cs.map bq).Nodup):h.DictOf (ce prog w) a (cs.zip (es.toList.map (·.val))):=by
 have hl:cs.length=(es.toList.map (·.val)).length:=by have:=hr.length;simp at this ⊢;omega
 refine⟨_,es,n,ho,⟨rfl,rfl,rfl⟩,rfl,?_,pairs_of hr,?_⟩
 ·intro e he
  obtain⟨i,hi,rfl⟩:=List.mem_iff_getElem.mp (Array.mem_toList_iff.mpr he)
  have hc:i<cs.length:=by rw[hl];simpa using hi
  refine⟨cs[i],?_,?_⟩
  ·obtain⟨v,h1,h2⟩:=hr.get i (d:=bq cs[i]) (by simp[hc])
   have:v=es.toList[i].key:=by simpa [List.getElem?_eq_getElem hi] using h1.symm
   exact kB (this▸h2)
  ·have:=congrArg (fun l=>l[i]?) hh
   show _=fW w.params (bq cs[i])
   simpa [List.getElem?_eq_getElem hi,hc] using this
 ·rw[lM hl]
  exact (List.pairwise_map.mp hn).imp fun h e=>h (by rw[e])
theorem rep_dictOf{prog:Program}{w:World}{h:Heap}{H:Addr→Prop}{a:Addr}{kvs:List (CK×Value)}(hd:h.DictOf (ce prog w) a kvs) :
  ∃ es n,h.get? a=some (lH es n)∧aq w.params h H (es.toList.map (·.key)) (kvs.map fun p=>bq p.1)∧es.toList.map (·.val)=kvs.map (·.2)∧es.toList.map (·.hash)=(kvs.map fun p=>bq p.1).map (fW w.params) ∧
   (kvs.map fun p=>bq p.1).all D.isKey=true∧(kvs.map fun p=>bq p.1).Nodup:=by
 obtain⟨o,es,ep,ho,⟨c1,c2,c3⟩,hdat,hk,hp,hn⟩:=hd
 obtain⟨p1,p2⟩:=of_pairs (h:=h) (H:=H) hp
 have ho':o=lH es ep:=by obtain⟨a,b,c,d⟩:=o;dsimp only at c1 c2 c3 hdat;subst c1 c2 c3 hdat;rfl
 refine⟨es,ep,ho'▸ho,p1,p2,?_,?_,?_⟩
 ·have key:∀ (l:List DictEntry) (kvs:List (CK×Value)),(∀ e∈l,∃ k,(ce prog w).is k e.key=true∧e.hash=(ce prog w).hash k)→Pairs (ce prog w) l kvs→l.map (·.hash)=(kvs.map fun p=>bq p.1).map (fW w.params):=by
   intro l kvs hk hp
   induction hp with
   | nil=>rfl
   | cons h1 h2 h3 ih=>
    obtain⟨k,q1,q2⟩:=hk _ (List.mem_cons_self)
    have e:=(ce prog w).inj _ _ _ q1 h1
    rw[e] at q2
    rw[List.map_cons,List.map_cons,List.map_cons,ih fun e he=>hk e (List.mem_cons_of_mem _ he),q2]
    rfl
  exact key _ _ (fun e he=>hk e (Array.mem_toList_iff.mp he)) hp
 ·rw[List.all_eq_true]
  intro d hd
  obtain⟨p,_,rfl⟩:=List.mem_map.mp hd
  cases p.1 <;> rfl
 ·have:(kvs.map fun p=>bq p.1)=(kvs.map (·.1)).map bq:=by simp
  rw[this]
  exact List.pairwise_map.mpr (hn.imp fun h e=>h (qw e))

noncomputable def bv(a b:D):Bool:=match a with
 | .int i=>(match b with | .int j=>i == j | _=>false)
 | .str x=>(match b with | .str y=>x == y | _=>false)
 | _=>false
noncomputable def aE:List D→List D→Bool
 | [],[]=>true
 | a::r,b::r'=>bv a b&&aE r r'
 | _,_=>false
noncomputable def aR(a b:D):Bool:=match a with
 | .tup x=>(match b with | .tup y=>aE x y | _=>false)
 | a=>bv a b
noncomputable def pJ:List D→List D→D→Option D
 | k::ks,v::vs,x=>if aR k x then some v else pJ ks vs x
 | _,_,_=>Option.none
noncomputable def dK:List D→List D→D→D→List D×List D
 | k'::ks,v'::vs,k,v=>if aR k' k then (k'::ks,v::vs) else (k'::(dK ks vs k v).1,v'::(dK ks vs k v).2)
 | _,_,k,v=>([k],[v])
theorem oD(a b:CK):bv (bq a) (bq b)=decide (a=b):=
 match a,b with
 | .inl i,.inl j=>(nd i j).symm
 | .inl _,.inr _=>rfl
 | .inr _,.inl _=>rfl
 | .inr i,.inr j=>(nb i j).symm
theorem mK(a b:CK):aR (bq a) (bq b)=decide (a=b):=
 (match a with
 | .inl _=>rfl
 | .inr _=>rfl:aR (bq a) (bq b)=bv (bq a) (bq b)).trans (oD a b)
theorem lW(k v:D)(ks vs:List D)(x:D):pJ (k::ks) (v::vs) x=if aR k x then some v else pJ ks vs x:=rfl
theorem jL(c k:CK)(v:Value)(l:List (CK×Value)):valueAt ((c,v)::l) k=if c=k then some v else valueAt l k:=by
 unfold valueAt
 by_cases h:c=k
 ·rw[if_pos h,List.find?_cons_of_pos (by simpa using h)];rfl
 ·rw[if_neg h,List.find?_cons_of_neg (by simpa using h)]
theorem dget_valueAt{P:Params}{h:Heap}{H:Addr→Prop}{k:CK}{d:D}{cs:List CK}{vals:List Value}{vs:List D}(r:aq P h H vals vs)(e:pJ (cs.map bq) vs (bq k)=some d):∃ v,valueAt (cs.zip vals) k=some v∧Rep P h H v d:=by
 induction cs generalizing vals vs with
 | nil=>cases e
 | cons c cs ih=>
  cases vs with
  | nil=>cases e
  | cons d' vs=>
   cases r with
   | mk hv hr=>
    rw[List.map_cons,lW,mK] at e
    rw[List.zip_cons_cons,jL]
    by_cases hc:c=k
    ·rw[if_pos (decide_eq_true hc)] at e
     rw[if_pos hc]
     exact⟨_,rfl,Option.some.inj e▸hv⟩
    ·rw[if_neg (by simpa using hc)] at e
     rw[if_neg hc]
     exact ih hr e
theorem any_valueAt{k:CK}{cs:List CK}{vals:List Value}(e:cs.length=vals.length):(valueAt (cs.zip vals) k).isSome=(cs.map bq).any fun x=>aR x (bq k):=by
 induction cs generalizing vals with
 | nil=>rfl
 | cons c cs ih=>
  cases vals with
  | nil=>cases e
  | cons v vals=>
   rw[List.zip_cons_cons,jL,List.map_cons,List.any_cons,mK,← ih (Nat.succ.inj e)]
   by_cases hc:c=k
   ·rw[if_pos hc,decide_eq_true hc];rfl
   ·rw[if_neg hc,decide_eq_false hc];rfl
theorem lV(k' v':D)(ks vs:List D)(k v:D):dK (k'::ks) (v'::vs) k v=if aR k' k then (k'::ks,v::vs) else (k'::(dK ks vs k v).1,v'::(dK ks vs k v).2):=rfl
theorem stored_dput{P:Params}{h:Heap}{H:Addr→Prop}{k:CK}{v:Value}{d:D}(hv:Rep P h H v d){cs:List CK}{vals:List Value}{vs:List D}(e:cs.length=vals.length)(hn:cs.Nodup)(hr:aq P h H vals vs) :
  ((stored (cs.zip vals) k v).map fun p=>bq p.1)=(dK (cs.map bq) vs (bq k) d).1∧aq P h H ((stored (cs.zip vals) k v).map (·.2)) (dK (cs.map bq) vs (bq k) d).2:=by
 induction cs generalizing vals vs with
 | nil=>exact⟨rfl,.cons hv rfl⟩
 | cons c cs ih=>
  cases vs with
  | nil=>rw[show vals=[] from hr] at e;cases e
  | cons d' vs=>
   cases hr with
   | @mk u vals hu hr=>
    have hl:cs.length=vals.length:=Nat.succ.inj e
    have hn':=List.nodup_cons.mp hn
    rw[List.zip_cons_cons,List.map_cons,lV,mK]
    by_cases hc:c=k
    ·subst hc
     have hs:stored ((c,u)::cs.zip vals) c v=(c,v)::cs.zip vals:=by
      unfold stored
      rw[if_pos (by simp),List.map_cons,if_pos rfl,map_store_of_not_mem _ _ _ (by rw[lM hl];exact hn'.1)]
     rw[hs,if_pos (decide_eq_true rfl)]
     refine⟨congrArg (bq c::·) ?_,.cons hv (show aq P h H ((cs.zip vals).map (·.2)) vs from (zip_snd hl).symm▸hr)⟩
     have:(cs.zip vals).map (fun p=>bq p.1)=((cs.zip vals).map (·.1)).map bq:=(List.map_map (f:=fun (p:CK×Value)=>p.1) (g:=bq)).symm
     rw[this,lM hl]
    ·have hs:stored ((c,u)::cs.zip vals) k v=(c,u)::stored (cs.zip vals) k v:=by
      unfold stored
      rw[List.any_cons,decide_eq_false (show ¬ (c,u).1=k from hc),Bool.false_or]
      by_cases ha:(cs.zip vals).any (fun kv=>decide (kv.1=k))=true
      ·rw[if_pos ha,if_pos ha,List.map_cons,if_neg hc]
      ·rw[if_neg ha,if_neg ha];rfl
     have ih:=ih hl hn'.2 hr
     rw[hs,if_neg (by simpa using hc)]
     exact⟨congrArg (bq c::·) ih.1,.cons hu ih.2⟩
end Mine
namespace Mine
open PySem PySem.SeqAt
noncomputable def D.isTK:D→Bool
 | .tup ds=>ds.all D.isCell
 | _=>false
noncomputable def dW(k:List CK):D:=.tup (k.map bq)
theorem pV{d:D}(h:d.isTK=true):∃ k,d=dW k:=
 D.casesOn (motive_1:=fun d=>d.isTK=true→∃ k,d=dW k) d (fun h=>nomatch h) (fun _ h=>nomatch h) (fun _ h=>nomatch h) (fun _ h=>nomatch h) (fun _ h=>(np h).elim fun cs e=>⟨cs,e▸rfl⟩) (fun _ h=>nomatch h) (fun _ _ h=>nomatch h) (fun _ _ h=>nomatch h)
  (fun _ h=>nomatch h)
  h
theorem rI:∀ {ks:List D},ks.all D.isTK=true→∃ cs:List (List CK),ks=cs.map dW
 | [],_=>⟨[],rfl⟩
 | k::ks,h=>let h:=Bool.and_eq_true_iff.mp (show (k.isTK&&ks.all D.isTK)=true from h);(pV h.1).elim fun c e=>(rI h.2).elim fun cs e'=>⟨c::cs,e▸e'▸rfl⟩
theorem ofTK_inj{a b:List CK}(h:dW a=dW b):a=b:=(List.map_inj_right fun _ _=>qw).mp (D.tup.inj h)
theorem nq:∀ (a b:List CK),aE (a.map bq) (b.map bq)=decide (a=b)
 | [],[]=>rfl
 | [],_::_=>rfl
 | _::_,[]=>rfl
 | x::a,y::b=>by
  show (bv (bq x) (bq y)&&aE (a.map bq) (b.map bq))=_
  rw[oD,nq a b,← Bool.decide_and]
  exact decide_eq_decide.mpr (by rw[List.cons.injEq])
theorem j7(a b:List CK):aR (dW a) (dW b)=decide (a=b):=nq a b
noncomputable abbrev TKd(prog:Program)(w:World):=tupleKind (ce prog w)
section
variable {prog:Program} {w:World} {h:Heap} {H:Addr→Prop}
theorem items_of{vs:List Value}{ks:List CK}(r:aq w.params h H vs (ks.map bq)):ItemsAre (ce prog w) ks vs:=by
 induction ks generalizing vs with
 | nil=>rw[show vs=[] from r];exact .nil
 | cons k ks ih=>
  cases r with
  | mk r1 r2=>exact .cons (kB r1) (ih r2)
theorem oY{v:Value}{k:List CK}(r:Rep w.params h H v (dW k)):∃ a,v=.ref a∧(TKd prog w).is h k a:=
 kt.rec (motive:=fun v _=>∃ a,v=.ref a∧(TKd prog w).is h k a) (fun ho _ _ hr=>⟨_,rfl,_,_,_,ho,rfl,rfl,items_of hr⟩) r
theorem th(k:List CK):(TKd prog w).hash k=fW w.params (dW k):=by
 show reduceHash (Builtin.Tuple.tupleHashOf (k.map fun c=>fW w.params (bq c)))=reduceHash (Builtin.Tuple.tupleHashOf ((k.map bq).map (uK w.params)))
 rw[List.map_map]
 congr 2
 refine List.map_congr_left fun c _=>?_
 cases c <;> rfl
noncomputable abbrev kD(x:List CK×Addr×Value):D:=dW x.1
theorem entries_tk{es:List DictEntry}{cs:List (List CK)}(r:aq w.params h H (es.map (·.key)) (cs.map dW))(hh:es.map (·.hash)=(cs.map dW).map (fW w.params)) :
  ∃ xs:List (List CK×Addr×Value),es=xs.map (entryOfKey (TKd prog w))∧(∀ x∈xs,(TKd prog w).is h x.1 x.2.1)∧xs.map (·.1)=cs:=by
 induction cs generalizing es with
 | nil=>
  cases es with
  | nil=>exact⟨[],rfl,(fun _ h=>nomatch h),rfl⟩
  | cons _ _=>exact nomatch (show _::_=[] from r)
 | cons c cs ih=>
  cases es with
  | nil=>exact r.inv_nil
  | cons e es=>
   obtain⟨r1,r2⟩:=r.inv
   injection hh with q1 q2
   obtain⟨a,ea,ia⟩:=oY (prog:=prog) r1
   obtain⟨xs,e1,e2,e3⟩:=ih r2 q2
   refine⟨(c,a,e.val)::xs,?_,fun x hx=>(List.mem_cons.mp hx).elim (fun q=>q▸ia) (e2 x),by rw[List.map_cons,e3]⟩
   rw[List.map_cons,← e1]
   congr 1
   obtain⟨eh,ek,ev⟩:=e
   show _=DictEntry.mk _ _ _
   rw[th,← q1,← ea]
theorem kW{a:Addr}{es:Array DictEntry}{n:Nat}{cs:List (List CK)}(ho:h.get? a=some (lH es n))(hr:aq w.params h H (es.toList.map (·.key)) (cs.map dW))
  (hh:es.toList.map (·.hash)=(cs.map dW).map (fW w.params)) (hn:(cs.map dW).Nodup) :
  ∃ xs:List (List CK×Addr×Value),h.DictOfH (TKd prog w) a xs∧xs.map (·.1)=cs∧es.toList.map (·.key)=xs.map (fun x=>Value.ref x.2.1)∧es.toList.map (·.val)=xs.map (·.2.2):=by
 obtain⟨xs,e1,e2,e3⟩:=entries_tk (prog:=prog) hr hh
 refine⟨xs,⟨_,es,n,ho,⟨rfl,rfl,rfl⟩,rfl,e1,e2,?_⟩,e3,?_,?_⟩
 ·rw[e3];exact (List.pairwise_map.mp hn).imp fun h e=>h (by rw[e])
 ·rw[e1,List.map_map];rfl
 ·rw[e1,List.map_map];rfl
theorem jE(c:List CK)(b:Addr)(u:Value)(xs:List (List CK×Addr×Value))(k:List CK):atKey ((c,b,u)::xs) k=if c=k then some (b,u) else atKey xs k:=by
 unfold atKey
 by_cases hc:c=k <;> simp[hc]
theorem oG{k:List CK}:∀ (xs:List (List CK×Addr×Value)),(atKey xs k).isSome=(xs.map kD).any fun x=>aR x (dW k)
 | []=>rfl
 | (c,b,u)::xs=>by
  rw[jE,List.map_cons,List.any_cons,j7,← oG xs]
  by_cases hc:c=k <;> simp[hc]
theorem dget_atKey{P:Params}{k:List CK}{d:D}{xs:List (List CK×Addr×Value)}{vs:List D}(r:aq P h H (xs.map (·.2.2)) vs)(e:pJ (xs.map kD) vs (dW k)=some d):∃ p,atKey xs k=some p∧Rep P h H p.2 d:=by
 induction xs generalizing vs with
 | nil=>cases e
 | cons x xs ih=>
  obtain⟨c,b,u⟩:=x
  cases vs with
  | nil=>cases e
  | cons d' vs=>
   obtain⟨r1,r2⟩:=r.inv
   rw[List.map_cons,lW,j7] at e
   rw[jE]
   by_cases hc:c=k
   ·rw[if_pos (decide_eq_true hc)] at e
    exact⟨_,if_pos hc,Option.some.inj e▸r1⟩
   ·rw[if_neg (by simpa using hc)] at e
    obtain⟨p,h1,h2⟩:=ih r2 e
    exact⟨p,(if_neg hc).trans h1,h2⟩
theorem storedH_cons(c:List CK)(b:Addr)(u:Value)(xs:List (List CK×Addr×Value))(k:List CK)(a:Addr)(v:Value)(hn:c ∉ xs.map (·.1)) :
  storedH ((c,b,u)::xs) k a v=if c=k then (c,b,v)::xs else (c,b,u)::storedH xs k a v:=by
 unfold storedH
 rw[jE]
 by_cases hc:c=k
 ·subst hc
  simp only[if_true,Option.isSome_some,List.map_cons,putAt]
  rw[map_putAt_of_not_mem xs c v hn]
 ·simp only[hc,if_false,List.map_cons,putAt]
  split <;> rfl
theorem storedH_dput{P:Params}{k:List CK}{a:Addr}{v:Value}{d:D}(hk:Rep P h H (.ref a) (dW k))(hv:Rep P h H v d){xs:List (List CK×Addr×Value)}{vs:List D}(hn:(xs.map (·.1)).Nodup)
  (rk:aq P h H (xs.map fun x=>Value.ref x.2.1) (xs.map kD)) (r:aq P h H (xs.map (·.2.2)) vs) :
  (storedH xs k a v).map kD=(dK (xs.map kD) vs (dW k) d).1∧aq P h H ((storedH xs k a v).map fun x=>Value.ref x.2.1) (dK (xs.map kD) vs (dW k) d).1∧aq P h H ((storedH xs k a v).map (·.2.2)) (dK (xs.map kD) vs (dW k) d).2:=by
 induction xs generalizing vs with
 | nil=>exact⟨rfl,.cons hk .nil,.cons hv .nil⟩
 | cons x xs ih=>
  obtain⟨c,b,u⟩:=x
  cases vs with
  | nil=>exact nomatch (show _::_=[] from r)
  | cons d' vs=>
   obtain⟨hn1,hn2⟩:=List.nodup_cons.mp hn
   obtain⟨r1,r2⟩:=r.inv
   obtain⟨k1,k2⟩:=rk.inv
   rw[storedH_cons _ _ _ _ _ _ _ hn1,List.map_cons,lV,j7]
   by_cases hc:c=k
   ·rw[if_pos hc,if_pos (decide_eq_true hc)]
    exact⟨rfl,.cons k1 k2,.cons hv r2⟩
   ·rw[if_neg hc,if_neg (by simpa using hc)]
    have i:=ih hn2 k2 r2
    exact⟨congrArg (kD (c,b,u)::·) i.1,.cons k1 i.2.1,.cons r1 i.2.2⟩
end
end Mine
namespace Mine
open PySem

inductive ME where
 | var (x:String)
 | glob (x:String)
 | int (i:Int)
 | str (s:String)
 | bool (b:Bool)
 | none
 | bin (op:Operator) (a b:ME)
 | cmp (op:CmpOp) (a b:ME)
 | bop (op:BoolOp) (es:List ME)
 | not (a:ME)
 | neg (a:ME)
 | tup (es:List ME)
 | lst (es:List ME)
 | sub (a i:ME)
 | sl (a lo hi:ME)
 | dct (ks vs:List ME)
 | comp (elt:ME) (x:String) (src:ME) (cs:List ME)
 | call (f:String) (args:List ME)
 | isi (a:ME) (T:String)
 | blt (f:String) (args:List ME)
 | lcp (a:ME)
 | sset (a:ME)
 | srt (a:ME) (f x p:String) (rev:Bool)
 | inn (a:ME)

inductive MS where
 | assign (x:String) (e:ME)
 | append (x:String) (e:ME)
 | setk (x:String) (k e:ME)
 | ite (c:ME) (t f:List MS)
 | for_ (x:String) (src:ME) (body:List MS)
 | ret (e:ME)
 | bad
 | grp
 | forr (x:String) (src:ME) (body:List MS)
 | expr (e:ME)
 | while_ (c:ME) (body:List MS)

noncomputable def D.isList:D→Bool
 | .list _=>true
 | _=>false
noncomputable def onI{α:Type}(d:D)(f:Int→Option α):Option α:=match d with | .int i=>f i | _=>Option.none
noncomputable def onS{α:Type}(d:D)(f:Str→Option α):Option α:=match d with | .str i=>f i | _=>Option.none
noncomputable def onB{α:Type}(d:D)(f:Bool→Option α):Option α:=match d with | .bool i=>f i | _=>Option.none
noncomputable def onT{α:Type}(d:D)(f:List D→Option α):Option α:=match d with | .tup i=>f i | _=>Option.none
noncomputable def onL{α:Type}(d:D)(f:List D→Option α):Option α:=match d with | .list i=>f i | _=>Option.none
noncomputable def onC{α:Type}(d:D)(f:Int→Option α)(g:Str→Option α):Option α:=match d with | .int i=>f i | .str x=>g x | _=>Option.none
noncomputable def D.items:D→Option (List D)
 | .list ds | .tup ds=>some ds
 | .rng a b=>some ((List.range (b - a).toNat).map fun (i:Nat)=>D.int (a+(i:Int)))
 | .dict ks _=>some ks
 | _=>Option.none

noncomputable def bE:D→Option Bool
 | .bool b=>some b
 | .none=>some false
 | .int i=>some (i != 0)
 | .list ds | .tup ds=>some (!ds.isEmpty)
 | _=>Option.none

noncomputable def eqS(a b:D):Option Bool:=match a with
 | .bool x=>onB b fun y=>some (x == y)
 | .int x=>onC b (fun y=>some (x == y)) fun _=>some false
 | .str x=>onC b (fun _=>some false) fun y=>some (x == y)
 | _=>Option.none
noncomputable def fi:List D→List D→Option Bool
 | [],[]=>some true
 | a::r,b::r'=>(eqS a b).bind fun x=>(fi r r').map fun y=>x&&y
 | _,_=>some false
noncomputable def eqD(a b:D):Option Bool:=match a with
 | .list ds=>onL b fun es=>if ds.length=es.length then fi ds es else some false
 | .tup ds=>onT b fun es=>if ds.length=es.length then fi ds es else if es.length=0 then some false else Option.none
 | a=>eqS a b

noncomputable def eqX(a b:D):Option Bool:=eqD a b
noncomputable def lim:Int:=2 ^ 64
noncomputable def eC:Int:=2 ^ 1000
noncomputable def oS:Int:=10 ^ 100
noncomputable def binI(op:Operator)(a b:Int):Option D:=match op with
 | .Add=>some (.int (a+b))
 | .Sub=>some (.int (a - b))
 | .Mult=>if (-lim<a∧a<lim)∨(-lim<b∧b<lim) then some (.int (a * b)) else Option.none
 | .FloorDiv=>if 0<b∧b<lim then some (.int (a / b)) else Option.none
 | .Mod=>if 0<b then some (.int (a % b)) else Option.none
 | .Pow=>if -eC<a∧a<eC∧0≤b∧b≤100 then some (.int (a ^ b.toNat)) else Option.none
 | _=>Option.none
noncomputable def binS(op:Operator)(a:Str)(d:D):Option D:=match op with
 | .Add=>onS d fun b=>if a.length+b.length≤big then some (.str (a++b)) else Option.none
 | .Mult=>onI d fun n=>if 0≤n∧n≤1000∧a.length≤1000 then some (.str (Txt.mul a n)) else Option.none
 | _=>Option.none
noncomputable def binL(op:Operator)(a:List D)(d:D):Option D:=match op with
 | .Add=>onL d fun b=>if a.length+b.length≤big then some (.list (a++b)) else Option.none
 | _=>Option.none
noncomputable def binT(op:Operator)(a:List D)(d:D):Option D:=match op with
 | .Add=>onT d fun b=>if a.length+b.length≤big then some (.tup (a++b)) else Option.none
 | _=>Option.none
noncomputable def dQ(op:Operator)(x y:D):Option D:=match x with
 | .int a=>onI y (binI op a)
 | .str a=>binS op a y
 | .list a=>binL op a y
 | .tup a=>binT op a y
 | _=>Option.none

noncomputable def cmpI(op:CmpOp)(a b:Int):Option D:=match op with
 | .Lt=>some (.bool (decide (a<b)))
 | .LtE=>some (.bool (decide (a≤b)))
 | .Gt=>some (.bool (decide (a > b)))
 | .GtE=>some (.bool (decide (a ≥ b)))
 | _=>Option.none
noncomputable def ordD(op:CmpOp)(x y:D):Option D:=match x with
 | .int a=>onI y (cmpI op a)
 | .str a=>onS y fun b=>(match op with | .Lt=>some (.bool (decide (a.cps.toList<b.cps.toList))) | _=>Option.none)
 | _=>Option.none
noncomputable def dX(k:D)(ks:List D):Bool:=(k.isCell&&ks.all D.isCell)||(k.isTK&&ks.all D.isTK)
noncomputable def mz(k c:D):Option Bool:=match c with
 | .dict ks _=>if dX k ks then some (ks.any fun x=>aR x k) else Option.none
 | .tup ds=>if k.isCell&&ds.all D.isCell then some (ds.any fun x=>bv x k) else Option.none
 | .list ds=>if k.isTK&&ds.all D.isTK then some (ds.any fun x=>aR x k) else Option.none
 | _=>Option.none
noncomputable def eG(op:CmpOp)(a b:D):Option D:=match op with
 | .Eq=>(eqX a b).map .bool
 | .NotEq=>(eqX a b).map fun x=>.bool (!x)
 | .In=>(mz a b).map .bool
 | .NotIn=>(mz a b).map fun x=>.bool (!x)
 | op=>ordD op a b

noncomputable def idx(k:Int)(n:Nat):Option Nat:=if 0≤k∧k<n then some k.toNat else if -(n:Int)≤k∧k<0 then some (k+n).toNat else Option.none
noncomputable def bQ(x:Str)(j:Nat):Str:=⟨#[x.cps.getD j 0]⟩
noncomputable def a9(d i:D):Option D:=match d with
 | .list ds=>onI i fun k=>(idx k ds.length).bind fun j=>ds[j]?
 | .tup ds=>onI i fun k=>(idx k ds.length).bind fun j=>ds[j]?
 | .str x=>onI i fun k=>if 0≤k∧k<x.length∧x.length≤big then some (.str (bQ x k.toNat)) else Option.none
 | .dict ks vs=>if dX i ks then pJ ks vs i else Option.none
 | _=>Option.none

noncomputable def bnd(lo:D)(dflt:Nat):Option Nat:=match lo with
 | .none=>some dflt
 | .int i=>if 0≤i then some i.toNat else Option.none
 | _=>Option.none
noncomputable def bndS(lo:D):Option (Option Int):=match lo with
 | .none=>some Option.none
 | .int i=>some (some i)
 | _=>Option.none
noncomputable def slD(d lo hi:D):Option D:=match d with
 | .list ds=>(bnd lo 0).bind fun a=>(bnd hi ds.length).map fun b=>.list ((ds.take b).drop a)
 | .tup ds=>(bnd lo 0).bind fun a=>(bnd hi ds.length).map fun b=>.tup ((ds.take b).drop a)
 | .str x=>if x.length≤big then (bndS lo).bind fun a=>(bndS hi).map fun b=>.str (Txt.slice x a b) else Option.none
 | _=>Option.none

noncomputable def mM(d:D)(T:String):Option Bool:=
 if T="str"∨T="bool"∨T="int"∨T="tuple"∨T="list" then (match d with
  | .str _=>some (T == "str")
  | .int _=>some (T == "int")
  | .bool _=>some (T == "int"||T == "bool")
  | .tup _=>some (T == "tuple")
  | .list _=>some (T == "list")
  | _=>Option.none) else Option.none

noncomputable def lenD(d:D):Option D:=match d with
 | .list ds=>some (.int ds.length)
 | .tup ds=>some (.int ds.length)
 | .str x=>if x.length≤big then some (.int x.length) else Option.none
 | _=>Option.none
noncomputable def rngD(a n:Int):Option D:=if (-(big:Int)≤n∧n≤big)∧-(big:Int)≤a∧a≤big then some (.rng a n) else Option.none
noncomputable def bltI(f:String)(i:Int):Option D:=
 if f="range" then rngD 0 i else if f="str" then (if -oS<i∧i<oS then some (.str (Str.ofString (toString i))) else Option.none) else Option.none
noncomputable def bltI2(f:String)(a b:Int):Option D:=
 if f="range" then rngD a b else if f="max" then some (.int (if b > a then b else a)) else if f="min" then some (.int (if b<a then b else a)) else Option.none
noncomputable def lD:List D→Option Int
 | []=>some 0
 | .int i::r=>(lD r).map (i+·)
 | _=>Option.none
noncomputable def gt(f:String)(as:List D):Option D:=match as with
 | [d]=>if f="len" then lenD d else (match d with
  | .list ds=>if f="tuple" then some (.tup ds) else if f="sum" then (lD ds).map .int else Option.none
  | .int i=>bltI f i
  | .bool b=>if f="int" then some (.int (if b then 1 else 0)) else Option.none
  | .str x=>if f="str" then some (.str x) else Option.none
  | _=>Option.none)
 | [a,b]=>onI a fun i=>onI b fun j=>bltI2 f i j
 | _=>Option.none
noncomputable def qB(d:D):Option (List D):=match d with
 | .list ds=>some ds
 | .tup ds=>some ds
 | .dict ks _=>if ks.all D.isCell then some ks else Option.none
 | _=>Option.none

noncomputable def mQ:List D→Option (List Int)
 | []=>some []
 | .int i::r=>(mQ r).map (i::·)
 | _=>Option.none
noncomputable def rT(x:Int):List Int→List Int
 | []=>[x]
 | y::l=>if x<y then x::y::l else if x=y then y::l else y::rT x l
noncomputable def jN(ns:List Int):List Int:=ns.foldr rT []
noncomputable def md(d:D):Option D:=match d with
 | .list ds=>if ds.length<63 then (mQ ds).map fun ns=>.list ((jN ns).map .int) else Option.none
 | _=>Option.none
noncomputable def cR:D→Bool
 | .str _=>true
 | _=>false
noncomputable def aI:D→D→Bool
 | .int i,.int j=>decide (i<j)
 | .int _,.str _=>true
 | .str x,.str y=>decide (x.cps.toList<y.cps.toList)
 | _,_=>false
noncomputable def dF(ds:List D)(p:Nat):D:=ds.getD p (.int 0)
noncomputable def bU(lt:Nat→Nat→Bool){α:Type}:PySem.W.KasT α→α
 | .ret a=>a
 | .ask i j k=>bU lt (k (lt i j))
noncomputable def kix(ks:List D):List Nat:=if ks.length<2 then List.range ks.length else (bU (fun i j=>aI (dF ks i) (dF ks j)) (PySem.W.kas_sort ks.length)).toList
noncomputable def fR{α:Type}(z:α)(rev:Bool)(ks:List D)(l:List α):List α:=PySem.W.katRev rev ((kix (PySem.W.katRev rev ks)).map fun i=>(PySem.W.katRev rev l).getD i z)
noncomputable def qF(k:D):Option D:=match k with
 | .tup [.bool b,c]=>if c.isCell&&b == cR c then some c else Option.none
 | _=>Option.none
noncomputable def gY(g:D→Option D):List D→Option (List D)
 | []=>some []
 | d::r=>match g d with
  | some k=>(match qF k with
   | some c=>(gY g r).map (c::·)
   | Option.none=>Option.none)
  | Option.none=>Option.none
noncomputable def srtD(g:D→Option D)(rev:Bool)(d:D):Option D:=match d with
 | .list ds=>if ds.length<64 then (gY g ds).map fun ks=>.list (fR .none rev ks ds) else Option.none
 | _=>Option.none
noncomputable def pv(x:Str):Int:=if x=Str.ofString "group" then 3 else if x=Str.ofString "once" then 1 else 2
noncomputable def innD(d:D):Option D:=onS d fun x=>some (.int (pv x))
noncomputable def bO(f:D→Option (Option D)):List D→Option (List D)
 | []=>some []
 | it::r=>match f it with
  | Option.none=>Option.none
  | some o=>match bO f r with
   | Option.none=>Option.none
   | some ds=>some (match o with | Option.none=>ds | some d=>d::ds)

structure CF where
 call:String→List D→Option (D×Bool)
 glob:String→Option D

noncomputable def fA(cf:CF)(f:String)(i d:D):Option D:=match a9 d i with
 | some c=>(cf.call f [c]).map (·.1)
 | Option.none=>Option.none
mutual
noncomputable def evE(cf:CF)(ρ:List (String×D))(me:ME):Option D:=match me with
 | .var x=>ρ.lookup x
 | .glob x=>cf.glob x
 | .int i=>some (.int i)
 | .str s=>some (.str (Str.ofString s))
 | .bool b=>some (.bool b)
 | .none=>some .none
 | .bin op a b=>match evE cf ρ a with
  | some x=>(match evE cf ρ b with | some y=>dQ op x y | Option.none=>Option.none)
  | Option.none=>Option.none
 | .cmp op a b=>match evE cf ρ a with
  | some x=>(match evE cf ρ b with | some y=>eG op x y | Option.none=>Option.none)
  | Option.none=>Option.none
 | .bop op es=>fh cf ρ op es
 | .not a=>match evE cf ρ a with
  | some x=>(bE x).map fun t=>.bool (!t)
  | Option.none=>Option.none
 | .neg a=>match evE cf ρ a with
  | some x=>onI x fun i=>some (.int (-i))
  | Option.none=>Option.none
 | .tup es=>match bV cf ρ es with
  | some ds=>if ds.length≤big then some (.tup ds) else Option.none
  | Option.none=>Option.none
 | .lst es=>match bV cf ρ es with
  | some ds=>if ds.length≤big then some (.list ds) else Option.none
  | Option.none=>Option.none
 | .dct ks vs=>match bV cf ρ ks with
  | some ds=>(match bV cf ρ vs with
   | some es=>if ds.isEmpty&&es.isEmpty then some (.dict [] []) else Option.none
   | Option.none=>Option.none)
  | Option.none=>Option.none
 | .sub a i=>match evE cf ρ a with
  | some x=>(match evE cf ρ i with | some y=>a9 x y | Option.none=>Option.none)
  | Option.none=>Option.none
 | .sl a lo hi=>match evE cf ρ a with
  | some x=>(match evE cf ρ lo with
   | some y=>(match evE cf ρ hi with | some z=>slD x y z | Option.none=>Option.none)
   | Option.none=>Option.none)
  | Option.none=>Option.none
 | .comp elt x src cs=>match evE cf ρ src with
  | some d=>(match d.items with
   | some its=>if its.length≤big then (bO (fun it=>match lG cf ((x,it)::ρ) cs with
     | some true=>(match evE cf ((x,it)::ρ) elt with | some y=>some (some y) | Option.none=>Option.none)
     | some false=>some Option.none
     | Option.none=>Option.none) its).map .list else Option.none
   | Option.none=>Option.none)
  | Option.none=>Option.none
 | .call f args=>match bV cf ρ args with
  | some ds=>(cf.call f ds).map (·.1)
  | Option.none=>Option.none
 | .isi a T=>match evE cf ρ a with
  | some x=>(mM x T).map .bool
  | Option.none=>Option.none
 | .blt f args=>match bV cf ρ args with
  | some ds=>gt f ds
  | Option.none=>Option.none
 | .lcp a=>match evE cf ρ a with
  | some x=>(qB x).map .list
  | Option.none=>Option.none
 | .inn a=>match evE cf ρ a with
  | some x=>innD x
  | Option.none=>Option.none
 | .sset a=>match evE cf ρ a with
  | some x=>md x
  | Option.none=>Option.none
 | .srt a f _ p rev=>match evE cf ρ a with
  | some x=>(match ρ.lookup p with
   | some i=>srtD (fA cf f i) rev x
   | Option.none=>Option.none)
  | Option.none=>Option.none
termination_by structural me
noncomputable def bV(cf:CF)(ρ:List (String×D))(ms:List ME):Option (List D):=match ms with
 | []=>some []
 | e::r=>match evE cf ρ e with
  | some d=>(match bV cf ρ r with | some ds=>some (d::ds) | Option.none=>Option.none)
  | Option.none=>Option.none
termination_by structural ms
noncomputable def fh(cf:CF)(ρ:List (String×D))(op:BoolOp)(ms:List ME):Option D:=match ms with
 | []=>Option.none
 | [e]=>evE cf ρ e
 | e::r=>match evE cf ρ e with
  | some d=>(match bE d with
   | some t=>if t=(match op with | .And=>false | .Or=>true) then some d else fh cf ρ op r
   | Option.none=>Option.none)
  | Option.none=>Option.none
termination_by structural ms
noncomputable def lG(cf:CF)(ρ:List (String×D))(ms:List ME):Option Bool:=match ms with
 | []=>some true
 | e::r=>match evE cf ρ e with
  | some d=>(match bE d with
   | some t=>if t then lG cf ρ r else some false
   | Option.none=>Option.none)
  | Option.none=>Option.none
termination_by structural ms
end

noncomputable def oE{β:Type}(a:Option D)(f:D→Option β):Option β:=match a with
 | some x=>f x
 | Option.none=>Option.none
noncomputable def oEs{β:Type}(a:Option (List D))(f:List D→Option β):Option β:=match a with
 | some x=>f x
 | Option.none=>Option.none
noncomputable def oT{β:Type}(a:Option Bool)(f:Bool→Option β):Option β:=match a with
 | some x=>f x
 | Option.none=>Option.none
theorem bk{β:Type}{a:Option D}{f:D→Option β}{r:β}{C:Prop}(h:oE a f=some r)(k:∀ x,a=some x→f x=some r→C):C:=by
 cases a with
 | none=>cases h
 | some x=>exact k x rfl h
theorem ed{β:Type}{a:Option (List D)}{f:List D→Option β}{r:β}{C:Prop}(h:oEs a f=some r)(k:∀ x,a=some x→f x=some r→C):C:=by
 cases a with
 | none=>cases h
 | some x=>exact k x rfl h
theorem rO{β:Type}{a:Option Bool}{f:Bool→Option β}{r:β}{C:Prop}(h:oT a f=some r)(k:∀ x,a=some x→f x=some r→C):C:=by
 cases a with
 | none=>cases h
 | some x=>exact k x rfl h
mutual
noncomputable def ME.names:ME→List String
 | .var x=>[x]
 | .bin _ a b | .cmp _ a b | .sub a b=>a.names++b.names
 | .bop _ es | .tup es | .lst es | .call _ es | .blt _ es=>gG es
 | .not a | .neg a | .isi a _ | .lcp a=>a.names
 | .sset a=>a.names
 | .inn a=>a.names
 | .srt a _ _ p _=>a.names++[p]
 | .dct ks vs=>gG ks++gG vs
 | .sl a lo hi=>a.names++lo.names++hi.names
 | .comp elt x src cs=>src.names++(elt.names++gG cs).filter (· != x)
 | .glob _ | .int _ | .str _ | .bool _ | .none=>[]
noncomputable def gG:List ME→List String
 | []=>[]
 | e::r=>e.names++gG r
end

noncomputable def ME.varOf(e:ME):Option String:=dite (e.ctorIdx=0) (fun h=>ME.var.elim (motive_1:=fun _=>Option String) e h some) fun _=>Option.none
theorem varOf_inv{e:ME}{x:String}{C:ME→Prop}(h:e.varOf=some x)(k:C (.var x)):C e:=by
 unfold ME.varOf at h
 by_cases hc:e.ctorIdx=0
 ·rw[dif_pos hc] at h
  exact ME.var.elim (motive_1:=fun e=>∀ hc,ME.var.elim (motive_1:=fun _=>Option String) e hc some=some x→C e) e hc (fun y _ h=>Option.some.inj h▸k) hc h
 ·rw[dif_neg hc] at h;cases h
noncomputable abbrev St:=List (String×(Bool×D))
noncomputable def vis(σ:St):List (String×D):=σ.map fun p=>(p.1,p.2.2)
noncomputable def aC(σ:St)(x:String)(v:Bool×D):St:=match σ with
 | []=>[(x,v)]
 | (y,w)::r=>if y=x then (y,v)::r else (y,w)::aC r x v
noncomputable def freeze(ns:List String)(σ:St):St:=σ.map fun p=>(p.1,(p.2.1&&!ns.contains p.1,p.2.2))
noncomputable def settle(d:D)(ns:List String)(σ:St):St:=if d.scalar then σ else freeze ns σ

inductive Fl where
 | next
 | ret (fr:Bool) (d:D)

noncomputable def frF(me:ME)(d:D):Bool:=match me with
 | .lst _ | .comp _ _ _ _ | .dct _ _ | .lcp _=>true
 | .sset _=>true
 | .srt _ _ _ _ _=>true
 | .inn _=>false
 | .sl _ _ _ | .bin _ _ _=>d.isList
 | .var _ | .glob _ | .int _ | .str _ | .bool _ | .none | .cmp _ _ _ | .bop _ _ | .not _ | .neg _ | .tup _ | .sub _ _ | .call _ _ | .isi _ _ | .blt _ _=>false
noncomputable def lR(me:ME):Option (String×List ME):=match me with
 | .call f args=>some (f,args)
 | _=>Option.none
noncomputable def evF(cf:CF)(ρ:List (String×D))(me:ME):Option (D×Bool):=match lR me with
 | some (f,args)=>(match bV cf ρ args with
  | some ds=>cf.call f ds
  | Option.none=>Option.none)
 | Option.none=>(evE cf ρ me).map fun d=>(d,frF me d)

section
variable (cf:CF) (ρ:List (String×D))
theorem kj(f:String)(args:List ME):evF cf ρ (.call f args)=(match bV cf ρ args with | some ds=>cf.call f ds | Option.none=>Option.none):=rfl
end
noncomputable def cj(f:D→St→Option (Fl×St)):List D→St→Option (Fl×St)
 | [],σ=>some (.next,σ)
 | it::r,σ=>match f it σ with
  | some (.next,σ')=>cj f r σ'
  | x=>x
noncomputable def dY(c:St→Option Bool)(f:St→Option (Fl×St)):Nat→St→Option (Fl×St)
 | 0,_=>Option.none
 | n+1,σ=>match c σ with
  | some true=>(match f σ with
   | some (.next,σ')=>dY c f n σ'
   | x=>x)
  | some false=>some (.next,σ)
  | Option.none=>Option.none
noncomputable def tO:Nat:=1000
noncomputable def fj(cf:CF)(c:ME)(σ:St):Option Bool:=match evE cf (vis σ) c with
 | some d=>bE d
 | Option.none=>Option.none
noncomputable def tR(k r:D):List (D×List D)→List (D×List D)
 | []=>[(k,[r])]
 | q::G=>if aR q.1 k=true then (q.1,q.2++[r])::G else q::tR k r G
noncomputable def lF(cf:CF)(pl:D):List D→List (D×List D)→Option (List (D×List D))
 | [],G=>some G
 | r::rs,G=>match cf.call "cells_at" [r,pl] with
  | some p=>if (p.1.isTK&&!p.2)=true then lF cf pl rs (tR p.1 r G) else Option.none
  | Option.none=>Option.none
noncomputable def uG:Option (Bool×D)→Bool
 | some (true,.dict [] [])=>true
 | _=>false
noncomputable def iv:List String:=["rows","places","sums"]
noncomputable def uM(σ:St)(G:List (D×List D)):St:=aC (σ.filter fun p=>iv.contains p.1) "groups" (false,.dict (G.map (·.1)) (G.map fun q=>.list q.2))
noncomputable def uL(cf:CF)(σ:St):Option St:=match σ.lookup "rows" with
 | some (false,.list rs)=>(match σ.lookup "places" with
  | some (false,pl)=>if uG (σ.lookup "groups") then (lF cf pl rs []).map (uM σ) else Option.none
  | _=>Option.none)
 | _=>Option.none
mutual
noncomputable def exS(cf:CF)(st:MS)(σ:St):Option (Fl×St):=match st,σ with
 | .assign x e,σ=>match evF cf (vis σ) e with
  | some (d,fr)=>some (.next,aC (settle d e.names σ) x (fr,d))
  | Option.none=>Option.none
 | .append x e,σ=>match evE cf (vis σ) e with
  | some d=>(match (settle d e.names σ).lookup x with
   | some (true,.list ds)=>if ds.length<big then some (.next,aC (settle d e.names σ) x (true,.list (ds++[d]))) else Option.none
   | _=>Option.none)
  | Option.none=>Option.none
 | .setk x k e,σ=>match evE cf (vis σ) e with
  | some d=>(match evE cf (vis σ) k with
   | some dk=>(match (settle dk k.names (settle d e.names σ)).lookup x with
    | some (true,.dict ks vs)=>if dX dk ks&&decide (ks.length<big) then some (.next,aC (settle dk k.names (settle d e.names σ)) x (true,.dict (dK ks vs dk d).1 (dK ks vs dk d).2)) else Option.none
    | _=>Option.none)
   | Option.none=>Option.none)
  | Option.none=>Option.none
 | .ite c t f,σ=>match evE cf (vis σ) c with
  | some d=>(match bE d with
   | some true=>a8 cf t σ
   | some false=>a8 cf f σ
   | Option.none=>Option.none)
  | Option.none=>Option.none
 | .for_ x src body,σ=>match evE cf (vis σ) src with
  | some d=>(match d.items with
   | some its=>cj (fun it σ=>a8 cf body (aC σ x (false,it))) its (freeze src.names σ)
   | Option.none=>Option.none)
  | Option.none=>Option.none
 | .ret e,σ=>match e.varOf with
  | some x=>(match σ.lookup x with | some (fr,d)=>some (.ret fr d,σ) | Option.none=>Option.none)
  | Option.none=>(match evF cf (vis σ) e with
   | some (d,fr)=>some (.ret fr d,σ)
   | Option.none=>Option.none)
 | .bad,_=>Option.none
 | .forr x src body,σ=>match evE cf (vis σ) src with
  | some (.tup ds)=>cj (fun it σ=>a8 cf body (aC σ x (false,it))) ds.reverse (freeze src.names σ)
  | _=>Option.none
 | .expr e,σ=>match evE cf (vis σ) e with
  | some d=>if d.scalar then some (.next,σ) else Option.none
  | Option.none=>Option.none
 | .while_ c body,σ=>dY (fj cf c) (fun σ=>a8 cf body σ) tO σ
 | .grp,σ=>match uL cf σ with
  | some σ'=>some (.next,σ')
  | Option.none=>Option.none
termination_by structural st
noncomputable def a8(cf:CF)(ss:List MS)(σ:St):Option (Fl×St):=match ss,σ with
 | [],σ=>some (.next,σ)
 | st::r,σ=>match exS cf st σ with
  | some (.next,σ')=>a8 cf r σ'
  | x=>x
termination_by structural ss
end

structure Fn where
 params:List String
 body:List MS

noncomputable def al(P:List (String×Fn))(X:CF):Nat→CF
 | 0=>⟨fun _ _=>Option.none,X.glob⟩
 | n+1=>⟨fun f args=>match P.lookup f with
  | Option.none=>X.call f args
  | some fn=>if args.length=fn.params.length then
    (match a8 (al P X n) fn.body ((fn.params.zip args).map fun p=>(p.1,(false,p.2))) with
    | some (.ret fr d,_)=>some (d,fr)
    | some (.next,_)=>some (.none,false)
    | _=>Option.none)
   else Option.none,X.glob⟩
set_option autoImplicit true in
theorem fK(cf:CF)(ρ:List (String×D)):evE cf ρ (ME.var x)=(ρ.lookup x):=rfl
set_option autoImplicit true in
theorem ev_cmp(cf:CF)(ρ:List (String×D)):evE cf ρ (ME.cmp op a b)=(match evE cf ρ a with
   | some x=>(match evE cf ρ b with | some y=>eG op x y | Option.none=>Option.none)
   | Option.none=>Option.none):=rfl
set_option autoImplicit true in
theorem uQ(cf:CF)(ρ:List (String×D)):evE cf ρ (ME.sub a i)=(match evE cf ρ a with
   | some x=>(match evE cf ρ i with | some y=>a9 x y | Option.none=>Option.none)
   | Option.none=>Option.none):=rfl
set_option autoImplicit true in
theorem ev_comp(cf:CF)(ρ:List (String×D)):evE cf ρ (ME.comp elt x src cs)=(match evE cf ρ src with
   | some d=>(match d.items with
    | some its=>if its.length≤big then (bO (fun it=>match lG cf ((x,it)::ρ) cs with
      | some true=>(match evE cf ((x,it)::ρ) elt with | some y=>some (some y) | Option.none=>Option.none)
      | some false=>some Option.none
      | Option.none=>Option.none) its).map .list else Option.none
    | Option.none=>Option.none)
   | Option.none=>Option.none):=rfl
set_option autoImplicit true in
theorem evs_nil(cf:CF)(ρ:List (String×D)):bV cf ρ ([])=(some []):=rfl
set_option autoImplicit true in
theorem m4(cf:CF)(ρ:List (String×D)):bV cf ρ (e::r)=(match evE cf ρ e with
   | some d=>(match bV cf ρ r with | some ds=>some (d::ds) | Option.none=>Option.none)
   | Option.none=>Option.none):=rfl
set_option autoImplicit true in
theorem nN(cf:CF)(σ:St):exS cf (MS.assign x e) σ=(match evF cf (vis σ) e with
   | some (d,fr)=>some (.next,aC (settle d e.names σ) x (fr,d))
   | Option.none=>Option.none):=rfl
set_option autoImplicit true in
theorem xs_append(cf:CF)(σ:St):exS cf (MS.append x e) σ=(match evE cf (vis σ) e with
   | some d=>(match (settle d e.names σ).lookup x with
    | some (true,.list ds)=>if ds.length<big then some (.next,aC (settle d e.names σ) x (true,.list (ds++[d]))) else Option.none
    | _=>Option.none)
   | Option.none=>Option.none):=rfl
set_option autoImplicit true in
theorem xs_setk(cf:CF)(σ:St):exS cf (MS.setk x k e) σ=(match evE cf (vis σ) e with
   | some d=>(match evE cf (vis σ) k with
    | some dk=>(match (settle dk k.names (settle d e.names σ)).lookup x with
     | some (true,.dict ks vs)=>if dX dk ks&&decide (ks.length<big) then some (.next,aC (settle dk k.names (settle d e.names σ)) x (true,.dict (dK ks vs dk d).1 (dK ks vs dk d).2)) else Option.none
     | _=>Option.none)
    | Option.none=>Option.none)
   | Option.none=>Option.none):=rfl
set_option autoImplicit true in
theorem xs_ite(cf:CF)(σ:St):exS cf (MS.ite c t f) σ=(match evE cf (vis σ) c with
   | some d=>(match bE d with
    | some true=>a8 cf t σ
    | some false=>a8 cf f σ
    | Option.none=>Option.none)
   | Option.none=>Option.none):=rfl
set_option autoImplicit true in
theorem xs_for_(cf:CF)(σ:St):exS cf (MS.for_ x src body) σ=(match evE cf (vis σ) src with
   | some d=>(match d.items with
    | some its=>cj (fun it σ=>a8 cf body (aC σ x (false,it))) its (freeze src.names σ)
    | Option.none=>Option.none)
   | Option.none=>Option.none):=rfl
set_option autoImplicit true in
theorem rF(cf:CF)(σ:St):exS cf (MS.ret e) σ=(match e.varOf with
   | some x=>(match σ.lookup x with | some (fr,d)=>some (.ret fr d,σ) | Option.none=>Option.none)
   | Option.none=>(match evF cf (vis σ) e with
    | some (d,fr)=>some (.ret fr d,σ)
    | Option.none=>Option.none)):=rfl
theorem r7(cf:CF)(x:String)(src:ME)(body:List MS)(σ:St):exS cf (MS.forr x src body) σ=(match evE cf (vis σ) src with
  | some (.tup ds)=>cj (fun it σ=>a8 cf body (aC σ x (false,it))) ds.reverse (freeze src.names σ)
  | _=>Option.none):=rfl
set_option autoImplicit true in
theorem tY(cf:CF)(σ:St):exS cf (MS.grp) σ=(match uL cf σ with
   | some σ'=>some (.next,σ')
   | Option.none=>Option.none):=rfl
theorem xs_while(cf:CF)(c:ME)(body:List MS)(σ:St):exS cf (MS.while_ c body) σ=dY (fj cf c) (fun σ=>a8 cf body σ) tO σ:=rfl
set_option autoImplicit true in
theorem r6(cf:CF)(σ:St):a8 cf ([]) σ=(some (.next,σ)):=rfl
set_option autoImplicit true in
theorem l4(cf:CF)(σ:St):a8 cf (st::r) σ=(match exS cf st σ with
   | some (.next,σ')=>a8 cf r σ'
   | x=>x):=rfl
theorem ur(a:ME)(f x p:String)(rev:Bool):(ME.srt a f x p rev).names=a.names++[p]:=rfl
theorem ev_srt(cf:CF)(ρ:List (String×D))(a:ME)(f x p:String)(rev:Bool):evE cf ρ (ME.srt a f x p rev)=(match evE cf ρ a with
  | some x=>(match ρ.lookup p with
   | some i=>srtD (fA cf f i) rev x
   | Option.none=>Option.none)
  | Option.none=>Option.none):=rfl
theorem bT(x:String):∀ (σ:St),(vis σ).lookup x=(σ.lookup x).map (·.2)
 | []=>rfl
 | (y,v)::r=>by
  have ih:=bT x r
  unfold vis at ih ⊢
  rw[List.map_cons,List.lookup_cons,List.lookup_cons]
  by_cases h:x=y
  ·subst h;simp
  ·have:(x == y)=false:=by simpa using h
   simp only[this]
   exact ih
theorem aH(x y:String)(v:Bool×D):∀ (σ:St),(aC σ x v).lookup y=if y=x then some v else σ.lookup y
 | []=>by
  unfold aC
  rw[List.lookup_cons]
  by_cases h:y=x
  ·simp[h]
  ·have:(y == x)=false:=by simpa using h
   simp[h,this]
 | (z,u)::r=>by
  unfold aC
  split
  ·rename_i h;subst h
   rw[List.lookup_cons,List.lookup_cons]
   by_cases h:y=z
   ·simp[h]
   ·have:(y == z)=false:=by simpa using h
    simp[h,this]
  ·rename_i hz
   rw[List.lookup_cons,List.lookup_cons,aH x y v r]
   by_cases h:y=x
   ·subst h
    have:(y == z)=false:=by simpa using Ne.symm hz
    simp[this]
   ·simp[h]
theorem bg(ns:List String)(x:String):∀ (σ:St),(freeze ns σ).lookup x=(σ.lookup x).map fun p=>(p.1&&!ns.contains x,p.2)
 | []=>rfl
 | (y,v)::r=>by
  have ih:=bg ns x r
  unfold freeze at ih ⊢
  rw[List.map_cons,List.lookup_cons,List.lookup_cons]
  by_cases h:x=y
  ·subst h;simp
  ·have:(x == y)=false:=by simpa using h
   simp only[this]
   exact ih

end Mine
namespace Mine
open PySem

noncomputable abbrev KD:=Str→Option NameKind
noncomputable def fg(k:KD)(x:Str):Bool:=(k x == some .local||k x == some .cell||k x == some .free)&&x != Str.ofString "__debug__"&&x != Str.ofString "__classdict__"&&x != Str.ofString ".0"
noncomputable def bY(k:KD)(x:Str):Bool:=k x == some .globalImplicit&&x != Str.ofString "__debug__"
noncomputable def dN(k:KD)(scope:Scope):KD:=fun x=>(scope.names.map fun p=>if p.2 == .free&&k p.1 == some .cell then (p.1,NameKind.cell) else p).lookup x
noncomputable def d3(e:Expr):Bool:=!decide (e.ctorIdx=7)
noncomputable def kG(k:KD):Bool:=k (Str.ofString "keys") == some .local&&k (Str.ofString "sorted") == some .globalImplicit&&k (Str.ofString "place") == some .cell
noncomputable def gF(k:KD)(scope:Scope)(x:Str):Bool:=
 scope.kind == .function&&decide (scope.names.map (·.1)).Nodup&&(scope.names.lookup x == some .local||scope.names.lookup x == some .cell) &&
 scope.names.all (fun p=>p.2 != .free||k p.1 == some .cell||k p.1 == some .free)&&scope.names.all (fun p=>p.2 == .free||p.2 == .globalImplicit||p.1 == x||p.1 == Str.ofString ".0")&&!kG (dN k scope)

noncomputable def qv(k:KD)(ps:Arguments)(sc:Scope)(x p:Str):Bool:=
 (ps.posonlyargs.isEmpty&&ps.kwonlyargs.isEmpty&&ps.vararg.isNone&&ps.kwarg.isNone&&ps.defaults.isEmpty&&ps.kw_defaults.isEmpty)&&(ps.args.map (·.arg) == [x] &&
 sc.kind == .function&&!sc.isCoroutine&&!sc.isGenerator&&sc.names.lookup x == some .local) &&
 (sc.names.all (fun p=>p.2 != .cell&&(p.2 != .free||k p.1 == some .cell||k p.1 == some .free))&&kG k&&!kG (fun y=>sc.names.lookup y)&&sc.names.lookup p == some .free)
noncomputable def ME.isNone(e:ME):Bool:=decide (e.ctorIdx=5)
@[elab_as_elim] theorem isNone_inv{e:ME}{C:ME→Prop}(h:e.isNone=true)(k:C .none):C e:=ME.none.elim (motive_1:=C) e (of_decide_eq_true h) k

noncomputable def mu(e:Expr):Bool:=!decide (e.ctorIdx=26)
theorem bo{c:Prop}[Decidable c]{f:c→Bool}(h:dite c f (fun _=>false)=true):∃ hc,f hc=true:=by
 by_cases hc:c
 ·rw[dif_pos hc] at h;exact⟨hc,h⟩
 ·rw[dif_neg hc] at h;cases h
noncomputable def c1{α:Type}(l:List α)(f:α→Bool):Bool:=match l with | [x]=>f x | _=>false
@[elab_as_elim] theorem dP{α:Type}{l:List α}{f:α→Bool}{C:List α→Prop}(h:c1 l f=true)(k:∀ x,f x=true→C [x]):C l:=by
 cases l with
 | nil=>cases h
 | cons x l=>cases l with
  | nil=>exact k x h
  | cons=>cases h
noncomputable def c2{α:Type}(l:List α)(f:α→α→Bool):Bool:=match l with | x::l=>c1 l (f x) | _=>false
@[elab_as_elim] theorem k6{α:Type}{l:List α}{f:α→α→Bool}{C:List α→Prop}(h:c2 l f=true)(k:∀ x y,f x y=true→C [x,y]):C l:=by
 cases l with
 | nil=>cases h
 | cons x l=>exact dP (C:=fun l=>C (x::l)) h (k x)
@[elab_as_elim] theorem nu{α:Type}{l:Option α}{f:α→Bool}{C:Option α→Prop}(h:tW l f=true)(k:∀ x,f x=true→C (some x)):C l:=by
 cases l with
 | none=>cases h
 | some x=>exact k x h
theorem bG{a b:Bool}{C:Prop}(h:(a&&b)=true)(k:a=true→b=true→C):C:=k (Bool.and_eq_true_iff.mp h).1 (Bool.and_eq_true_iff.mp h).2
theorem gT{a b c:Bool}{C:Prop}(h:(a&&b&&c)=true)(k:a=true→b=true→c=true→C):C:=bG h fun h hc=>bG h fun ha hb=>k ha hb hc
theorem nL{a b c d:Bool}{C:Prop}(h:(a&&b&&c&&d)=true)(k:a=true→b=true→c=true→d=true→C):C:=bG h fun h hd=>gT h fun ha hb hc=>k ha hb hc hd
theorem nK{a b c d e:Bool}{C:Prop}(h:(a&&b&&c&&d&&e)=true)(k:a=true→b=true→c=true→d=true→e=true→C):C:=bG h fun h he=>nL h fun ha hb hc hd=>k ha hb hc hd he
theorem and6{a b c d e f:Bool}{C:Prop}(h:(a&&b&&c&&d&&e&&f)=true)(k:a=true→b=true→c=true→d=true→e=true→f=true→C):C:=bG h fun h hf=>nK h fun ha hb hc hd he=>k ha hb hc hd he hf
@[elab_as_elim] theorem eqb{α:Type}[BEq α][LawfulBEq α]{a b:α}{C:α→Prop}(h:(a == b)=true)(k:C b):C a:=(eq_of_beq h).symm▸k
@[elab_as_elim] theorem eqb'{α:Type}[BEq α][LawfulBEq α]{a b:α}{C:α→Prop}(h:(a == b)=true)(k:C a):C b:=eq_of_beq h▸k
@[elab_as_elim] theorem je{α:Type}{l:List α}{C:List α→Prop}(h:l.isEmpty=true)(k:C []):C l:=(List.isEmpty_iff.mp h).symm▸k
theorem eP{k:KD}{x:Str}(h:bY k x=true):k x=some .globalImplicit∧x≠Str.ofString "__debug__":=bG h fun h1 h2=>⟨eq_of_beq h1,by simpa using h2⟩
noncomputable def cL(e:Expr)(f:Str→Pos→Bool):Bool:=dite (e.ctorIdx=23) (fun h=>Expr.Name.elim (motive_1:=fun _=>Bool) e h f) (fun _=>false)
@[elab_as_elim] theorem bI{e:Expr}{f:Str→Pos→Bool}{C:Expr→Prop}(h:cL e f=true)(k:∀ v0 v1,f v0 v1=true→C (.Name v0 v1)):C e:=
 (bo h).elim fun hc h=>Expr.Name.elim (motive_1:=fun e=>∀ hc,Expr.Name.elim (motive_1:=fun _=>Bool) e hc f=true→C e) e hc (fun v0 v1 _ h=>k v0 v1 h) hc h
noncomputable def gR(e:Expr)(f:Const→Nat→Pos→Bool):Bool:=dite (e.ctorIdx=19) (fun h=>Expr.Constant.elim (motive_1:=fun _=>Bool) e h f) (fun _=>false)
@[elab_as_elim] theorem dy{e:Expr}{f:Const→Nat→Pos→Bool}{C:Expr→Prop}(h:gR e f=true)(k:∀ v0 v1 v2,f v0 v1 v2=true→C (.Constant v0 v1 v2)):C e:=
 (bo h).elim fun hc h=>Expr.Constant.elim (motive_1:=fun e=>∀ hc,Expr.Constant.elim (motive_1:=fun _=>Bool) e hc f=true→C e) e hc (fun v0 v1 v2 _ h=>k v0 v1 v2 h) hc h
noncomputable def cBin(e:Expr)(f:Expr→Operator→Expr→Pos→Bool):Bool:=dite (e.ctorIdx=2) (fun h=>Expr.BinOp.elim (motive_1:=fun _=>Bool) e h f) (fun _=>false)
@[elab_as_elim] theorem cBin_inv{e:Expr}{f:Expr→Operator→Expr→Pos→Bool}{C:Expr→Prop}(h:cBin e f=true)(k:∀ v0 v1 v2 v3,f v0 v1 v2 v3=true→C (.BinOp v0 v1 v2 v3)):C e:=
 (bo h).elim fun hc h=>Expr.BinOp.elim (motive_1:=fun e=>∀ hc,Expr.BinOp.elim (motive_1:=fun _=>Bool) e hc f=true→C e) e hc (fun v0 v1 v2 v3 _ h=>k v0 v1 v2 v3 h) hc h
noncomputable def cBool(e:Expr)(f:BoolOp→List Expr→Pos→Bool):Bool:=dite (e.ctorIdx=0) (fun h=>Expr.BoolOp.elim (motive_1:=fun _=>Bool) e h f) (fun _=>false)
@[elab_as_elim] theorem cBool_inv{e:Expr}{f:BoolOp→List Expr→Pos→Bool}{C:Expr→Prop}(h:cBool e f=true)(k:∀ v0 v1 v2,f v0 v1 v2=true→C (.BoolOp v0 v1 v2)):C e:=
 (bo h).elim fun hc h=>Expr.BoolOp.elim (motive_1:=fun e=>∀ hc,Expr.BoolOp.elim (motive_1:=fun _=>Bool) e hc f=true→C e) e hc (fun v0 v1 v2 _ h=>k v0 v1 v2 h) hc h
noncomputable def cUn(e:Expr)(f:UnaryOp→Expr→Pos→Bool):Bool:=dite (e.ctorIdx=3) (fun h=>Expr.UnaryOp.elim (motive_1:=fun _=>Bool) e h f) (fun _=>false)
@[elab_as_elim] theorem cUn_inv{e:Expr}{f:UnaryOp→Expr→Pos→Bool}{C:Expr→Prop}(h:cUn e f=true)(k:∀ v0 v1 v2,f v0 v1 v2=true→C (.UnaryOp v0 v1 v2)):C e:=
 (bo h).elim fun hc h=>Expr.UnaryOp.elim (motive_1:=fun e=>∀ hc,Expr.UnaryOp.elim (motive_1:=fun _=>Bool) e hc f=true→C e) e hc (fun v0 v1 v2 _ h=>k v0 v1 v2 h) hc h
noncomputable def cTup(e:Expr)(f:List Expr→Nat→Pos→Bool):Bool:=dite (e.ctorIdx=25) (fun h=>Expr.Tuple.elim (motive_1:=fun _=>Bool) e h f) (fun _=>false)
@[elab_as_elim] theorem cTup_inv{e:Expr}{f:List Expr→Nat→Pos→Bool}{C:Expr→Prop}(h:cTup e f=true)(k:∀ v0 v1 v2,f v0 v1 v2=true→C (.Tuple v0 v1 v2)):C e:=
 (bo h).elim fun hc h=>Expr.Tuple.elim (motive_1:=fun e=>∀ hc,Expr.Tuple.elim (motive_1:=fun _=>Bool) e hc f=true→C e) e hc (fun v0 v1 v2 _ h=>k v0 v1 v2 h) hc h
noncomputable def cLst(e:Expr)(f:List Expr→Pos→Bool):Bool:=dite (e.ctorIdx=24) (fun h=>Expr.List.elim (motive_1:=fun _=>Bool) e h f) (fun _=>false)
@[elab_as_elim] theorem cLst_inv{e:Expr}{f:List Expr→Pos→Bool}{C:Expr→Prop}(h:cLst e f=true)(k:∀ v0 v1,f v0 v1=true→C (.List v0 v1)):C e:=
 (bo h).elim fun hc h=>Expr.List.elim (motive_1:=fun e=>∀ hc,Expr.List.elim (motive_1:=fun _=>Bool) e hc f=true→C e) e hc (fun v0 v1 _ h=>k v0 v1 h) hc h
noncomputable def tU(e:Expr)(f:Expr→Expr→Pos→Bool):Bool:=dite (e.ctorIdx=21) (fun h=>Expr.Subscript.elim (motive_1:=fun _=>Bool) e h f) (fun _=>false)
@[elab_as_elim] theorem km{e:Expr}{f:Expr→Expr→Pos→Bool}{C:Expr→Prop}(h:tU e f=true)(k:∀ v0 v1 v2,f v0 v1 v2=true→C (.Subscript v0 v1 v2)):C e:=
 (bo h).elim fun hc h=>Expr.Subscript.elim (motive_1:=fun e=>∀ hc,Expr.Subscript.elim (motive_1:=fun _=>Bool) e hc f=true→C e) e hc (fun v0 v1 v2 _ h=>k v0 v1 v2 h) hc h
noncomputable def uX(e:Expr)(f:Option Expr→Option Expr→Option Expr→Pos→Bool):Bool:=dite (e.ctorIdx=26) (fun h=>Expr.Slice.elim (motive_1:=fun _=>Bool) e h f) (fun _=>false)
@[elab_as_elim] theorem cSlice_inv{e:Expr}{f:Option Expr→Option Expr→Option Expr→Pos→Bool}{C:Expr→Prop}(h:uX e f=true)(k:∀ v0 v1 v2 v3,f v0 v1 v2 v3=true→C (.Slice v0 v1 v2 v3)):C e:=
 (bo h).elim fun hc h=>Expr.Slice.elim (motive_1:=fun e=>∀ hc,Expr.Slice.elim (motive_1:=fun _=>Bool) e hc f=true→C e) e hc (fun v0 v1 v2 v3 _ h=>k v0 v1 v2 v3 h) hc h
noncomputable def cCmp(e:Expr)(f:Expr→List CmpOp→List Expr→Pos→Bool):Bool:=dite (e.ctorIdx=15) (fun h=>Expr.Compare.elim (motive_1:=fun _=>Bool) e h f) (fun _=>false)
@[elab_as_elim] theorem cCmp_inv{e:Expr}{f:Expr→List CmpOp→List Expr→Pos→Bool}{C:Expr→Prop}(h:cCmp e f=true)(k:∀ v0 v1 v2 v3,f v0 v1 v2 v3=true→C (.Compare v0 v1 v2 v3)):C e:=
 (bo h).elim fun hc h=>Expr.Compare.elim (motive_1:=fun e=>∀ hc,Expr.Compare.elim (motive_1:=fun _=>Bool) e hc f=true→C e) e hc (fun v0 v1 v2 v3 _ h=>k v0 v1 v2 v3 h) hc h
noncomputable def fo(e:Expr)(f:Expr→List Expr→List Keyword→Pos→Bool):Bool:=dite (e.ctorIdx=16) (fun h=>Expr.Call.elim (motive_1:=fun _=>Bool) e h f) (fun _=>false)
@[elab_as_elim] theorem dH{e:Expr}{f:Expr→List Expr→List Keyword→Pos→Bool}{C:Expr→Prop}(h:fo e f=true)(k:∀ v0 v1 v2 v3,f v0 v1 v2 v3=true→C (.Call v0 v1 v2 v3)):C e:=
 (bo h).elim fun hc h=>Expr.Call.elim (motive_1:=fun e=>∀ hc,Expr.Call.elim (motive_1:=fun _=>Bool) e hc f=true→C e) e hc (fun v0 v1 v2 v3 _ h=>k v0 v1 v2 v3 h) hc h
noncomputable def cLC(e:Expr)(f:Expr→List Comprehension→Scope→Pos→Bool):Bool:=dite (e.ctorIdx=8) (fun h=>Expr.ListComp.elim (motive_1:=fun _=>Bool) e h f) (fun _=>false)
@[elab_as_elim] theorem cLC_inv{e:Expr}{f:Expr→List Comprehension→Scope→Pos→Bool}{C:Expr→Prop}(h:cLC e f=true)(k:∀ v0 v1 v2 v3,f v0 v1 v2 v3=true→C (.ListComp v0 v1 v2 v3)):C e:=
 (bo h).elim fun hc h=>Expr.ListComp.elim (motive_1:=fun e=>∀ hc,Expr.ListComp.elim (motive_1:=fun _=>Bool) e hc f=true→C e) e hc (fun v0 v1 v2 v3 _ h=>k v0 v1 v2 v3 h) hc h
noncomputable def uY(e:Expr)(f:List (Option Expr)→List Expr→Pos→Bool):Bool:=dite (e.ctorIdx=6) (fun h=>Expr.Dict.elim (motive_1:=fun _=>Bool) e h f) (fun _=>false)
@[elab_as_elim] theorem oF{e:Expr}{f:List (Option Expr)→List Expr→Pos→Bool}{C:Expr→Prop}(h:uY e f=true)(k:∀ v0 v1 v2,f v0 v1 v2=true→C (.Dict v0 v1 v2)):C e:=
 (bo h).elim fun hc h=>Expr.Dict.elim (motive_1:=fun e=>∀ hc,Expr.Dict.elim (motive_1:=fun _=>Bool) e hc f=true→C e) e hc (fun v0 v1 v2 _ h=>k v0 v1 v2 h) hc h
noncomputable def tD(e:Expr)(f:Expr→Str→Pos→Bool):Bool:=dite (e.ctorIdx=20) (fun h=>Expr.Attribute.elim (motive_1:=fun _=>Bool) e h f) (fun _=>false)
@[elab_as_elim] theorem k5{e:Expr}{f:Expr→Str→Pos→Bool}{C:Expr→Prop}(h:tD e f=true)(k:∀ v0 v1 v2,f v0 v1 v2=true→C (.Attribute v0 v1 v2)):C e:=
 (bo h).elim fun hc h=>Expr.Attribute.elim (motive_1:=fun e=>∀ hc,Expr.Attribute.elim (motive_1:=fun _=>Bool) e hc f=true→C e) e hc (fun v0 v1 v2 _ h=>k v0 v1 v2 h) hc h
noncomputable def cLam(e:Expr)(f:Arguments→Expr→Scope→Pos→Bool):Bool:=dite (e.ctorIdx=4) (fun h=>Expr.Lambda.elim (motive_1:=fun _=>Bool) e h f) (fun _=>false)
@[elab_as_elim] theorem rn{e:Expr}{f:Arguments→Expr→Scope→Pos→Bool}{C:Expr→Prop}(h:cLam e f=true)(k:∀ v0 v1 v2 v3,f v0 v1 v2 v3=true→C (.Lambda v0 v1 v2 v3)):C e:=
 (bo h).elim fun hc h=>Expr.Lambda.elim (motive_1:=fun e=>∀ hc,Expr.Lambda.elim (motive_1:=fun _=>Bool) e hc f=true→C e) e hc (fun v0 v1 v2 v3 _ h=>k v0 v1 v2 v3 h) hc h
noncomputable def nk(k:KD)(b:Expr)(f x p:String):Bool:=fo b fun g as ks _=>ks.isEmpty&&cL g fun g _=>g == Str.ofString f&&bY k g &&
 (match as with | e::es'=>(tU e fun v s _=>mu s&&(cL v fun y _=>y == Str.ofString x&&fg k y)&&(cL s fun y _=>y == Str.ofString p&&fg k y))&&es'.isEmpty | []=>false)
noncomputable def chkKw(k:KD)(ks:List Keyword)(f x p:String)(rev:Bool):Bool:=match rev with
 | true=>c2 ks fun k1 k2=>k1.arg == some (Str.ofString "key")&&k2.arg == some (Str.ofString "reverse")&&(gR k2.value fun c _ _=>c == .bool true)&&cLam k1.value fun ps b sc _=>qv k ps sc (Str.ofString x) (Str.ofString p)&&nk (fun y=>sc.names.lookup y) b f x p
 | false=>c1 ks fun k1=>k1.arg == some (Str.ofString "key")&&cLam k1.value fun ps b sc _=>qv k ps sc (Str.ofString x) (Str.ofString p)&&nk (fun y=>sc.names.lookup y) b f x p
noncomputable def rS(e:Expr)(i:Int):Bool:=gR e fun c _ _=>c == .int i
noncomputable def uF(e:Expr)(x:String):Bool:=gR e fun c _ _=>c == .str (Str.ofString x)
noncomputable def innKs(l:List (Option Expr)):Bool:=c2 l fun a b=>(tW a fun a=>uF a "group")&&tW b fun b=>uF b "once"
noncomputable def innVs(l:List Expr):Bool:=c2 l fun a b=>rS a 3&&rS b 1
mutual
noncomputable def aG(k:KD)(e:Expr)(me:ME):Bool:=match me with
 | .var x=>cL e fun y _=>y == Str.ofString x&&fg k y
 | .glob x=>cL e fun y _=>y == Str.ofString x&&bY k y
 | .int i=>gR e fun c _ _=>c == .int i
 | .str s=>gR e fun c _ _=>c == .str (Str.ofString s)
 | .bool b=>gR e fun c _ _=>c == .bool b
 | .none=>gR e fun c _ _=>c == .none
 | .bin op a b=>cBin e fun l op' r _=>op == op'&&aG k l a&&aG k r b
 | .cmp op a b=>cCmp e fun l os rs _=>os == [op]&&c1 rs fun r=>d3 r&&aG k l a&&aG k r b
 | .bop op es=>cBool e fun op' vs _=>op == op'&&bW k vs es
 | .not a=>cUn e fun o x _=>o == .Not&&aG k x a
 | .neg a=>cUn e fun o x _=>o == .USub&&aG k x a
 | .tup es=>cTup e fun vs _ _=>bW k vs es
 | .lst es=>cLst e fun vs _=>bW k vs es
 | .dct ks vs=>uY e fun kes ves _=>kes.all Option.isSome&&bW k (kes.filterMap id) ks&&bW k ves vs
 | .sub a i=>tU e fun v s _=>mu s&&aG k v a&&aG k s i
 | .sl a lo hi=>tU e fun v s _=>uX s fun l u t _=>t.isNone&&aG k v a&&(match l with | Option.none=>lo.isNone | some x=>aG k x lo)&&(match u with | Option.none=>hi.isNone | some x=>aG k x hi)
 | .comp elt x src cs=>cLC e fun t gs scope _=>c1 gs fun g=>g.is_async == 0&&cL g.target fun y _=>y == Str.ofString x&&d3 g.iter&&gF k scope y&&aG k g.iter src&&aG (dN k scope) t elt&&bW (dN k scope) g.ifs cs
 | .call f args=>fo e fun g as ks _=>ks.isEmpty&&cL g fun g _=>g == Str.ofString f&&bY k g&&bW k as args
 | .isi a T=>fo e fun g as ks _=>ks.isEmpty&&c2 as fun x t=>cL g fun g _=>cL t fun t _=>g == Str.ofString "isinstance"&&bY k g&&t == Str.ofString T&&bY k t&&aG k x a
 | .blt f args=>fo e fun g as ks _=>ks.isEmpty&&cL g fun g _=>g == Str.ofString f&&bY k g&&bW k as args
 | .sset a=>fo e fun g as ks _=>ks.isEmpty&&cL g fun g _=>g == Str.ofString "sorted"&&bY k g&&c1 as fun x=>fo x fun g as ks _=>ks.isEmpty&&cL g fun g _=>g == Str.ofString "set"&&bY k g&&c1 as fun x=>aG k x a
 | .lcp a=>fo e fun g as ks _=>ks.isEmpty&&cL g fun g _=>g == Str.ofString "list"&&bY k g&&c1 as fun x=>aG k x a
 | .srt a f x p rev=>fo e fun g as ks _=>chkKw k ks f x p rev&&cL g fun g _=>g == Str.ofString "sorted"&&bY k g&&c1 as fun x=>aG k x a
 | .inn a=>fo e fun g as ks p=>ks.isEmpty&&tD g fun o nm ap=>nm == Str.ofString "get"&&ap.endLine == p.line&&(uY o fun kes ves _=>innKs kes&&innVs ves)&&c2 as fun x y=>rS y 2&&aG k x a
termination_by structural me
noncomputable def bW(k:KD)(es:List Expr)(ms:List ME):Bool:=match ms with
 | []=>es.isEmpty
 | a::r=>(match es with | e::es'=>aG k e a&&bW k es' r | []=>false)
termination_by structural ms
end

section
variable {k:KD} {e:Expr}
inductive rD(k:KD)(x:String):Expr→Prop
 | mk {p} (h:fg k (Str.ofString x)=true):rD k x (.Name (Str.ofString x) p)
theorem gL{x:String}(h:aG k e (.var x)=true):rD k x e:=
 bI h fun y p h=>bG h fun h1=>eqb h1 fun h2=>⟨h2⟩
inductive vf(k:KD)(x:String):Expr→Prop
 | mk {p} (h:bY k (Str.ofString x)=true):vf k x (.Name (Str.ofString x) p)
theorem qN{x:String}(h:aG k e (.glob x)=true):vf k x e:=
 bI h fun y p h=>bG h fun h1=>eqb h1 fun h2=>⟨h2⟩
inductive fO(c:Const):Expr→Prop
 | mk {n p}:fO c (.Constant c n p)
theorem i8{c:Const}(h:(gR e fun c' _ _=>c' == c)=true):fO c e:=
 dy h fun c n p h=>eqb h ⟨⟩
theorem sZ{i:Int}(h:aG k e (.int i)=true):fO (.int i) e:=i8 h
theorem sT{i:String}(h:aG k e (.str i)=true):fO (.str (Str.ofString i)) e:=i8 h
theorem qO{i:Bool}(h:aG k e (.bool i)=true):fO (.bool i) e:=i8 h
theorem qM(h:aG k e .none=true):fO .none e:=i8 h
inductive IBin(k:KD)(op:Operator)(a b:ME):Expr→Prop
 | mk {l r p} (h1:aG k l a=true) (h2:aG k r b=true):IBin k op a b (.BinOp l op r p)
theorem s8{op:Operator}{a b:ME}(h:aG k e (.bin op a b)=true):IBin k op a b e:=
 cBin_inv h fun l op' r p h=>gT h fun h1 h2 h3=>eqb' h1 ⟨h2,h3⟩
inductive ICmp(k:KD)(op:CmpOp)(a b:ME):Expr→Prop
 | mk {l r p} (hs:d3 r=true) (h1:aG k l a=true) (h2:aG k r b=true):ICmp k op a b (.Compare l [op] [r] p)
theorem pt{op:CmpOp}{a b:ME}(h:aG k e (.cmp op a b)=true):ICmp k op a b e:=
 cCmp_inv h fun l os rs p h=>bG h fun h1 h=>eqb h1 (dP h fun r h=>gT h fun h2 h3 h4=>⟨h2,h3,h4⟩)
inductive IBop(k:KD)(op:BoolOp)(es:List ME):Expr→Prop
 | mk {vs p} (h:bW k vs es=true):IBop k op es (.BoolOp op vs p)
theorem pu{op:BoolOp}{es:List ME}(h:aG k e (.bop op es)=true):IBop k op es e:=
 cBool_inv h fun op' vs p h=>bG h fun h1 h2=>eqb' h1 ⟨h2⟩
inductive IUn(k:KD)(o:UnaryOp)(a:ME):Expr→Prop
 | mk {x p} (h:aG k x a=true):IUn k o a (.UnaryOp o x p)
theorem uH{o:UnaryOp}{a:ME}(h:(cUn e fun o' x _=>o' == o&&aG k x a)=true):IUn k o a e:=
 cUn_inv h fun o' x p h=>bG h fun h1 h2=>eqb h1 ⟨h2⟩
theorem pq{a:ME}(h:aG k e (.not a)=true):IUn k .Not a e:=uH h
theorem sV{a:ME}(h:aG k e (.neg a)=true):IUn k .USub a e:=uH h
inductive ITup(k:KD)(es:List ME):Expr→Prop
 | mk {vs n p} (h:bW k vs es=true):ITup k es (.Tuple vs n p)
theorem sS{es:List ME}(h:aG k e (.tup es)=true):ITup k es e:=
 cTup_inv h fun _ _ _ h=>⟨h⟩
inductive ILst(k:KD)(es:List ME):Expr→Prop
 | mk {vs p} (h:bW k vs es=true):ILst k es (.List vs p)
theorem sW{es:List ME}(h:aG k e (.lst es)=true):ILst k es e:=
 cLst_inv h fun _ _ h=>⟨h⟩
theorem somes:∀ {l:List (Option Expr)},l.all Option.isSome=true→l=(l.filterMap id).map some
 | [],_=>rfl
 | none::l,h=>by simp at h
 | some x::l,h=>by simp at h;simp;exact somes (by simpa using h)
inductive IDct(k:KD)(ks vs:List ME):Expr→Prop
 | mk {kes ves p} (h1:bW k kes ks=true) (h2:bW k ves vs=true):IDct k ks vs (.Dict (kes.map some) ves p)
theorem s5{ks vs:List ME}(h:aG k e (.dct ks vs)=true):IDct k ks vs e:=
 oF h fun kes ves p h=>gT h fun h1 h2 h3=>(somes h1).symm▸⟨h2,h3⟩
theorem notSlice_inv{s:Expr}(h:mu s=true):∀ a b c p,s=.Slice a b c p→False:=by
 rintro a b c p rfl;cases h
inductive ISub(k:KD)(a i:ME):Expr→Prop
 | mk {v s p} (hn:∀ a b c p,s=.Slice a b c p→False) (h1:aG k v a=true) (h2:aG k s i=true):ISub k a i (.Subscript v s p)
theorem lS{a i:ME}(h:aG k e (.sub a i)=true):ISub k a i e:=
 km h fun _ _ _ h=>gT h fun h1 h2 h3=>⟨notSlice_inv h1,h2,h3⟩
noncomputable def chkO(k:KD)(l:Option Expr)(lo:ME):Bool:=match l with | Option.none=>lo.isNone | some x=>aG k x lo
inductive ISl(k:KD)(a lo hi:ME):Expr→Prop
 | mk {v l u p pos} (h1:aG k v a=true) (h2:chkO k l lo=true) (h3:chkO k u hi=true):ISl k a lo hi (.Subscript v (.Slice l u Option.none p) pos)
theorem uI{a lo hi:ME}(h:aG k e (.sl a lo hi)=true):ISl k a lo hi e:=
 km h fun v s p h=>cSlice_inv h fun l u t p h=>nL h fun h1 h2 h3 h4=>(Option.isNone_iff_eq_none.mp h1).symm▸⟨h2,h3,h4⟩
inductive tN(k:KD)(elt:ME)(x:String)(src:ME)(cs:List ME):Expr→Prop
 | mk {t py it ifs scope lp} (hn:d3 it=true) (hs:gF k scope (Str.ofString x)=true) (h1:aG k it src=true) (h2:aG (dN k scope) t elt=true) (h3:bW (dN k scope) ifs cs=true) :
  tN k elt x src cs (.ListComp t [⟨.Name (Str.ofString x) py,it,ifs,0⟩] scope lp)
theorem mO{elt src:ME}{x:String}{cs:List ME}(h:aG k e (.comp elt x src cs)=true):tN k elt x src cs e:=
 cLC_inv h fun t gs scope p h=>dP h fun g=>Comprehension.casesOn g fun tg it ifs z h=>bG h fun h1 h=>eqb (a:=z) h1 (bI (e:=tg) h fun y py h=>and6 h fun h2=>eqb h2 fun h3 h4 h5 h6 h7=>⟨h3,h4,h5,h6,h7⟩)
inductive oK(k:KD)(f:String)(args:List ME):Expr→Prop
 | mk {gp as pos} (hg:bY k (Str.ofString f)=true) (h:bW k as args=true):oK k f args (.Call (.Name (Str.ofString f) gp) as [] pos)
theorem j9{f:String}{args:List ME}(h:aG k e (.call f args)=true):oK k f args e:=
 dH h fun g as ks p h=>bG h fun h1 h=>je h1 (bI h fun y py h=>gT h fun h2=>eqb h2 fun h3 h4=>⟨h3,h4⟩)
theorem s7{f:String}{args:List ME}(h:aG k e (.blt f args)=true):oK k f args e:=j9 h
inductive iR(k:KD)(f:String)(P:Expr→Prop):Expr→Prop
 | mk {gp x pos} (hg:bY k (Str.ofString f)=true) (h:P x):iR k f P (.Call (.Name (Str.ofString f) gp) [x] [] pos)
theorem kN{f:String}{g:Expr→Bool}{P:Expr→Prop}(hP:∀ x,g x=true→P x)(h:(fo e fun n as ks _=>ks.isEmpty&&cL n fun n _=>n == Str.ofString f&&bY k n&&c1 as g)=true):iR k f P e:=
 dH h fun n as ks p h=>bG h fun h1 h=>je h1 (bI h fun y py h=>gT h fun h2=>eqb h2 fun h3 h4=>dP h4 fun x h4=>⟨h3,hP _ h4⟩)
theorem sX{a:ME}(h:aG k e (.lcp a)=true):iR k "list" (fun x=>aG k x a=true) e:=kN (fun _ h=>h) h
theorem qL{a:ME}(h:aG k e (.sset a)=true):iR k "sorted" (iR k "set" fun x=>aG k x a=true) e:=kN (fun _ h=>kN (fun _ h=>h) h) h
theorem ri{k:KD}{b:Expr}{f x p:String}(h:nk k b f x p=true):aG k b (.call f [.sub (.var x) (.var p)])=true:=h
inductive IKw(k:KD)(f x p:String):Bool→List Keyword→Prop
 | up {ps b sc lp kp} (h1:qv k ps sc (Str.ofString x) (Str.ofString p)=true) (h2:nk (fun y=>sc.names.lookup y) b f x p=true):IKw k f x p false [⟨some (Str.ofString "key"),.Lambda ps b sc lp,kp⟩]
 | down {ps b sc lp kp n cp kp2} (h1:qv k ps sc (Str.ofString x) (Str.ofString p)=true) (h2:nk (fun y=>sc.names.lookup y) b f x p=true):IKw k f x p true [⟨some (Str.ofString "key"),.Lambda ps b sc lp,kp⟩,⟨some (Str.ofString "reverse"),.Constant (.bool true) n cp,kp2⟩]
theorem inv_kw{ks:List Keyword}{f x p:String}{rev:Bool}(h:chkKw k ks f x p rev=true):IKw k f x p rev ks:=by
 cases rev with
 | true=>exact k6 h fun k1 k2=>Keyword.casesOn k1 fun a1 v1 p1=>Keyword.casesOn k2 fun a2 v2 p2 h=>nL h fun h1 h2 h3 h4=>eqb (a:=a1) h1 (eqb (a:=a2) h2 (dy (e:=v2) h3 fun c n cp h3=>eqb (a:=c) h3 (rn (e:=v1) h4 fun ps b sc lp h4=>bG h4 fun h4 h5=>.down h4 h5)))
 | false=>exact dP h fun k1=>Keyword.casesOn k1 fun a1 v1 p1 h=>bG h fun h1 h=>eqb (a:=a1) h1 (rn (e:=v1) h fun ps b sc lp h4=>bG h4 fun h4 h5=>.up h4 h5)
inductive ISrt(k:KD)(a:ME)(f x p:String)(rev:Bool):Expr→Prop
 | mk {gp y ks pos} (hg:bY k (Str.ofString "sorted")=true) (h:aG k y a=true) (hk:IKw k f x p rev ks):ISrt k a f x p rev (.Call (.Name (Str.ofString "sorted") gp) [y] ks pos)
theorem sU{a:ME}{f x p:String}{rev:Bool}(h:aG k e (.srt a f x p rev)=true):ISrt k a f x p rev e:=
 dH h fun g as ks p h=>bG h fun h1 h=>bI (e:=g) h fun y py h=>gT h fun h2=>eqb h2 fun h3 h4=>dP h4 fun x h4=>⟨h3,h4,inv_kw h1⟩
inductive IInn(k:KD)(a:ME):Expr→Prop
 | mk {x n1 n2 n3 n4 n5 p1 p2 p3 p4 p5 dp ap p} (hl:(ap.endLine == p.line)=true) (h:aG k x a=true):IInn k a (.Call (.Attribute (.Dict [some (.Constant (.str (Str.ofString "group")) n1 p1),some (.Constant (.str (Str.ofString "once")) n2 p2)] [.Constant (.int 3) n3 p3,.Constant (.int 1) n4 p4] dp) (Str.ofString "get") ap) [x,.Constant (.int 2) n5 p5] [] p)
theorem s4{a:ME}(h:aG k e (.inn a)=true):IInn k a e:=
 dH h fun g as ks p h=>bG h fun h1 h=>je (l:=ks) h1 (k5 (e:=g) h fun o nm ap h=>nL h fun h2 h3 h4 h5=>eqb (a:=nm) h2 (oF (e:=o) h4 fun kes ves dp h=>bG h fun hk hv=>k6 (l:=kes) hk fun a1 b1 hk=>bG hk fun ka kb=>nu (l:=a1) ka fun a1 ka=>nu (l:=b1) kb fun b1 kb=>dy (e:=a1) ka fun c1 _ _ ka=>dy (e:=b1) kb fun c2 _ _ kb=>eqb (a:=c1) ka (eqb (a:=c2) kb (
  k6 (l:=ves) hv fun a2 b2 hv=>bG hv fun va vb=>dy (e:=a2) va fun c3 _ _ va=>dy (e:=b2) vb fun c4 _ _ vb=>eqb (a:=c3) va (eqb (a:=c4) vb (k6 (l:=as) h5 fun x y h5=>bG h5 fun hy hx=>dy (e:=y) hy fun c5 _ _ hy=>eqb (a:=c5) hy ⟨h3,hx⟩))))))
inductive IIsi(k:KD)(a:ME)(T:String):Expr→Prop
 | mk {gp x tp pos} (hg:bY k (Str.ofString "isinstance")=true) (ht:bY k (Str.ofString T)=true) (h:aG k x a=true):IIsi k a T (.Call (.Name (Str.ofString "isinstance") gp) [x,.Name (Str.ofString T) tp] [] pos)
theorem sY{a:ME}{T:String}(h:aG k e (.isi a T)=true):IIsi k a T e:=
 dH h fun g as ks p h=>bG h fun h1 h=>je h1 (k6 h fun x t h=>bI (e:=g) h fun y py h=>bI (e:=t) h fun z pz h=>nK h fun h2=>eqb h2 fun h3 h4=>eqb h4 fun h5 h6=>⟨h3,h5,h6⟩)
end
end Mine
namespace Mine
open PySem
noncomputable def fin(r:Option (Fl×St)):Option (D×Bool):=match r with
 | some (.ret fr d,_)=>some (d,fr)
 | some (.next,_)=>some (.none,false)
 | _=>none
theorem tB{P:List (String×Fn)}{X:CF}{f:String}{fn:Fn}(n:Nat)(args:List D)(h:P.lookup f=some fn)(hl:args.length=fn.params.length) :
  (al P X (n+1)).call f args=fin (a8 (al P X n) fn.body ((fn.params.zip args).map fun p=>(p.1,(false,p.2)))):=by
 simp only[al,h,hl,if_true,fin]
 all_goals (split <;> rename_i q <;> simp[q])
theorem glob_x(P:List (String×Fn))(X:CF)(n:Nat)(x:String):(al P X n).glob x=X.glob x:=by cases n <;> rfl

noncomputable def jf(r:Option (Fl×St))(k:St→Option (Fl×St)):Option (Fl×St):=match r with
 | some (.next,σ)=>k σ
 | x=>x
theorem l7(σ:St)(k):jf (some (.next,σ)) k=k σ:=rfl
theorem x_nil(cf:CF)(σ:St):a8 cf [] σ=some (.next,σ):=by simp[r6,l4]
theorem ij(cf:CF)(s:MS)(r:List MS)(σ:St):a8 cf (s::r) σ=jf (exS cf s σ) (a8 cf r):=by
 simp only[r6,l4,jf]
 all_goals (split <;> rename_i q <;> simp_all)
theorem x_app(cf:CF)(a b:List MS)(σ:St):a8 cf (a++b) σ=jf (a8 cf a σ) (a8 cf b):=by
 induction a generalizing σ with
 | nil=>simp[x_nil,jf]
 | cons s a ih=>
  rw[List.cons_append,ij,ij]
  generalize exS cf s σ=z
  unfold jf
  cases z with
  | none=>rfl
  | some p=>
   obtain⟨fl,σ'⟩:=p
   cases fl <;> simp[ih,jf]
theorem x_go{cf:CF}{s:MS}{r:List MS}{σ σ':St}(h:exS cf s σ=some (.next,σ')):a8 cf (s::r) σ=a8 cf r σ':=by rw[ij,h];rfl
theorem nP{cf:CF}{s:MS}{r:List MS}{σ σ':St}{fr:Bool}{d:D}(h:exS cf s σ=some (.ret fr d,σ')):a8 cf (s::r) σ=some (.ret fr d,σ'):=by rw[ij,h];rfl
theorem t6{cf:CF}{c:ME}{t f r:List MS}{σ:St}{d:D}{k:Bool}(h:evE cf (vis σ) c=some d)(ht:bE d=some k):a8 cf (.ite c t f::r) σ=if k=true then a8 cf (t++r) σ else a8 cf (f++r) σ:=by
 rw[ij,xs_ite,h];dsimp only;rw[ht,x_app,x_app]
 cases k <;> rfl
noncomputable def cC(cf:CF)(body:List MS)(x:String):D→St→Option (Fl×St):=fun it σ=>a8 cf body (aC σ x (false,it))
noncomputable def loopS(r:Option (Fl×St))(k:St→Option (Fl×St)):Option (Fl×St):=match r with
 | some (.next,σ)=>k σ
 | x=>x
theorem cF(cf:CF)(body:List MS)(x:String)(it:D)(r:List D)(σ:St):cj (cC cf body x) (it::r) σ=loopS (a8 cf body (aC σ x (false,it))) (cj (cC cf body x) r):=by
 show (match a8 cf body (aC σ x (false,it)) with
  | some (.next,σ')=>cj (cC cf body x) r σ'
  | x=>x)=_
 generalize a8 cf body (aC σ x (false,it))=z
 unfold loopS
 split <;> rfl
theorem t7{cf:CF}{x:String}{src:ME}{body:List MS}{r:List MS}{σ:St}{d:D}{its:List D}(h:evE cf (vis σ) src=some d)(hi:d.items=some its):a8 cf (.for_ x src body::r) σ=jf (cj (cC cf body x) its (freeze src.names σ)) (a8 cf r):=by
 rw[ij,xs_for_,h];dsimp only;rw[hi];rfl
theorem x_while(cf:CF)(c:ME)(body:List MS)(r:List MS)(σ:St):a8 cf (.while_ c body::r) σ=jf (dY (fj cf c) (fun σ=>a8 cf body σ) tO σ) (a8 cf r):=by rw[ij,xs_while]
theorem x_forr(cf:CF)(x:String)(src:ME)(body:List MS)(r:List MS)(σ:St){ds:List D}(h:evE cf (vis σ) src=some (.tup ds)):a8 cf (.forr x src body::r) σ=jf (cj (cC cf body x) ds.reverse (freeze src.names σ)) (a8 cf r):=by
 rw[ij,r7,h];rfl
theorem x_rv{cf:CF}{e:ME}{σ:St}{d:D}{fr:Bool}(hv:e.varOf=none)(h:evF cf (vis σ) e=some (d,fr)):exS cf (.ret e) σ=some (.ret fr d,σ):=by
 rw[rF,hv];dsimp only;rw[h]
theorem x_rx{cf:CF}{z:String}{σ:St}{d:D}{fr:Bool}(h:σ.lookup z=some (fr,d)):exS cf (.ret (.var z)) σ=some (.ret fr d,σ):=by
 rw[rF];show (match σ.lookup z with | some (fr,d)=>some (Fl.ret fr d,σ) | none=>none)=_;rw[h]
end Mine
namespace Mine
open PySem
section
variable (cf:CF) (ρ:List (String×D))
theorem uS(x:String):evE cf ρ (.var x)=ρ.lookup x:=rfl
theorem e_glob(x:String):evE cf ρ (.glob x)=cf.glob x:=rfl
theorem ag(i:Int):evE cf ρ (.int i)=some (.int i):=rfl
theorem aT(i:String):evE cf ρ (.str i)=some (.str (Str.ofString i)):=rfl
theorem iL(i:Bool):evE cf ρ (.bool i)=some (.bool i):=rfl
theorem eZ:evE cf ρ .none=some .none:=rfl
noncomputable def o2(f:D→D→Option D)(a b:Option D):Option D:=match a with
 | some x=>(match b with | some y=>f x y | none=>none)
 | none=>none
theorem e_bin(op:Operator)(a b:ME):evE cf ρ (.bin op a b)=o2 (dQ op) (evE cf ρ a) (evE cf ρ b):=rfl
theorem e_cmp(op:CmpOp)(a b:ME):evE cf ρ (.cmp op a b)=o2 (eG op) (evE cf ρ a) (evE cf ρ b):=rfl
theorem e_sub(a b:ME):evE cf ρ (.sub a b)=o2 a9 (evE cf ρ a) (evE cf ρ b):=rfl
theorem e_bop(op:BoolOp)(es:List ME):evE cf ρ (.bop op es)=fh cf ρ op es:=rfl
noncomputable def o1(f:D→Option D)(a:Option D):Option D:=match a with
 | some x=>f x
 | none=>none
theorem e_not(a:ME):evE cf ρ (.not a)=o1 (fun x=>(bE x).map fun t=>.bool (!t)) (evE cf ρ a):=rfl
noncomputable def oL(f:List D→Option D)(a:Option (List D)):Option D:=match a with
 | some x=>f x
 | none=>none
theorem e_tup(es:List ME):evE cf ρ (.tup es)=oL (fun ds=>if ds.length≤big then some (.tup ds) else none) (bV cf ρ es):=rfl
theorem e_lst(es:List ME):evE cf ρ (.lst es)=oL (fun ds=>if ds.length≤big then some (.list ds) else none) (bV cf ρ es):=rfl
theorem e_blt(f:String)(es:List ME):evE cf ρ (.blt f es)=oL (gt f) (bV cf ρ es):=rfl
theorem e_call(f:String)(es:List ME):evE cf ρ (.call f es)=oL (fun ds=>(cf.call f ds).map (·.1)) (bV cf ρ es):=rfl
theorem e_inn(a:ME):evE cf ρ (.inn a)=o1 innD (evE cf ρ a):=rfl
theorem e_sset(a:ME):evE cf ρ (.sset a)=o1 md (evE cf ρ a):=rfl
theorem e_lcp(a:ME):evE cf ρ (.lcp a)=o1 (fun x=>(qB x).map .list) (evE cf ρ a):=rfl
theorem e_isi(a:ME)(T:String):evE cf ρ (.isi a T)=o1 (fun x=>(mM x T).map .bool) (evE cf ρ a):=rfl
theorem e_sl(a l h:ME):evE cf ρ (.sl a l h)=o1 (fun x=>o2 (slD x) (evE cf ρ l) (evE cf ρ h)) (evE cf ρ a):=rfl
noncomputable def ni(elt:ME)(x:String)(cs:List ME):D→Option (Option D):=fun it=>match lG cf ((x,it)::ρ) cs with
 | some true=>(match evE cf ((x,it)::ρ) elt with | some y=>some (some y) | none=>none)
 | some false=>some none
 | none=>none
theorem e_comp(elt:ME)(x:String)(src:ME)(cs:List ME):evE cf ρ (.comp elt x src cs)=o1 (fun d=>(match d.items with
   | some its=>if its.length≤big then (bO (ni cf ρ elt x cs) its).map .list else none
   | none=>none)) (evE cf ρ src):=rfl
theorem aj:bV cf ρ []=some []:=rfl
noncomputable def oC(a:Option D)(b:Option (List D)):Option (List D):=match a with
 | some d=>(match b with | some ds=>some (d::ds) | none=>none)
 | none=>none
theorem es_cons(e:ME)(r:List ME):bV cf ρ (e::r)=oC (evE cf ρ e) (bV cf ρ r):=rfl
noncomputable def oB(s:Bool)(r:Option D)(a:Option D):Option D:=match a with
 | some d=>(match bE d with
  | some t=>if t=s then some d else r
  | none=>none)
 | none=>none
theorem sA(s:Bool)(r:Option D)(t:Bool):oB s r (some (.bool t))=if t=s then some (.bool s) else r:=by
 unfold oB bE
 by_cases h:t=s
 ·subst h;rfl
 ·simp[h]
theorem b_and(e e2:ME)(r:List ME):fh cf ρ .And (e::e2::r)=oB false (fh cf ρ .And (e2::r)) (evE cf ρ e):=rfl
theorem b_or(e e2:ME)(r:List ME):fh cf ρ .Or (e::e2::r)=oB true (fh cf ρ .Or (e2::r)) (evE cf ρ e):=rfl
theorem c_nil:lG cf ρ []=some true:=rfl
end
theorem rh(f:D→Option (Option D))(Q:D→D→Prop):∀ (its:List D),(∀ it∈its,∃ d,Q it d∧f it=some (some d))→∃ ds,bO f its=some ds∧ds.length=its.length∧∀ d∈ds,∃ it∈its,Q it d
 | [],_=>⟨[],rfl,rfl,fun _ h=>nomatch h⟩
 | it::r,h=>by
  obtain⟨d,q,e⟩:=h it (by simp)
  obtain⟨ds,e2,hl,hq⟩:=rh f Q r fun i hi=>h i (by simp[hi])
  refine⟨d::ds,by simp[bO,e,e2],by simp[hl],?_⟩
  intro d' hd
  rcases List.mem_cons.mp hd with rfl | hd
  ·exact⟨it,by simp,q⟩
  ·obtain⟨i,hi,q'⟩:=hq d' hd
   exact⟨i,by simp[hi],q'⟩
theorem kX{cf:CF}{ρ:List (String×D)}{elt:ME}{x:String}{it d:D}(h:evE cf ((x,it)::ρ) elt=some d):ni cf ρ elt x [] it=some (some d):=by
 unfold ni;simp[c_nil,h]
theorem dG(n:Nat):D.items (.rng 0 n)=some ((List.range n).map fun (i:Nat)=>D.int (i:Int)):=by
 simp[D.items]
end Mine
namespace Mine
open PySem

noncomputable def Ex(h:Heap)(H:Addr→Prop):Prop:=∀ a,H a→∃ b o,@LE.le Nat _ a b∧gat h b=some o
theorem Ex.fresh{h:Heap}{H:Addr→Prop}(x:Ex h H):¬ H h.objs.size:=fun e=>by
 obtain⟨b,o,hb,ho⟩:=x _ e
 exact Nat.lt_irrefl _ (Nat.lt_of_le_of_lt hb (Heap.gt_lt ho))
theorem Ex.keeps{h h':Heap}{H:Addr→Prop}(x:Ex h H)(hk:KH h h'):Ex h' H:=fun a e=>by
 obtain⟨b,o,hb,ho⟩:=x _ e
 exact⟨b,o,hb,hk _ _ ho⟩

inductive bz(s:Shared):Shared→Prop
 | mk (h tk dr) (k:KH s.heap h):bz s { s with heap:=h,toks:=tk,drawn:=dr }
theorem Kp.refl(s:Shared):bz s s:=.mk s.heap s.toks s.drawn fun _ _ e=>e
theorem Kp.tok(s:Shared)(t:Nat):bz s { s with toks:=t }:=.mk s.heap t s.drawn fun _ _ e=>e
theorem Kp.push(s:Shared)(o:Obj):bz s { s with heap:=s.heap.push o }:=.mk _ s.toks s.drawn fun _ _ e=>Heap.gt_push_of_some _ e
theorem Kp.trans{s s' s'':Shared}(a:bz s s')(b:bz s' s''):bz s s'':=bz.rec (motive:=fun s' _=>∀ s'',bz s' s''→bz s s'') (fun _ _ _ k _ b=>b.rec fun h t d k'=>.mk h t d fun x o e=>k' x o (k x o e)) a s'' b
theorem Kp.heap{s s':Shared}(a:bz s s'):KH s.heap s'.heap:=a.rec fun _ _ _ k=>k

inductive bh(w:World)(s:Shared)(H:Addr→Prop)(d:D)(v:Value)(s':Shared):Prop
 | mk (k:bz s s') (r:Rep w.params s'.heap H v d)
theorem bh.k{w:World}{s:Shared}{H:Addr→Prop}{d:D}{v:Value}{s':Shared}(q:bh w s H d v s'):bz s s':=q.rec fun k _=>k
theorem bh.r{w:World}{s:Shared}{H:Addr→Prop}{d:D}{v:Value}{s':Shared}(q:bh w s H d v s'):Rep w.params s'.heap H v d:=q.rec fun _ r=>r
theorem bh.tr{w:World}{s s₁ s₂:Shared}{H:Addr→Prop}{d:D}{v:Value}(k:bz s s₁)(q:bh w s₁ H d v s₂):bh w s H d v s₂:=⟨Kp.trans k q.k,q.r⟩
inductive dR(s:Shared)(t b:Bool)(s':Shared):Prop
 | mk (k:bz s s') (e:b=t)
theorem dR.k{s:Shared}{t b:Bool}{s':Shared}(q:dR s t b s'):bz s s':=q.rec fun k _=>k
theorem dR.e{s:Shared}{t b:Bool}{s':Shared}(q:dR s t b s'):b=t:=q.rec fun _ e=>e
theorem dR.tr{s s₁:Shared}{t b:Bool}{s':Shared}(k:bz s s₁)(q:dR s₁ t b s'):dR s t b s':=⟨Kp.trans k q.k,q.e⟩

inductive gU(P:Params)(h:Heap)(H:Addr→Prop)(a:Addr)(ds:List D):Prop
 | mk {vs n} (ho:h.get? a=some (fC vs n)) (hl:ds.length≤big) (hr:aq P h (fun b=>H b∨b=a) vs.toList ds)
inductive lJ(P:Params)(h:Heap)(H:Addr→Prop)(a:Addr)(ks vs:List D):Prop
 | mk {es n} (ho:h.get? a=some (lH es n)) (hl:ks.length≤big) (h1:aq P h (fun b=>H b∨b=a) (es.toList.map (·.key)) ks) (h2:aq P h (fun b=>H b∨b=a) (es.toList.map (·.val)) vs) (hh:es.toList.map (·.hash)=ks.map (fW P)) (hk:ks.all D.isKey=true) (hd:ks.Nodup) (hs:(a == sysModules)=false)
noncomputable def cN(P:Params)(h:Heap)(H:Addr→Prop)(a:Addr)(d:D):Prop:=match d with
 | .list ds=>gU P h H a ds
 | .dict ks vs=>lJ P h H a ks vs
 | _=>False
section
variable {P:Params} {h h':Heap} {H H':Addr→Prop} {a:Addr} {d:D} {ds ks vs:List D}
@[elab_as_elim] theorem cN.cases{C:D→Prop}(o:cN P h H a d)(hl:∀ ds,gU P h H a ds→C (.list ds))(hm:∀ ks vs,lJ P h H a ks vs→C (.dict ks vs)):C d:=
 D.casesOn (motive_1:=fun d=>cN P h H a d→C d) d (fun o=>o.elim) (fun _ o=>o.elim) (fun _ o=>o.elim) (fun _ o=>o.elim) (fun _ o=>o.elim) hl hm (fun _ _ o=>o.elim)
  (fun _ o=>o.elim)
  o
theorem gU.rep(o:gU P h H a ds)(hn:¬ H a):Rep P h H (.ref a) (.list ds):=o.rec fun ho hl hr=>.mk ho hn hl (hr.mono (fun _ _ _ e=>e) fun _ _ _ q=>.inl q)
theorem lJ.rep(o:lJ P h H a ks vs)(hn:¬ H a):Rep P h H (.ref a) (.dict ks vs):=o.rec fun ho hl h1 h2 hh hk hd hs=>.mk ho hn hl (h1.mono (fun _ _ _ e=>e) fun _ _ _ q=>.inl q) (h2.mono (fun _ _ _ e=>e) fun _ _ _ q=>.inl q) hh hk hd hs
theorem cN.rep(o:cN P h H a d)(hn:¬ H a):Rep P h H (.ref a) d:=o.cases (fun _ o=>o.rep hn) fun _ _ o=>o.rep hn
theorem cN.off{h':Heap}{H':Addr→Prop}(o:cN P h H a d):Rep P h' H' (.ref a) d→¬ H' a:=o.cases (C:=fun d=>Rep P h' H' (.ref a) d→¬ H' a) (fun _ _ r=>kt.off (mkO:=fC) r rfl) fun _ _ _ r=>nM.rec (motive:=fun v _=>v=.ref a→¬ H' a) (fun _ hn _ _ _ _ _ _ _ e=>sq hn e) r rfl
theorem cN.obj(o:cN P h H a d):∃ o,h.get? a=some o∧bn o=false:=o.cases (C:=fun _=>∃ o,h.get? a=some o∧bn o=false) (fun _ o=>o.rec fun ho _ _=>⟨_,ho,rfl⟩) fun _ _ o=>o.rec fun ho _ _ _ _ _ _ _=>⟨_,ho,rfl⟩
theorem cN.ex(o:cN P h H a d):∃ o,gat h a=some o:=o.obj.elim fun o q=>⟨o,Heap.gt_of q.1 q.2⟩
theorem cN.notTab(o:cN P h H a d):∀ o,h.get? a=some o→bn o=false:=o.obj.elim fun _ q=>bH q.1 q.2
theorem cN.scalar(o:cN P h H a d):d.scalar=false:=o.cases (fun _ _=>rfl) fun _ _ _=>rfl
noncomputable abbrev tL(h:Heap)(H H':Addr→Prop)(a:Addr):Prop:=∀ b o,gat h b=some o→H' b→H b∨b=a
theorem oZ(hk:lK h H h')(hH:tL h H H' a){l:List Value}(r:aq P h (fun b=>H b∨b=a) l ds):aq P h' (fun b=>H' b∨b=a) l ds:=r.mono (fun b o hn e=>hk b o (fun q=>hn (.inl q)) e) fun b o e q=>q.elim (hH b o e) .inr
theorem gU.mono(o:gU P h H a ds)(ha:∀ o,gat h a=some o→gat h' a=some o)(hk:lK h H h')(hH:tL h H H' a):gU P h' H' a ds:=o.rec fun ho hl hr=>⟨Heap.of_gt (ha _ (Heap.gt_of ho)),hl,oZ hk hH hr⟩
theorem lJ.mono(o:lJ P h H a ks vs)(ha:∀ o,gat h a=some o→gat h' a=some o)(hk:lK h H h')(hH:tL h H H' a):lJ P h' H' a ks vs:=o.rec fun ho hl h1 h2 hh hK hd hs=>⟨Heap.of_gt (ha _ (Heap.gt_of ho)),hl,oZ hk hH h1,oZ hk hH h2,hh,hK,hd,hs⟩
theorem cN.mono(o:cN P h H a d)(ha:∀ o,gat h a=some o→gat h' a=some o)(hk:lK h H h')(hH:tL h H H' a):cN P h' H' a d:=o.cases (fun _ o=>o.mono ha hk hH) fun _ _ o=>o.mono ha hk hH
theorem cN.sub(o:cN P h H a d)(hH:∀ b,H' b→H b):cN P h H' a d:=o.mono (fun _ e=>e) (fun _ _ _ e=>e) fun b _ _ q=>.inl (hH b q)
end
theorem bR{α:Type}{o:Option α}{x:α}{C:Prop}(h:o=some x)(h':o=none):C:=by cases h.symm.trans h'
theorem sC{h h':Heap}{a:Addr}(hx:∀ o,gat h a=some o→∃ o',gat h' a=some o')(e:gat h' a=none):gat h a=none:=by
 cases q:gat h a with
 | none=>rfl
 | some o=>exact (hx o q).elim fun o' e'=>bR e' e
theorem jX{h h':Heap}{a:Addr}(hk:KH h h')(e:gat h' a=none):gat h a=none:=sC (fun o q=>⟨o,hk a o q⟩) e
inductive Fr(P:Params)(h0 h:Heap)(H:Addr→Prop)(d:D):Value→Prop
 | mk {a} (e:gat h0 a=none) (o:cN P h H a d):Fr P h0 h H d (.ref a)
theorem Fr.old{P:Params}{h0 h0' h:Heap}{H:Addr→Prop}{d:D}{v:Value}(f:Fr P h0 h H d v)(hk:KH h0' h0):Fr P h0' h H d v:=f.rec fun e o=>⟨jX hk e,o⟩
theorem Fr.sub{P:Params}{h0 h:Heap}{H H':Addr→Prop}{d:D}{v:Value}(f:Fr P h0 h H d v)(hH:∀ b,H' b→H b):Fr P h0 h H' d v:=f.rec fun e o=>⟨e,o.sub hH⟩
inductive bX(w:World)(s:Shared)(H:Addr→Prop)(d:D)(fr:Bool)(v:Value)(s':Shared):Prop
 | mk (k:bz s s') (r:Rep w.params s'.heap H v d) (f:fr=true→Fr w.params s.heap s'.heap H d v)
theorem bX.post{w:World}{s s':Shared}{H:Addr→Prop}{d:D}{fr:Bool}{v:Value}(q:bX w s H d fr v s'):bh w s H d v s':=q.rec fun k r _=>⟨k,r⟩
theorem bX.tr{w:World}{s s₁ s₂:Shared}{H:Addr→Prop}{d:D}{fr:Bool}{v:Value}(k:bz s s₁)(q:bX w s₁ H d fr v s₂):bX w s H d fr v s₂:=q.rec fun k' r f=>⟨Kp.trans k k',r,fun e=>(f e).old (Kp.heap k)⟩
theorem bh.pf{w:World}{s s₂:Shared}{H:Addr→Prop}{d:D}{fr:Bool}{v:Value}(q:bh w s H d v s₂)(h:fr=false):bX w s H d fr v s₂:=⟨q.k,q.r,fun e=>nomatch h.symm.trans e⟩
theorem cA(h:Heap):gat h h.objs.size=none:=Heap.gt_none_of_le (Nat.le_refl _)
theorem not_size{h:Heap}{a:Addr}{o:Obj}{C:Prop}(e:gat h a=some o)(q:a=h.objs.size):C:=bR e (q▸cA h)
theorem iX{w:World}{s:Shared}{H:Addr→Prop}{vs:Array Value}{ds:List D}{h':Heap}{n tk:Nat}{dr:Drawn}(hH:Ex s.heap H)(hl:ds.length≤big)(hr:aq w.params s.heap H vs.toList ds)(hk:KH s.heap h')
  (ho:h'.get? s.heap.objs.size=some (fC vs n)):bX w s H (.list ds) true (.ref s.heap.objs.size) { s with heap:=h',toks:=tk,drawn:=dr }:=
 have own:gU w.params h' H s.heap.objs.size ds:=⟨ho,hl,hr.mono (fun a o _ e=>hk a o e) fun a o e q=>q.elim id (not_size e)⟩
 ⟨.mk h' tk dr hk,own.rep hH.fresh,fun _=>⟨cA _,own⟩⟩
theorem am{C:Prop}{α:Type}{x:α}(h:Option.none=some x):C:=by cases h
theorem aZ{α:Type}{c:Prop}[Decidable c]{x d:α}{C:Prop}(h:(if c then some x else none)=some d)(k:c→x=d→C):C:=by
 by_cases hc:c
 ·rw[if_pos hc] at h;exact k hc (Option.some.inj h)
 ·rw[if_neg hc] at h;exact am h
theorem cz{α:Type}{c:Prop}[Decidable c]{x:Option α}{d:α}{C:Prop}(h:(if c then x else none)=some d)(k:c→x=some d→C):C:=by
 by_cases hc:c
 ·rw[if_pos hc] at h;exact k hc h
 ·rw[if_neg hc] at h;exact am h
theorem cy{α:Type}{c:Prop}[Decidable c]{x y:Option α}{d:α}{C:Prop}(h:(if c then x else y)=some d)(k:c→x=some d→C)(k':¬ c→y=some d→C):C:=by
 by_cases hc:c
 ·rw[if_pos hc] at h;exact k hc h
 ·rw[if_neg hc] at h;exact k' hc h
theorem ir{α β:Type}{o:Option α}{f:α→Option β}{b:β}{C:Prop}(h:o.bind f=some b)(k:∀ a,o=some a→f a=some b→C):C:=by
 cases o with
 | none=>exact am h
 | some a=>exact k a rfl h
theorem bB{α β:Type}{o:Option α}{f:α→β}{b:β}{C:Prop}(h:o.map f=some b)(k:∀ a,o=some a→f a=b→C):C:=by
 cases o with
 | none=>exact am h
 | some a=>exact k a rfl (Option.some.inj h)
section
variable {α:Type} {r:α} {d:D} {C:D→Prop}
@[elab_as_elim] theorem dh{f:Int→Option α}(h:onI d f=some r)(k:∀ i,f i=some r→C (.int i)):C d:=
 D.casesOn (motive_1:=fun d=>onI d f=some r→C d) d (fun h=>am h) (fun _ h=>am h) k (fun _ h=>am h) (fun _ h=>am h) (fun _ h=>am h) (fun _ _ h=>am h) (fun _ _ h=>am h)
  (fun _ h=>am h)
  h
@[elab_as_elim] theorem lQ{f:Str→Option α}(h:onS d f=some r)(k:∀ i,f i=some r→C (.str i)):C d:=
 D.casesOn (motive_1:=fun d=>onS d f=some r→C d) d (fun h=>am h) (fun _ h=>am h) (fun _ h=>am h) k (fun _ h=>am h) (fun _ h=>am h) (fun _ _ h=>am h) (fun _ _ h=>am h)
  (fun _ h=>am h)
  h
@[elab_as_elim] theorem onB_inv{f:Bool→Option α}(h:onB d f=some r)(k:∀ i,f i=some r→C (.bool i)):C d:=
 D.casesOn (motive_1:=fun d=>onB d f=some r→C d) d (fun h=>am h) k (fun _ h=>am h) (fun _ h=>am h) (fun _ h=>am h) (fun _ h=>am h) (fun _ _ h=>am h) (fun _ _ h=>am h)
  (fun _ h=>am h)
  h
@[elab_as_elim] theorem o0{f:List D→Option α}(h:onT d f=some r)(k:∀ i,f i=some r→C (.tup i)):C d:=
 D.casesOn (motive_1:=fun d=>onT d f=some r→C d) d (fun h=>am h) (fun _ h=>am h) (fun _ h=>am h) (fun _ h=>am h) k (fun _ h=>am h) (fun _ _ h=>am h) (fun _ _ h=>am h)
  (fun _ h=>am h)
  h
@[elab_as_elim] theorem sv{f:List D→Option α}(h:onL d f=some r)(k:∀ i,f i=some r→C (.list i)):C d:=
 D.casesOn (motive_1:=fun d=>onL d f=some r→C d) d (fun h=>am h) (fun _ h=>am h) (fun _ h=>am h) (fun _ h=>am h) (fun _ h=>am h) k (fun _ _ h=>am h) (fun _ _ h=>am h)
  (fun _ h=>am h)
  h
@[elab_as_elim] theorem sw{f:Int→Option α}{g:Str→Option α}(h:onC d f g=some r)(k:∀ i,f i=some r→C (.int i))(k':∀ x,g x=some r→C (.str x)):C d:=
 D.casesOn (motive_1:=fun d=>onC d f g=some r→C d) d (fun h=>am h) (fun _ h=>am h) k k' (fun _ h=>am h) (fun _ h=>am h) (fun _ _ h=>am h) (fun _ _ h=>am h)
  (fun _ h=>am h)
  h
end
section
variable {P:Params} {h:Heap} {H:Addr→Prop} {v:Value} {C:Value→Prop}
@[elab_as_elim] theorem Rep.intE{i:Int}(r:Rep P h H v (.int i))(k:∀ t,C (.int i t)):C v:=u9.rec (motive:=fun v _=>C v) k r
@[elab_as_elim] theorem Rep.strE{x:Str}(r:Rep P h H v (.str x))(k:∀ t,C (.str x t)):C v:=u8.rec (motive:=fun v _=>C v) k r
@[elab_as_elim] theorem Rep.boolE{b:Bool}(r:Rep P h H v (.bool b))(k:C (.bool b)):C v:=(show v=.bool b from r)▸k
@[elab_as_elim] theorem Rep.noneE(r:Rep P h H v .none)(k:C .none):C v:=(show v=.none from r)▸k
@[elab_as_elim] theorem Rep.tupE{ds:List D}(r:Rep P h H v (.tup ds))(k:∀ a vs n,h.get? a=some (da vs n)→¬ H a→ds.length≤big→aq P h H vs.toList ds→C (.ref a)):C v:=kt.rec (motive:=fun v _=>C v) (fun ho hn hl hr=>k _ _ _ ho hn hl hr) r
@[elab_as_elim] theorem Rep.listE{ds:List D}(r:Rep P h H v (.list ds))(k:∀ a vs n,h.get? a=some (fC vs n)→¬ H a→ds.length≤big→aq P h H vs.toList ds→C (.ref a)):C v:=kt.rec (motive:=fun v _=>C v) (fun ho hn hl hr=>k _ _ _ ho hn hl hr) r
end

section
variable {prog:Program} {w:World} {A:Around} {E:Value→Shared→Prop} {s:Shared} {H:Addr→Prop}

theorem tF{a:Int}{k:Nat}(h:a.natAbs<2 ^ k):Builtin.Int.intBits a≤k:=by
 unfold Builtin.Int.intBits
 split
 ·exact Nat.zero_le _
 ·rename_i hh
  exact (Nat.log2_lt fun e=>hh (by simp;omega)).mpr h
theorem pP{a n:Int}{m:Nat}(e:(m:Int)=n)(h:-n<a∧a<n):a.natAbs<m:=by subst e;omega
theorem tG{a:Int}(h:-lim<a∧a<lim):Builtin.Int.intBits a≤64:=tF (pP (Int.natCast_pow 2 64) h)
theorem bits_le1000{a:Int}(h:-eC<a∧a<eC):Builtin.Int.intBits a≤1000:=tF (pP (Int.natCast_pow 2 1000) h)

theorem aq.appendA{P:Params}{h:Heap}{vs ws:Array Value}{ds es:List D}(r:aq P h H vs.toList ds)(k:aq P h H ws.toList es):aq P h H (vs++ws).toList (ds++es):=by rw[Array.toList_append];exact r.append k
theorem ju{vs:Array Value}{ds:List D}(hH:Ex s.heap H)(hl:ds.length≤big)(hr:aq w.params s.heap H vs.toList ds) :
  Rep w.params (s.heap.push (da vs 0)) H (.ref s.heap.objs.size) (.tup ds):=
 .mk (Heap.get?_push_size _ rfl) hH.fresh hl (hr.keeps fun _ _ e=>Heap.gt_push_of_some _ e)
theorem fT{i:Int}{t:Tok}{k:Nat}:bh w s H (.int i) (.int i t) { s with toks:=k }:=⟨Kp.tok _ _,.mk t⟩
theorem n9{i:Str}{t:Tok}{k:Nat}:bh w s H (.str i) (.str i t) { s with toks:=k }:=⟨Kp.tok _ _,.mk t⟩
theorem cg{b:Bool}{k:Nat}:bh w s H (.bool b) (.bool b) { s with toks:=k }:=⟨Kp.tok _ _,rfl⟩

theorem binI_snd{op:Operator}{i j:Int}{t u:Tok}{d:D}(he:binI op i j=some d):wpAny (model prog w) A (binaryOp op (.int i t) (.int j u)) (bh w s H d) E s:=by
 cases op with
 | Add=>exact Option.some.inj he▸PyProof.Rows.add_int fT
 | Sub=>exact Option.some.inj he▸PyProof.Rows.sub_int fT
 | Mult=>exact aZ he fun hc e=>e▸PyProof.Rows.mul_int fT (hc.elim (fun h=>.of_left (tG h)) fun h=>.of_right (tG h))
 | Mod=>exact aZ he fun hc e=>e▸PyProof.Rows.mod_int (Int.ne_of_gt hc) (Int.fmod_eq_emod_of_nonneg i (Int.le_of_lt hc)▸fT)
 | Pow=>exact aZ he fun hc e=>e▸PyProof.Rows.pow_int hc.2.2.1 (Int.le_trans (Int.mul_le_mul (Int.ofNat_le.mpr (bits_le1000 ⟨hc.1,hc.2.1⟩)) hc.2.2.2 hc.2.2.1 (by decide)) (by decide)) fT
 | FloorDiv=>exact aZ he fun hc e=>e▸PyProof.Rows.floordiv_int (Int.ne_of_gt hc.1) (Int.fdiv_eq_ediv_of_nonneg i (Int.le_of_lt hc.1)▸fT) (.inl (PyProof.noPylong_of_log2 (Nat.lt_trans ((Nat.log2_lt (by omega)).mpr (pP (Int.natCast_pow 2 64) ⟨Int.lt_trans (by decide) hc.1,hc.2⟩)) (by decide))))
 | _=>exact am he
theorem binS_snd{op:Operator}{x:Str}{t:Tok}{y:Value}{b d:D}(hy:Rep w.params s.heap H y b)(he:binS op x b=some d):wpAny (model prog w) A (binaryOp op (.str x t) y) (bh w s H d) E s:=by
 cases op with
 | Add=>exact lQ (C:=fun b=>Rep w.params s.heap H y b→_) he (fun z he hy=>aZ he fun hc e=>e▸hy.strE fun u=>PyProof.Rows.add_str (fun t' tk=>n9) hc) hy
 | Mult=>
  refine dh (C:=fun b=>Rep w.params s.heap H y b→_) he (fun n he hy=>aZ he fun hc e=>e▸hy.intE fun u=>SB.mul ⟨by simp;omega,fun g1 _=>?_,fun g1 _=>?_⟩ fun t' k=>n9) hy
  ·have:(1000:Int)≤(2 ^ 63 - 1) / n:=(Int.le_ediv_iff_mul_le (by omega)).mpr (by omega)
   omega
  ·exact decide_eq_false (Nat.not_lt.mpr (Nat.le_trans (Nat.mul_le_mul hc.2.2 (Int.toNat_le.mpr hc.2.1)) (by decide)))
 | _=>exact am he
theorem binL_snd{op:Operator}{x y:Value}{as:List D}{b d:D}(hx:Rep w.params s.heap H x (.list as))(hy:Rep w.params s.heap H y b)(hH:Ex s.heap H)(he:binL op as b=some d) :
  wpAny (model prog w) A (binaryOp op x y) (bX w s H d d.isList) E s:=by
 cases op with
 | Add=>exact sv (C:=fun b=>Rep w.params s.heap H y b→_) he (fun bs he hy=>aZ he fun hc e=>e▸hx.listE fun _ _ _ o1 _ _ r1=>hy.listE fun _ _ _ o2 _ _ r2=>
   P.add_list o1 o2 (iX hH (List.length_append▸hc) (r1.appendA r2) (fun _ _ e=>Heap.gt_push_of_some _ e) (Heap.get?_push_size _ rfl)) (r1.size▸r2.size▸hc)) hy
 | _=>exact am he
theorem ll{P:Params}{h:Heap}{vs:Array Value}{ds:List D}(r:aq P h H vs.toList ds)(hv:vs.isEmpty=true):ds=[]:=List.eq_nil_of_length_eq_zero (r.size▸Array.size_eq_zero_iff.mpr (Array.isEmpty_iff.mp hv))
theorem binT_snd{op:Operator}{x y:Value}{as:List D}{b d:D}(hx:Rep w.params s.heap H x (.tup as))(hy:Rep w.params s.heap H y b)(hH:Ex s.heap H)(he:binT op as b=some d) :
  wpAny (model prog w) A (binaryOp op x y) (bh w s H d) E s:=by
 cases op with
 | Add=>
  refine o0 (C:=fun b=>Rep w.params s.heap H y b→_) he (fun bs he hy=>aZ he fun hc e=>e▸hx.tupE fun a1 v1 n1 o1 q1 l1 r1=>hy.tupE fun a2 v2 n2 o2 q2 l2 r2=>?_) hy
  by_cases hv:v1.isEmpty=true
  ·exact concat_meets ⟨_,o1,rfl⟩ ⟨_,o2,rfl⟩ noFill_tuple_add seq_tuple_add PySem.F.slot_tuple_add PySem.F.entry_tuple_add (PySem.F.args_tuple_add_2 _ _) (AutoSeq1.tuple___add___tuple_tuple_0 _ _ _ _ _ _ hv) ⟨o1,o2,Kp.refl _,(ll r1 hv).symm▸.mk o2 q2 l2 r2⟩
  ·by_cases hv2:v2.isEmpty=true
   ·exact concat_meets ⟨_,o1,rfl⟩ ⟨_,o2,rfl⟩ noFill_tuple_add seq_tuple_add PySem.F.slot_tuple_add PySem.F.entry_tuple_add (PySem.F.args_tuple_add_2 _ _) (AutoSeq1.tuple___add___tuple_tuple_1 _ _ _ _ _ _ hv hv2) ⟨o1,o2,Kp.refl _,(ll r2 hv2).symm▸(List.append_nil as).symm▸.mk o1 q1 l1 r1⟩
   ·exact P.add_tuple o1 o2 hv hv2 ⟨Kp.push _ _,ju hH (List.length_append▸hc) (r1.appendA r2)⟩ (r1.size▸r2.size▸hc)
 | _=>exact am he
theorem binI_plain{op:Operator}{i j:Int}{d:D}(he:binI op i j=some d):d.isList=false:=by
 cases op with
 | Add | Sub=>exact Option.some.inj he▸rfl
 | Mult | Mod | Pow | FloorDiv=>exact aZ he fun _ e=>e▸rfl
 | _=>exact am he
theorem binS_plain{op:Operator}{x:Str}{b d:D}(he:binS op x b=some d):d.isList=false:=by
 cases op with
 | Add=>exact lQ (C:=fun _=>d.isList=false) he fun _ he=>aZ he fun _ e=>e▸rfl
 | Mult=>exact dh (C:=fun _=>d.isList=false) he fun _ he=>aZ he fun _ e=>e▸rfl
 | _=>exact am he
theorem binT_plain{op:Operator}{x:List D}{b d:D}(he:binT op x b=some d):d.isList=false:=by
 cases op with
 | Add=>exact o0 (C:=fun _=>d.isList=false) he fun _ he=>aZ he fun _ e=>e▸rfl
 | _=>exact am he
theorem bj{α:Type}{M:Model}{c:Sem α}{Q Q':α→Shared→Prop}(h:wpAny M A c Q E s)(k:∀ v s',Q v s'→Q' v s'):wpAny M A c Q' E s:=wpAny_mono h k fun _ _ e=>e
theorem bin_snd{op:Operator}{x y:Value}{a b d:D}(hx:Rep w.params s.heap H x a)(hy:Rep w.params s.heap H y b)(hH:Ex s.heap H)(he:dQ op a b=some d) :
  wpAny (model prog w) A (binaryOp op x y) (bX w s H d d.isList) E s:=by
 cases a with
 | int i=>exact dh (C:=fun b=>Rep w.params s.heap H y b→_) he (fun j he hy=>bj (hx.intE fun _=>hy.intE fun _=>binI_snd he) fun _ _ q=>q.pf (binI_plain he)) hy
 | str x=>exact bj (hx.strE fun _=>binS_snd hy he) fun _ _ q=>q.pf (binS_plain he)
 | tup as=>exact bj (binT_snd hx hy hH he) fun _ _ q=>q.pf (binT_plain he)
 | list as=>exact binL_snd hx hy hH he
 | _=>exact am he
end
end Mine
namespace Mine
open PySem PySem.SeqAt

section
variable {prog:Program} {w:World} {A:Around} {E:Value→Shared→Prop} {s:Shared} {H H':Addr→Prop}
theorem eqS_inv{C:D→D→Bool→Prop}{a b:D}{k:Bool}(he:eqS a b=some k)(hb:∀ x y,C (.bool x) (.bool y) (x == y))(hii:∀ x y,C (.int x) (.int y) (x == y))(his:∀ x y,C (.int x) (.str y) false)(hsi:∀ x y,C (.str x) (.int y) false)(hss:∀ x y,C (.str x) (.str y) (x == y)):C a b k:=by
 cases a with
 | bool x=>exact onB_inv (C:=fun b=>C (.bool x) b k) he fun y e=>Option.some.inj e▸hb x y
 | int x=>exact sw (C:=fun b=>C (.int x) b k) he (fun y e=>Option.some.inj e▸hii x y) fun y e=>Option.some.inj e▸his x y
 | str x=>exact sw (C:=fun b=>C (.str x) b k) he (fun y e=>Option.some.inj e▸hsi x y) fun y e=>Option.some.inj e▸hss x y
 | _=>exact am he
structure Eq3(x y:Value)(k:Bool):Prop where
 e:∀ A s,EqAt A s x y k
 r:∀ A s,RcAt A s x y k
 n:∀ A s,RcNeAt A s x y (!k)
theorem pG{P:Params}{h:Heap}{x y:Value}{a b:D}{k:Bool}(hx:Rep P h H x a)(hy:Rep P h H' y b)(he:eqS a b=some k):Eq3 x y k:=
 eqS_inv (C:=fun a b k=>Rep P h H x a→Rep P h H' y b→Eq3 x y k) he
  (fun _ _ hx hy=>hx.boolE (hy.boolE ⟨fun _ _=>EqAt.bool_bool _ _,fun _ _=>RcAt.bool_bool _ _,fun _ _=>RcNeAt.bool_bool _ _⟩))
  (fun _ _ hx hy=>hx.intE fun _=>hy.intE fun _=>⟨fun _ _=>EqAt.int_int _ _ _ _,fun _ _=>RcAt.int_int _ _ _ _,fun _ _=>RcNeAt.int_int _ _ _ _⟩)
  (fun _ _ hx hy=>hx.intE fun _=>hy.strE fun _=>⟨fun _ _=>EqAt.int_str _ _ _ _,fun _ _=>RcAt.int_str _ _ _ _,fun _ _=>RcNeAt.int_str _ _ _ _⟩)
  (fun _ _ hx hy=>hx.strE fun _=>hy.intE fun _=>⟨fun _ _=>EqAt.str_int _ _ _ _,fun _ _=>RcAt.str_int _ _ _ _,fun _ _=>RcNeAt.str_int _ _ _ _⟩)
  (fun _ _ hx hy=>hx.strE fun _=>hy.strE fun _=>⟨fun _ _=>EqAt.str_str _ _ _ _,fun _ _=>RcAt.str_str _ _ _ _,fun _ _=>RcNeAt.str_str _ _ _ _⟩) hx hy
theorem aW{h:Heap}{a:Addr}{vs:Array Value}{n:Nat}(ho:h.get? a=some (fC vs n)):h.IsList a vs:=⟨_,ho,rfl,n,rfl⟩
theorem cx{h:Heap}{a:Addr}{vs:Array Value}{n:Nat}(ho:h.get? a=some (da vs n)):h.IsTuple a vs:=⟨_,ho,rfl,n,rfl⟩
theorem ew{h:Heap}{a:Addr}{vs:Array Value}{n:Nat}(ho:h.get? a=some (da vs n)):PyProof.Rows.IsTup h a vs:=⟨_,ho,rfl,n,rfl⟩
structure Rc2(A:Around)(s:Shared)(x y:Value)(k:Bool):Prop where
 r:RcAt A s x y k
 n:RcNeAt A s x y (!k)
theorem Eq3.rc{x y:Value}{k:Bool}(q:Eq3 x y k):Rc2 A s x y k:=⟨q.r A s,q.n A s⟩
structure Eq2(prog:Program)(w:World)(A:Around)(E:Value→Shared→Prop)(s:Shared)(H:Addr→Prop)(x y:Value)(k:Bool):Prop where
 e:wpAny (model prog w) A (compareOp .Eq x y) (bh w s H (.bool k)) E s
 n:wpAny (model prog w) A (compareOp .NotEq x y) (bh w s H (.bool (!k))) E s
theorem jd{b:Bool}:bh w s H (.bool b) (.bool b) s:=⟨Kp.refl _,rfl⟩
theorem Rc2.two{x y:Value}{k:Bool}(q:Rc2 A s x y k):Eq2 prog w A E s H x y k:=⟨q.r prog w E _ jd,q.n prog w E _ jd⟩
noncomputable def nF(xs ys:List Value)(e:Nat→Bool):Prop:=∀ j (h1:j<xs.length) (h2:j<ys.length) A s,EqAt A s xs[j] ys[j] (e j)
theorem ow{P:Params}{h:Heap}{xs ys:List Value}{ds es:List D}{k:Bool}(hx:aq P h H xs ds)(hy:aq P h H' ys es)(hl:ds.length=es.length)(he:fi ds es=some k) :
  ∃ e:Nat→Bool,(List.range ds.length).all e=k∧nF xs ys e:=by
 induction ds generalizing xs ys es k with
 | nil=>
  cases es with
  | nil=>exact⟨fun _=>true,Option.some.inj he,fun j h1=>by rw[show xs=[] from hx] at h1;exact absurd h1 (Nat.not_lt_zero _)⟩
  | cons=>cases hl
 | cons d ds ih=>
  cases es with
  | nil=>cases hl
  | cons e es=>
   refine ir he fun b1 h1 he=>bB he fun b2 h2 he=>dg.rec (motive:=fun xs _=>∃ e:Nat→Bool,(List.range (d::ds).length).all e=k∧nF xs ys e) (fun hx hxs=>dg.rec (motive:=fun ys _=>∃ e:Nat→Bool,(List.range (d::ds).length).all e=k∧nF _ ys e) (fun hy hys=>?_) hy) hx
   refine (ih hxs hys (Nat.succ.inj hl) h2).elim fun e q=>⟨fun j=>Nat.casesOn j b1 e,?_,fun j h1' h2' A s=>?_⟩
   ·rw[List.length_cons,List.range_succ_eq_map,List.all_cons,List.all_map]
    exact (congrArg (b1&&·) q.1).trans he
   ·cases j with
    | zero=>exact (pG hx hy h1).e A s
    | succ j=>exact q.2 j (Nat.lt_of_succ_lt_succ h1') (Nat.lt_of_succ_lt_succ h2') A s
theorem nF.arr{v1 v2:Array Value}{e:Nat→Bool}(q:nF v1.toList v2.toList e){A:Around}{s:Shared}(j:Nat)(q1:j<v1.size)(q2:j<v2.size):EqAt A s v1[j] v2[j] (e j):=q j q1 q2 A s
theorem eqL_snd{l1 l2:Addr}{v1 v2:Array Value}{n1 n2:Nat}{d1 d2:List D}{k:Bool}(h1:s.heap.get? l1=some (fC v1 n1))(h2:s.heap.get? l2=some (fC v2 n2))(r1:aq w.params s.heap H v1.toList d1)(r2:aq w.params s.heap H' v2.toList d2)
  (hu:A.units<cLine) (he:(if d1.length=d2.length then fi d1 d2 else some false)=some k):Rc2 A s (.ref l1) (.ref l2) k:=
 cy he (fun hl he=>(ow r1 r2 hl he).elim fun e q=>
   have hs:v1.size=v2.size:=r1.size.trans (hl.trans r2.size.symm)
   have ek:(List.range v1.size).all e=k:=r1.size.symm▸q.1
   ek▸⟨RcAt.lists (aW h1) (aW h2) hs hu q.2.arr,RcNeAt.lists (aW h1) (aW h2) hs hu q.2.arr⟩)
  fun hl he=>
   have hne:(v1.size != v2.size)=true:=bne_iff_ne.mpr fun e=>hl (r1.size.symm.trans (e.trans r2.size))
   Option.some.inj he▸⟨RcAt.lists_lengths (aW h1) (aW h2) hne hu,RcNeAt.lists_lengths (aW h1) (aW h2) hne hu⟩
theorem qZ{l1 l2:Addr}{v1 v2:Array Value}{n1 n2:Nat}{k:Bool}{e:Nat→Bool}(h1:s.heap.get? l1=some (da v1 n1))(h2:s.heap.get? l2=some (da v2 n2))(hu:A.units<cLine)(q:∀ j (q1:j<v1.size) (q2:j<v2.size),EqAt A.in1 s v1[j] v2[j] (e j))(ek:((List.range (min v1.size v2.size)).all e&&v1.size == v2.size)=k):Rc2 A s (.ref l1) (.ref l2) k:=
 ek▸⟨RcAt.tuples (cx h1) (cx h2) hu q,RcNeAt.tuples (cx h1) (cx h2) hu q⟩
theorem eqT_snd{l1 l2:Addr}{v1 v2:Array Value}{n1 n2:Nat}{d1 d2:List D}{k:Bool}(h1:s.heap.get? l1=some (da v1 n1))(h2:s.heap.get? l2=some (da v2 n2))(r1:aq w.params s.heap H v1.toList d1)(r2:aq w.params s.heap H' v2.toList d2)
  (hu:A.units<cLine) (hl:d1.length=d2.length) (he:fi d1 d2=some k):Rc2 A s (.ref l1) (.ref l2) k:=
 (ow r1 r2 hl he).elim fun e q=>qZ h1 h2 hu q.2.arr (by rw[r1.size,r2.size,← hl,Nat.min_self,q.1,beq_self_eq_true,Bool.and_true])
theorem eqT_nil{l1 l2:Addr}{v1 v2:Array Value}{n1 n2:Nat}{d1 d2:List D}(h1:s.heap.get? l1=some (da v1 n1))(h2:s.heap.get? l2=some (da v2 n2))(r1:aq w.params s.heap H v1.toList d1)(r2:aq w.params s.heap H' v2.toList d2)
  (hu:A.units<cLine) (hl:¬ d1.length=d2.length) (h0:d2.length=0):Rc2 A s (.ref l1) (.ref l2) false:=
 qZ (e:=fun _=>true) h1 h2 hu (fun j q1 q2=>absurd q2 (by rw[r2.size,h0];exact Nat.not_lt_zero _)) (by rw[r1.size,r2.size,beq_eq_false_iff_ne.mpr hl,Bool.and_false])
theorem eqD_snd{x y:Value}{a b:D}{k:Bool}(hx:Rep w.params s.heap H x a)(hy:Rep w.params s.heap H' y b)(hu:A.units<cLine)(he:eqD a b=some k):Rc2 A s x y k:=by
 cases a with
 | tup ds=>exact o0 (C:=fun b=>Rep w.params s.heap H' y b→Rc2 A s x y k) he (fun es he hy=>hx.tupE fun _ _ _ h1 _ _ r1=>hy.tupE fun _ _ _ h2 _ _ r2=>cy he (eqT_snd h1 h2 r1 r2 hu) fun hl he=>aZ he fun h0 e=>e▸eqT_nil h1 h2 r1 r2 hu hl h0) hy
 | list ds=>exact sv (C:=fun b=>Rep w.params s.heap H' y b→Rc2 A s x y k) he (fun es he hy=>hx.listE fun _ _ _ h1 _ _ r1=>hy.listE fun _ _ _ h2 _ _ r2=>eqL_snd h1 h2 r1 r2 hu he) hy
 | _=>exact (pG hx hy he).rc
@[elab_as_elim] theorem pI{y:Value}{h:Heap}{ks vs:List D}{C:Value→Prop}(hy:Rep w.params h H y (.dict ks vs))(hk:ks.all D.isCell=true)(k:∀ a es n (cs:List CK),ks=cs.map bq→h.get? a=some (lH es n)→h.DictOf (ce prog w) a (cs.zip (es.toList.map (·.val)))→aq w.params h H (es.toList.map (·.val)) vs→(a == sysModules)=false→cs.length=(es.toList.map (·.val)).length→cs.Nodup→C (.ref a)):C y:=
 (np hk).elim fun cs e=>nM.rec (motive:=fun v _=>C v) (fun ho hn hl h1 h2 hh hk hd hs=>k _ _ _ cs e ho (m9 ho (e▸h1) (e▸hh) (e▸hd)) h2 hs ((List.length_map (as:=cs) bq).symm.trans ((e▸h1.length.symm:(cs.map bq).length=_).trans (by rw[List.length_map,List.length_map]))) ((List.pairwise_map.mp (e▸hd)).imp fun h e=>h (congrArg bq e))) hy
@[elab_as_elim] theorem re{P:Params}{h:Heap}{y:Value}{ks vs:List D}{C:Value→Prop}(hy:Rep P h H y (.dict ks vs))(hk:ks.all D.isTK=true)(k:∀ a es n (cs:List (List CK)),ks=cs.map dW→h.get? a=some (lH es n)→aq P h H (es.toList.map (·.key)) (cs.map dW)→aq P h H (es.toList.map (·.val)) vs →
  es.toList.map (·.hash)=(cs.map dW).map (fW P)→(cs.map dW).Nodup→(a == sysModules)=false→C (.ref a)):C y:=
 (rI hk).elim fun cs e=>nM.rec (motive:=fun v _=>C v) (fun ho hn hl h1 h2 hh hk hd hs=>k _ _ _ cs e ho (e▸h1) h2 (e▸hh) (e▸hd) hs) hy
theorem uE{xs:List (List CK×Addr×Value)}{cs:List (List CK)}(h:xs.map (·.1)=cs):xs.map kD=cs.map dW:=by
 rw[← h,List.map_map];rfl
theorem notIn_of_in{M:Model}{x c:Value}{Q' Q:Value→Shared→Prop}(h:wpAny M A (compareOp .In x c) Q' E s)(hQ:∀ b s',Q' (.bool b) s'→Q (.bool (!b)) s'):wpAny M A (compareOp .NotIn x c) Q E s:=by
 intro Γ p hΓ
 have h0:=h Γ p hΓ
 change Sem.wp _ Γ (Sem.bind (contains c x) fun r=>Sem.pure (Value.bool r)) _ _ p s at h0
 show Sem.wp _ Γ (Sem.bind (contains c x) fun r=>Sem.pure (Value.bool (!r))) _ _ p s
 rw[Sem.wp_bind] at h0 ⊢
 exact Sem.wp_mono _ Γ _ (fun r p' s' q=>hQ r s' q) (fun _ _ _ q=>q) p s h0
theorem kM{k:D}{ks:List D}{C:Prop}(h:dX k ks=true)(h1:k.isCell=true→ks.all D.isCell=true→C)(h2:k.isTK=true→ks.all D.isTK=true→C):C:=(Bool.or_eq_true_iff.mp h).elim (fun h=>bG h h1) fun h=>bG h h2
theorem in_dict{x y:Value}{k:D}{ks vs:List D}(hx:Rep w.params s.heap H x k)(hy:Rep w.params s.heap H y (.dict ks vs))(hu:A.units+1<cLine)(hc:dX k ks=true) :
  wpAny (model prog w) A (compareOp .In x y) (bh w s H (.bool (ks.any fun x=>aR x k))) E s:=by
 refine kM hc (fun h1 h2=>(fk h1).elim fun c e=>?_) ?_
 ·subst e
  exact pI (prog:=prog) hy h2 fun a es n cs e ho hD hv hs hl _=>wpAny_in_of (knd:=ce prog w) (kB hx) hs hD.mapOf (by rw[any_valueAt hl,e];exact cg)
 ·refine fun h1 h2=>(pV h1).elim fun c e=>?_
  subst e
  refine re hy h2 fun a es n cs e ho hk hv hh hd hs=>?_
  obtain⟨b,rfl,ib⟩:=oY (prog:=prog) hx
  obtain⟨xs,hm,e1,_,_⟩:=kW (prog:=prog) ho hk hh hd
  refine wpAny_in_heap (knd:=TKd prog w) hu ib hs hm ?_
  rw[oG xs,uE e1,e];exact cg
theorem nr{P:Params}{h:Heap}{x y:Value}{a b:D}(hx:Rep P h H x a)(hy:Rep P h H' y b)(ha:a.isCell=true)(hb:b.isCell=true):∀ A s,EqAt A s x y (bv a b):=by
 obtain⟨c,rfl⟩:=fk ha
 obtain⟨c',rfl⟩:=fk hb
 exact (pG hx hy (by cases c <;> cases c' <;> rfl)).e
noncomputable def ec:Value→D
 | .int i _=>.int i
 | .str x _=>.str x
 | _=>.none
theorem ik{P:Params}{h:Heap}{v:Value}{d:D}(r:Rep P h H v d)(hc:d.isCell=true):ec v=d:=by
 obtain⟨c,rfl⟩:=fk hc
 cases c
 ·exact Rep.intE (C:=fun v=>ec v=_) r fun _=>rfl
 ·exact Rep.strE (C:=fun v=>ec v=_) r fun _=>rfl
theorem eqv_any{P:Params}{h:Heap}{b:D}{vs:List Value}{ds:List D}(r:aq P h H vs ds)(hc:ds.all D.isCell=true):vs.any (fun v=>bv (ec v) b)=ds.any fun x=>bv x b:=by
 induction ds generalizing vs with
 | nil=>rw[show vs=[] from r];rfl
 | cons d ds ih=>exact dg.rec (motive:=fun vs _=>vs.any (fun v=>bv (ec v) b)=(d::ds).any fun x=>bv x b) (fun hv hr=>bG hc fun h1 h2=>by rw[List.any_cons,List.any_cons,ih hr h2,ik hv h1]) r
theorem mem_eqv{P:Params}{h:Heap}{x:Value}{k:D}(hx:Rep P h H x k)(hk:k.isCell=true){A:Around}{s:Shared}{vs:List Value}{ds:List D}(r:aq P h H vs ds)(hc:ds.all D.isCell=true):∀ v∈vs,EqAt A s v x (bv (ec v) k):=by
 induction ds generalizing vs with
 | nil=>rw[show vs=[] from r];exact fun _ hm=>nomatch hm
 | cons d ds ih=>exact dg.rec (motive:=fun vs _=>∀ v∈vs,EqAt A s v x (bv (ec v) k)) (fun hv hr v hm=>bG hc fun h1 h2=>(List.mem_cons.mp hm).elim (fun e=>e▸(ik hv h1).symm▸nr hv hx h1 hk A s) (ih hr h2 v)) r
theorem in_tup{x y:Value}{k:D}{ds:List D}(hx:Rep w.params s.heap H x k)(hy:Rep w.params s.heap H y (.tup ds))(hc:(k.isCell&&ds.all D.isCell)=true) :
  wpAny (model prog w) A (compareOp .In x y) (bh w s H (.bool (ds.any fun x=>bv x k))) E s:=
 bG hc fun h1 h2=>hy.tupE fun a vs n ho hn hl hr=>in_tupleAt (fun v=>bv (ec v) k) (cx ho) (fun v hv=>mem_eqv hx h1 hr h2 v (Array.mem_toList_iff.mpr hv)) (by rw[← Array.any_toList,eqv_any hr h2];exact jd)
theorem jM{P:Params}{h:Heap}{vs:List Value}{ds:List D}(r:aq P h H vs ds)(hc:ds.all D.isCell=true):vs.map ec=ds:=by
 induction ds generalizing vs with
 | nil=>rw[show vs=[] from r];rfl
 | cons d ds ih=>exact dg.rec (motive:=fun vs _=>vs.map ec=d::ds) (fun hv hr=>bG hc fun h1 h2=>by rw[List.map_cons,ih hr h2,ik hv h1]) r
theorem lA:∀ a b:List D,((List.range (min a.length b.length)).all (fun j=>bv (a.getD j .none) (b.getD j .none))&&a.length == b.length)=aE a b
 | [],[]=>rfl
 | [],_::_=>rfl
 | _::_,[]=>rfl
 | x::a,y::b=>by
  rw[List.length_cons,List.length_cons,Nat.succ_min_succ,List.range_succ_eq_map,List.all_cons,List.all_map]
  show ((bv x y&&(List.range (min a.length b.length)).all fun j=>bv (a.getD j .none) (b.getD j .none))&&(a.length+1 == b.length+1))=(bv x y&&aE a b)
  rw[← lA a b,Bool.and_assoc,show (a.length+1 == b.length+1)=(a.length == b.length) from Bool.eq_iff_iff.mpr (by rw[beq_iff_eq,beq_iff_eq];exact⟨Nat.succ.inj,congrArg Nat.succ⟩)]
theorem nl:∀ {a:List D},a.all D.isCell=true→aE a a=true
 | [],_=>rfl
 | x::a,h=>bG h fun h1 h2=>by
  obtain⟨c,rfl⟩:=fk h1
  show (bv (bq c) (bq c)&&aE a a)=true
  rw[nl h2,Bool.and_true]
  cases c
  ·exact beq_self_eq_true _
  ·exact beq_self_eq_true _
theorem pU{h:Heap}{l:Addr}{v1 v2:Array Value}{n1 n2:Nat}(h1:h.get? l=some (da v1 n1))(h2:h.get? l=some (da v2 n2)):v1=v2:=by
 rw[h1] at h2
 have e:=congrArg Obj.data (Option.some.inj h2)
 exact (Data.seq.inj e).1
theorem row_eq{x y:Value}{a b:List D}(hx:Rep w.params s.heap H x (.tup a))(hy:Rep w.params s.heap H' y (.tup b))(ha:a.all D.isCell=true)(hb:b.all D.isCell=true)(hu:A.units<cLine):EqAt A s x y (aE a b):=
 hx.tupE fun l vs n ho _ _ hr=>hy.tupE fun l' vs' n' ho' _ _ hr'=>by
  by_cases e:l=l'
  ·subst e
   have e:=pU ho ho'
   subst e
   rw[← (jM hr ha).symm.trans (jM hr' hb),nl ha]
   exact EqAt.same _
  ·refine EqAt.of_refs e ?_
   have q:=RcAt.tuples (A:=A) (s:=s) (e:=fun j=>bv (a.getD j .none) (b.getD j .none)) (cx ho) (cx ho') hu fun j h1 h2=>by
    have k1:j<a.length:=hr.size▸h1
    have k2:j<b.length:=hr'.size▸h2
    obtain⟨u,e1,r1⟩:=hr.get j (List.getElem?_eq_getElem k1)
    obtain⟨v,e2,r2⟩:=hr'.get j (List.getElem?_eq_getElem k2)
    rw[Array.getElem?_toList,Array.getElem?_eq_getElem h1] at e1
    rw[Array.getElem?_toList,Array.getElem?_eq_getElem h2] at e2
    rw[Option.some.inj e1,Option.some.inj e2,List.getD_eq_getElem?_getD,List.getD_eq_getElem?_getD,List.getElem?_eq_getElem k1,List.getElem?_eq_getElem k2]
    exact nr r1 r2 (List.all_eq_true.mp ha _ (List.getElem_mem k1)) (List.all_eq_true.mp hb _ (List.getElem_mem k2)) _ _
   rw[hr.size,hr'.size,lA] at q
   exact q
theorem j8{d:D}{C:D→Prop}(h:d.isTK=true)(k:∀ a,a.all D.isCell=true→C (.tup a)):C d:=by
 cases d with
 | tup a=>exact k a h
 | _=>cases h
noncomputable def eTK(P:Params)(h:Heap)(H:Addr→Prop)(k:D)(v:Value):Bool:=@decide (∃ d,Rep P h H v d∧d.isTK=true∧aR d k=true) (Classical.propDecidable _)
theorem uT{P:Params}{h:Heap}{v:Value}{d k:D}(r:Rep P h H v d)(hd:d.isTK=true):eTK P h H k v=aR d k:=by
 unfold eTK
 cases e:aR d k with
 | true=>exact @decide_eq_true _ (Classical.propDecidable _) ⟨d,r,hd,e⟩
 | false=>
  refine @decide_eq_false _ (Classical.propDecidable _) fun⟨d',r',hd',e'⟩=>?_
  have:d=d':=by
   revert r r'
   refine j8 (C:=fun d=>Rep P h H v d→Rep P h H v d'→d=d') hd fun a ha=>j8 (C:=fun d'=>Rep P h H v (.tup a)→Rep P h H v d'→.tup a=d') hd' fun b hb r r'=>?_
   cases r with
   | mk ho _ _ hr=>cases r' with
    | mk ho' _ _ hr'=>
     have e:=pU ho ho'
     subst e
     rw[(jM hr ha).symm.trans (jM hr' hb)]
  rw[← this,e] at e';cases e'
theorem in_lst{x y:Value}{k:D}{ds:List D}(hx:Rep w.params s.heap H x k)(hy:Rep w.params s.heap H y (.list ds))(hu:A.units+1<cLine)(hc:(k.isTK&&ds.all D.isTK)=true) :
  wpAny (model prog w) A (compareOp .In x y) (bh w s H (.bool (ds.any fun x=>aR x k))) E s:=
 bG hc fun h1 h2=>hy.listE fun a vs n ho hn hl hr=>by
  have key:∀ {vs:List Value} {ds:List D},aq w.params s.heap H vs ds→ds.all D.isTK=true→vs.any (eTK w.params s.heap H k)=ds.any (fun x=>aR x k)∧∀ v∈vs,EqAt A.in1 s v x (eTK w.params s.heap H k v):=by
   intro vs ds r hc
   induction ds generalizing vs with
   | nil=>rw[show vs=[] from r];exact⟨rfl,fun _ hm=>nomatch hm⟩
   | cons d ds ih=>exact dg.rec (motive:=fun vs _=>vs.any (eTK w.params s.heap H k)=(d::ds).any (fun x=>aR x k)∧∀ v∈vs,EqAt A.in1 s v x (eTK w.params s.heap H k v)) (fun hv hr=>bG hc fun h1' h2'=>⟨by rw[List.any_cons,List.any_cons,(ih hr h2').1,uT hv h1'],fun v hm=>(List.mem_cons.mp hm).elim (fun e=>by
     rw[e,uT hv h1']
     revert hv hx
     refine j8 (C:=fun d=>Rep w.params s.heap H x k→Rep w.params s.heap H _ d→EqAt A.in1 s _ x (aR d k)) h1' fun a ha=>j8 (C:=fun k=>Rep w.params s.heap H x k→Rep w.params s.heap H _ (.tup a)→EqAt A.in1 s _ x (aR (.tup a) k)) h1 fun b hb hx hv=>?_
     exact row_eq hv hx ha hb hu) ((ih hr h2').2 v)⟩) r
  have q:=key hr h2
  exact in_listAt (eTK w.params s.heap H k) (aW ho) (fun v hv=>q.2 v (Array.mem_toList_iff.mpr hv)) (by rw[← Array.any_toList,q.1];exact jd)
theorem sH{x y:Value}{a b:D}{k:Bool}(hx:Rep w.params s.heap H x a)(hy:Rep w.params s.heap H y b)(hu:A.units+1<cLine)(he:mz a b=some k) :
  wpAny (model prog w) A (compareOp .In x y) (bh w s H (.bool k)) E s:=by
 cases b with
 | tup ds=>exact aZ he fun hc e=>e▸in_tup hx hy hc
 | list ds=>exact aZ he fun hc e=>e▸in_lst hx hy hu hc
 | dict ks vs=>exact aZ he fun hc e=>e▸in_dict hx hy hu hc
 | _=>exact am he
theorem ord_snd{op:CmpOp}{x y:Value}{a b d:D}(hx:Rep w.params s.heap H x a)(hy:Rep w.params s.heap H y b)(he:ordD op a b=some d):wpAny (model prog w) A (compareOp op x y) (bh w s H d) E s:=by
 cases a with
 | int i=>
  refine dh (C:=fun b=>Rep w.params s.heap H y b→_) he (fun j he hy=>hx.intE fun _=>hy.intE fun _=>?_) hy
  cases op with
  | Lt=>exact Option.some.inj he▸PyProof.Rows.lt_int jd
  | LtE=>exact Option.some.inj he▸PyProof.Rows.le_int jd
  | Gt=>exact Option.some.inj he▸PyProof.Rows.gt_int jd
  | GtE=>exact Option.some.inj he▸PyProof.Rows.ge_int jd
  | _=>exact am he
 | str x=>
  refine lQ (C:=fun b=>Rep w.params s.heap H y b→_) he (fun j he hy=>hx.strE fun _=>hy.strE fun _=>?_) hy
  cases op with
  | Lt=>exact Option.some.inj he▸PyProof.Rows.lt_str jd
  | _=>exact am he
 | _=>exact am he
theorem tw{x y:Value}{a b:D}{k:Bool}(hx:Rep w.params s.heap H x a)(hy:Rep w.params s.heap H y b)(hu:A.units+2<cLine)(he:eqX a b=some k):Eq2 prog w A E s H x y k:=(eqD_snd hx hy (Nat.lt_of_le_of_lt (Nat.le_add_right _ 2) hu) he).two
theorem tA{op:CmpOp}{x y:Value}{a b d:D}(hx:Rep w.params s.heap H x a)(hy:Rep w.params s.heap H y b)(hu:A.units+2<cLine)(he:eG op a b=some d) :
  wpAny (model prog w) A (compareOp op x y) (bh w s H d) E s:=by
 cases op with
 | Eq=>exact bB he fun k hk e=>e▸(tw hx hy hu hk).e
 | NotEq=>exact bB he fun k hk e=>e▸(tw hx hy hu hk).n
 | In=>exact bB he fun k hk e=>e▸sH hx hy (Nat.lt_of_succ_lt hu) hk
 | NotIn=>exact bB he fun k hk e=>e▸notIn_of_in (sH hx hy (Nat.lt_of_succ_lt hu) hk) fun b s' q=>⟨q.k,by cases q.r;rfl⟩
 | _=>exact ord_snd hx hy he

theorem ph{n:Nat}(h:n≤big):(n:Int)<2 ^ 63:=Int.lt_of_le_of_lt (Int.ofNat_le.mpr h) (by decide)
theorem q8{P:Params}{h:Heap}{vs:Array Value}{ds:List D}(r:aq P h H vs.toList ds):vs.isEmpty=ds.isEmpty:=by
 rw[Bool.eq_iff_iff,Array.isEmpty_iff,List.isEmpty_iff,← Array.size_eq_zero_iff,← List.length_eq_zero_iff,r.size]

theorem fP{x:Value}{a:D}{t:Bool}(hx:Rep w.params s.heap H x a)(he:bE a=some t) :
  wpAny (model prog w) A (truthy x) (dR s t) E s:=by
 cases a with
 | none=>exact hx.noneE (PyProof.Rows.truthy_none ⟨Kp.refl _,Option.some.inj he⟩)
 | bool b=>exact hx.boolE (wpAny_truthy_bool ⟨Kp.refl _,Option.some.inj he⟩)
 | int i=>exact hx.intE fun _=>PyProof.Rows.truthy_int ⟨Kp.refl _,Option.some.inj he⟩
 | tup ds=>exact hx.tupE fun a vs n ho _ hl hr=>PyProof.Rows.truthy_tuple (ew ho) (hr.size.symm▸ph hl) ⟨Kp.tok _ _,(congrArg _ (q8 hr)).trans (Option.some.inj he)⟩
 | list ds=>exact hx.listE fun a vs n ho _ hl hr=>wpAny_truthy_list (aW ho) (hr.size.symm▸ph hl) ⟨Kp.tok _ _,(congrArg _ (q8 hr)).trans (Option.some.inj he)⟩
 | _=>exact am he

theorem tc{k:Int}{n j:Nat}{C:Prop}(h:idx k n=some j)(k1:0≤k→k<n→k.toNat=j→C)(k2:-(n:Int)≤k→k<0→(k+n).toNat=j→C):C:=
 cy h (fun hc e=>k1 hc.1 hc.2 (Option.some.inj e)) fun _ h=>aZ h fun hc e=>k2 hc.1 hc.2 e
theorem px{k:Int}{n j:Nat}(h:idx k n=some j):seqIndex? k n=some j∧-(n:Int)≤k∧k<n:=by
 unfold seqIndex?
 refine tc h (fun h1 h2 e=>?_) fun h1 h2 e=>?_
 ·subst e
  have e:¬ k<0:=Int.not_lt.mpr h1
  simp only[e,if_false]
  simp[h1,h2];omega
 ·subst e
  simp only[h2,if_true]
  have h3:0≤k+n:=by omega
  have h4:k+n<n:=by omega
  simp[h3,h4];omega
noncomputable def vi(s:Shared)(x:Value):Prop:=∃ T id,s.TypeIs x T∧typeLookup (.type T) "__getitem__"=pure (some (.builtin id))
theorem get_str{x:Str}{t u:Tok}{k:Int}(hc:0≤k∧k<x.length∧x.length≤big):wpAny (model prog w) A (getItem (.str x t) (.int k u)) (bh w s H (.str (bQ x k.toNat))) E s:=by
 refine PyProof.Rows.getItem_str (c:=x.cps.getD k.toNat 0) ?_ ?_ n9
 ·have:=ph hc.2.2
  simp;omega
 ·have h1:idx k x.length=some k.toNat:=if_pos ⟨hc.1,hc.2.1⟩
  rw[(px h1).1]
  have h2:k.toNat<x.cps.size:=(Int.toNat_lt hc.1).mpr hc.2.1
  simp[Array.getD,h2]
theorem get_seq{l:Addr}{vs:Array Value}{n j:Nat}{ds:List D}{k:Int}{u:Tok}{v:Value}{d:D}(ho:s.heap.get? l=some (fC vs n))(hl:ds.length≤big)(hr:aq w.params s.heap H vs.toList ds)(hj:idx k ds.length=some j)(hv:vs.toList[j]?=some v)(r:Rep w.params s.heap H v d) :
  wpAny (model prog w) A (getItem (.ref l) (.int k u)) (bh w s H d) E s:=by
 have hb:=ph hl
 have hv:vs[j]?=some v:=Array.getElem?_toList.symm.trans hv
 refine tc hj (fun h1 h2 e=>?_) fun h1 h2 e=>?_
 ·exact wpAny_getItem_list (aW ho) h1 (Int.lt_trans h2 hb) (e▸hv) ⟨Kp.refl _,r⟩
 ·exact wpAny_getItem_list_neg (aW ho) h2 (hr.size.symm▸h1) (by omega) (hr.size.symm▸e▸hv) ⟨Kp.refl _,r⟩
theorem getItem_snd{x i:Value}{a b d:D}(hu:A.units+1<cLine)(hx:Rep w.params s.heap H x a)(hi:Rep w.params s.heap H i b)(he:a9 a b=some d) :
  wpAny (model prog w) A (getItem x i) (bh w s H d) E s∧vi s x:=by
 cases a with
 | str x=>exact dh (C:=fun b=>Rep w.params s.heap H i b→_) he (fun k he hi=>aZ he fun hc e=>e▸hx.strE fun _=>hi.intE fun _=>⟨get_str hc,"str",_,typeIs_str _ _ _,F.slot_str_getitem.lookup⟩) hi
 | tup ds=>exact dh (C:=fun b=>Rep w.params s.heap H i b→_) he (fun k he hi=>ir he fun j hj he=>hx.tupE fun a vs n ho hn hl hr=>hi.intE fun _=>(hr.get j he).elim fun v q=>
   have h:=px hj
   have hb:=ph hl
   ⟨PyProof.Rows.getItem_tuple (ew ho) (Int.le_trans (by omega) h.2.1) (Int.lt_trans h.2.2 hb) (hr.size.symm▸h.1) (Array.getElem?_toList.symm.trans q.1) ⟨Kp.refl _,q.2⟩,"tuple",_,(ew ho).typeIs,F.slot_tuple_getitem.lookup⟩) hi
 | list ds=>exact dh (C:=fun b=>Rep w.params s.heap H i b→_) he (fun k he hi=>ir he fun j hj he=>hx.listE fun a vs n ho hn hl hr=>hi.intE fun _=>(hr.get j he).elim fun v q=>
   ⟨get_seq ho hl hr hj q.1 q.2,"list",_,(aW ho).typeIs,F.slot_list_getitem.lookup⟩) hi
 | dict ks vs=>
  refine cz he fun hc he=>kM hc (fun h1 h2=>(fk h1).elim fun c e=>?_) ?_
  ·subst e
   exact pI (prog:=prog) hx h2 fun a es n cs e ho hD hv hs hl _=>(dget_valueAt hv (e▸he)).elim fun v q=>⟨wpAny_getItem_of (knd:=ce prog w) (kB hi) hD.mapOf q.1 ⟨Kp.tok _ _,q.2⟩,"dict",_,hD.mapOf.typeIs,slot_dict_getitem.lookup⟩
  ·refine fun h1 h2=>(pV h1).elim fun c e=>?_
   subst e
   refine re hx h2 fun a es n cs e ho hk hv hh hd hs=>?_
   obtain⟨b,rfl,ib⟩:=oY (prog:=prog) hi
   obtain⟨xs,hm,e1,_,e3⟩:=kW (prog:=prog) ho hk hh hd
   rw[e,← uE e1] at he
   obtain⟨p,hp,rp⟩:=dget_atKey (e3▸hv) he
   exact⟨wpAny_getItem_heap (knd:=TKd prog w) hu ib hm hp ⟨Kp.tok _ _,rp⟩,"dict",_,hm.typeIs,slot_dict_getitem.lookup⟩
 | _=>exact am he
end
end Mine
namespace Mine
open PySem PySem.SeqAt

section
variable {prog:Program} {w:World} {A:Around} {E:Value→Shared→Prop} {s:Shared} {H H':Addr→Prop}

theorem oq{T:String}{C:String→Prop}(h:T="str"∨T="bool"∨T="int"∨T="tuple"∨T="list")(h1:C "str")(h2:C "bool")(h3:C "int")(h4:C "tuple")(h5:C "list"):C T:=
 h.elim (fun e=>e▸h1) fun h=>h.elim (fun e=>e▸h2) fun h=>h.elim (fun e=>e▸h3) fun h=>h.elim (fun e=>e▸h4) fun e=>e▸h5
theorem isi_snd{x:Value}{a:D}{T:String}{t:Bool}(hx:Rep w.params s.heap H x a)(he:mM a T=some t) :
  wpAny (model prog w) A (call (.builtin "isinstance") [x,.type T]) (bh w s H (.bool t)) E s:=by
 unfold mM at he
 refine cz he fun hT he=>?_
 cases a with
 | bool b=>exact Option.some.inj he▸hx.boolE (oq (C:=fun T=>wpAny (model prog w) A (call (.builtin "isinstance") [.bool b,.type T]) (bh w s H (.bool (T == "int"||T == "bool"))) E s) hT (IsiPair.bool_str cg) (IsiPair.bool_bool jd) (IsiPair.bool_int jd) (IsiPair.bool_tuple cg) (IsiPair.bool_list cg))
 | int i=>exact Option.some.inj he▸hx.intE fun u=>oq (C:=fun T=>wpAny (model prog w) A (call (.builtin "isinstance") [.int i u,.type T]) (bh w s H (.bool (T == "int"))) E s) hT (IsiPair.int_str cg) (IsiPair.int_bool cg) (IsiPair.int_int jd) (IsiPair.int_tuple cg) (IsiPair.int_list cg)
 | str x=>exact Option.some.inj he▸hx.strE fun u=>oq (C:=fun T=>wpAny (model prog w) A (call (.builtin "isinstance") [.str x u,.type T]) (bh w s H (.bool (T == "str"))) E s) hT (IsiPair.str_str jd) (IsiPair.str_bool cg) (IsiPair.str_int cg) (IsiPair.str_tuple cg) (IsiPair.str_list cg)
 | tup ds=>exact Option.some.inj he▸hx.tupE fun a vs n ho _ _ _=>oq (C:=fun T=>wpAny (model prog w) A (call (.builtin "isinstance") [.ref a,.type T]) (bh w s H (.bool (T == "tuple"))) E s) hT (IsiPair.tuple_str ho rfl cg) (IsiPair.tuple_bool ho rfl cg) (IsiPair.tuple_int ho rfl cg) (IsiPair.tuple_tuple ho rfl jd) (IsiPair.tuple_list ho rfl cg)
 | list ds=>exact Option.some.inj he▸hx.listE fun a vs n ho _ _ _=>oq (C:=fun T=>wpAny (model prog w) A (call (.builtin "isinstance") [.ref a,.type T]) (bh w s H (.bool (T == "list"))) E s) hT (IsiPair.list_str ho rfl cg) (IsiPair.list_bool ho rfl cg) (IsiPair.list_int ho rfl cg) (IsiPair.list_tuple ho rfl cg) (IsiPair.list_list ho rfl jd)
 | _=>exact am he

noncomputable def u5:List String:=["len","isinstance","sum","max","min","sorted"]
noncomputable def cZ(f:String):Value:=cond (u5.contains f) (.builtin f) (.type f)

theorem natAbs_log2{i:Int}(h:-oS<i∧i<oS):i.natAbs.log2<1920:=by
 have h2:=pP (Int.natCast_pow 10 100) h
 by_cases h3:i.natAbs=0
 ·rw[h3];decide
 ·exact (Nat.log2_lt h3).mpr (Nat.lt_trans h2 (by decide +kernel))

theorem len_snd{x:Value}{a d:D}(hx:Rep w.params s.heap H x a)(he:lenD a=some d):wpAny (model prog w) A (call (.builtin "len") [x]) (bh w s H d) E s:=by
 cases a with
 | str x=>exact aZ he fun hc e=>e▸hx.strE fun _=>PyProof.Rows.len_str (Int.not_le.mpr (ph hc)) fT
 | tup ds=>exact Option.some.inj he▸hx.tupE fun a vs n ho _ hl hr=>hr.size▸PyProof.Rows.len_tuple (ew ho) (hr.size.symm▸ph hl) fT
 | list ds=>exact Option.some.inj he▸hx.listE fun a vs n ho _ hl hr=>hr.size▸PyProof.Rows.len_list (aW ho) (hr.size.symm▸ph hl) fT
 | _=>exact am he
theorem sK(s:Shared)(o:Obj)(t:Nat)(d:Drawn):bz s { s with heap:=s.heap.push o,toks:=t,drawn:=d }:=.mk _ _ _ fun _ _ e=>Heap.gt_push_of_some _ e
theorem bltI_snd{f:String}{i:Int}{t:Tok}{d:D}(hH:Ex s.heap H)(he:bltI f i=some d):wpAny (model prog w) A (call (cZ f) [.int i t]) (bh w s H d) E s:=
 cy he (fun hf he=>aZ he fun hc e=>hf▸e▸call_range_1 ⟨sK _ _ _ _,.mk (IsRange.new _ _ _ _ _ _ _) hH.fresh ⟨hc.2.1,hc.2.2,hc.1⟩⟩)
  fun _ he=>cz he fun hf he=>aZ he fun hc e=>hf▸e▸P.str_of_int (natAbs_log2 hc) n9
theorem bltI2_snd{f:String}{i j:Int}{t u:Tok}{d:D}(hh:A.handled=none)(hH:Ex s.heap H)(he:bltI2 f i j=some d):wpAny (model prog w) A (call (cZ f) [.int i t,.int j u]) (bh w s H d) E s:=by
 refine cy he (fun hf he=>aZ he fun hc e=>hf▸e▸call_range_2 ⟨sK _ _ _ _,.mk (IsRange.new _ _ _ _ _ _ _) hH.fresh ⟨hc.2.1,hc.2.2,hc.1⟩⟩)
  fun _ he=>cy he (fun hf he=>hf▸Option.some.inj he▸max_two_ints hh fun h' tk hk=>?_) fun _ he=>aZ he fun hf e=>hf▸e▸min_two_ints hh fun h' tk hk=>?_
 ·split <;> exact⟨.mk h' tk _ (Heap.gt_up hk),.mk _⟩
 ·split <;> exact⟨.mk h' tk _ (Heap.gt_up hk),.mk _⟩
theorem ints_rep{P:Params}{h:Heap}{vs:List Value}{ds:List D}{k:Int}(r:aq P h H vs ds)(e:lD ds=some k):∃ xs:List (Int×Tok),vs=xs.map (fun p=>.int p.1 p.2)∧(xs.map (·.1)).sum=k:=by
 induction ds generalizing vs k with
 | nil=>exact⟨[],r,Option.some.inj e⟩
 | cons d ds ih=>
  refine dg.rec (motive:=fun vs _=>∃ xs:List (Int×Tok),vs=xs.map (fun p=>.int p.1 p.2)∧(xs.map (·.1)).sum=k) (fun {v vs} hv hr=>?_) r
  cases d with
  | int i=>exact Rep.intE (C:=fun v=>∃ xs:List (Int×Tok),v::vs=xs.map (fun p=>.int p.1 p.2)∧(xs.map (·.1)).sum=k) hv fun t=>bB e fun k' e' q=>(ih hr e').elim fun xs z=>⟨(i,t)::xs,congrArg _ z.1,by rw[List.map_cons,List.sum_cons,z.2];exact q⟩
  | _=>exact am e
theorem preSum_sum(xs:List (Int×Tok)):preSum (numAt xs.toArray) xs.toArray.size=(xs.map (·.1)).sum:=by
 rw[preSum_eq,List.take_of_length_le (by simp)]
theorem sum_snd{a:Addr}{vs:Array Value}{n:Nat}{ds:List D}{k:Int}(hh:A.handled=none)(ho:s.heap.get? a=some (fC vs n))(hr:aq w.params s.heap H vs.toList ds)(he:lD ds=some k):wpAny (model prog w) A (call (.builtin "sum") [.ref a]) (bh w s H (.int k)) E s:=by
 refine (ints_rep hr he).elim fun xs q=>?_
 have e3:vs=intItems xs.toArray:=by
  apply Array.toList_inj.mp
  rw[q.1];simp[intItems]
 refine sum_intListG (xs:=xs.toArray) hh (e3▸aW ho) fun h' tk t' hk=>?_
 rw[preSum_sum,q.2]
 exact⟨.mk h' tk _ (Heap.gt_up hk),.mk _⟩
theorem tupL_snd{x:Value}{ds:List D}(hx:Rep w.params s.heap H x (.list ds))(hH:Ex s.heap H):wpAny (model prog w) A (call (.type "tuple") [x]) (bh w s H (.tup ds)) E s:=
 hx.listE fun a vs n ho hn hl hr=>call_tuple_list (aW ho) (fun h' hk=>have hk:=Heap.gt_up hk;⟨.mk _ _ _ fun _ _ q=>Heap.gt_push_of_some _ (hk _ _ q),.mk (Heap.get?_push_size _ rfl) (hH.keeps hk).fresh hl (hr.keeps fun _ _ q=>Heap.gt_push_of_some _ (hk _ _ q))⟩) (hr.size.symm▸hl)
theorem blt1_snd{f:String}{x:Value}{a d:D}(hh:A.handled=none)(hx:Rep w.params s.heap H x a)(hH:Ex s.heap H)(he:gt f [a]=some d):wpAny (model prog w) A (call (cZ f) [x]) (bh w s H d) E s:=by
 refine cy (c:=f="len") he (fun hf he=>hf▸len_snd hx he) fun _ he=>?_
 cases a with
 | int i=>exact hx.intE fun _=>bltI_snd hH he
 | bool b=>exact aZ he fun hf e=>hf▸e▸hx.boolE (call_int_bool fT)
 | str x=>exact aZ he fun hf e=>hf▸e▸hx.strE fun _=>P.str_of_str ⟨Kp.refl _,.mk _⟩
 | list ds=>exact cy he (fun hf e=>hf▸Option.some.inj e▸tupL_snd hx hH) fun _ he=>cz he fun hf he=>bB he fun k hk e=>hf▸e▸hx.listE fun a vs n ho hn hl hr=>sum_snd hh ho hr hk
 | _=>exact am he
theorem blt_snd{f:String}{xs:List Value}{as:List D}{d:D}(hh:A.handled=none)(hx:aq w.params s.heap H xs as)(hH:Ex s.heap H)(he:gt f as=some d) :
  wpAny (model prog w) A (call (cZ f) xs) (bh w s H d) E s:=by
 cases as with
 | nil=>exact am he
 | cons a as=>exact dg.rec (motive:=fun xs _=>wpAny (model prog w) A (call (cZ f) xs) (bh w s H d) E s) (fun {v vs} h1 h2=>by
   cases as with
   | nil=>rw[show vs=[] from h2];exact blt1_snd hh h1 hH he
   | cons b as=>exact dg.rec (motive:=fun vs _=>wpAny (model prog w) A (call (cZ f) (v::vs)) (bh w s H d) E s) (fun {u us} h4 h3=>by
     cases as with
     | nil=>rw[show us=[] from h3];exact dh (C:=fun a=>Rep w.params s.heap H v a→_) he (fun i he h1=>dh (C:=fun b=>Rep w.params s.heap H u b→_) he (fun j he h4=>h1.intE fun _=>h4.intE fun _=>bltI2_snd hh hH he) h4) h1
     | cons=>exact am he) h2) hx
theorem reps_keys{P:Params}{h:Heap}{vs:List Value}{cs:List CK}(hl:vs.length=cs.length)(hv:∀ (j:Nat) (v:Value),vs[j]?=some v→∃ k,cs[j]?=some k∧CK.is k v=true):aq P h H vs (cs.map bq):=by
 induction cs generalizing vs with
 | nil=>exact List.eq_nil_of_length_eq_zero hl
 | cons c cs ih=>cases vs with
  | nil=>cases hl
  | cons v vs=>exact .mk ((hv 0 v rfl).elim fun k q=>uV (Option.some.inj q.1▸q.2)) (ih (Nat.succ.inj hl) fun j v' e=>hv (j+1) v' e)
theorem lst_snd{x:Value}{a:D}{ds:List D}(hh:A.handled=none)(hx:Rep w.params s.heap H x a)(hH:Ex s.heap H)(he:qB a=some ds) :
  wpAny (model prog w) A (call (.type "list") [x]) (bX w s H (.list ds) true) E s:=by
 cases a with
 | tup es=>exact Option.some.inj he▸hx.tupE fun a vs n ho hn hl hr=>call_list_seq _ (.inr rfl) ho rfl rfl (fun h' c' hk hD=>iX hH hl hr (Heap.gt_up hk) hD) (hr.size.symm▸hl)
 | list es=>exact Option.some.inj he▸hx.listE fun a vs n ho hn hl hr=>call_list_seq _ (.inl rfl) ho rfl rfl (fun h' c' hk hD=>iX hH hl hr (Heap.gt_up hk) hD) (hr.size.symm▸hl)
 | dict ks vs=>
  refine aZ he fun hc e=>e▸?_
  have hlk:ks.length≤big:=nM.rec (motive:=fun _ _=>ks.length≤big) (fun _ _ hl _ _ _ _ _ _=>hl) hx
  refine pI (prog:=prog) hx hc fun a es n cs ek ho hD hv hs hl _=>?_
  obtain⟨ep,hm⟩:=hD.dictAt
  have el:(cs.zip (es.toList.map (·.val))).length=cs.length:=by rw[List.length_zip,← hl,Nat.min_self]
  have ekl:ks.length=cs.length:=by rw[ek,List.length_map]
  refine PySem.W.kdl_call (PySem.W.kdl_dict hs) hh hm (by rw[el,← ekl];exact Nat.le_trans hlk (by decide)) fun h' tk acc' c' hk hD hacc=>?_
  exact iX hH hlk (ek▸reps_keys (by rw[Array.length_toList,hacc.1,el]) fun j v e=>(hacc.2 j v (by rw[← Array.getElem?_toList];exact e)).elim fun k q=>q.elim fun x q=>⟨k,(List.getElem?_zip_eq_some.mp q.1).1,q.2⟩) (Heap.gt_up hk) hD
 | _=>exact am he
end
end Mine
namespace Mine
open PySem PySem.SeqAt
section
variable {prog:Program} {w:World} {A:Around} {E:Value→Shared→Prop} {s:Shared}
theorem iter_keys{d:Addr}{es:Array DictEntry}{ep:Nat}{Q:Value→Shared→Prop}(hd:(d == sysModules)=false)(ho:s.heap.get? d=some (lH es ep))
  (hQ:Q (.ref s.heap.objs.size) { s with heap:=s.heap.push { cls:=.type "dict_keyiterator",data:=.fields #[.ref d,.int 0 0,.int es.size 0,.int ep 0] } }):wpAny (model prog w) A (pyIter (.ref d)) Q E s:=by
 have hT:s.TypeIs (.ref d) "dict":=⟨_,ho,rfl⟩
 refine wpAny_pyIter_slot hT F.slot_dict_iter (wpAny_call_entry F.slot_dict_iter hT F.entry_dict_iter ?_ (F.args_dict_iter_1 _))
 unfold Builtin.«dict.__iter__» Builtin.Dict.dictSlotNone Builtin.Dict.showsAll
 refine wpAny_bind (wpAny_bind (wpAny_notOrdered_dict hT (wpAny_pure ?_)))
 refine wpAny_bind (wpAny_pure ?_)
 dsimp only
 rw[if_neg (by rw[hd];exact Bool.false_ne_true)]
 refine wpAny_bind (wpAny_pure (wpAny_bind (wpAny_dictEntries ho rfl (wpAny_bind (wpAny_dictEpoch ho rfl ?_)))))
 exact wpAny_bind (wpAny_newObj_type (wpAny_pure ⟨_,rfl,"dict_keyiterator",_,⟨_,Heap.get?_push_size _ rfl,rfl⟩,F.slot_dict_keyiterator_next.lookup,hQ⟩))
theorem oj{it d:Addr}{i ep:Nat}{es:Array DictEntry}{Q:Option Value→Shared→Prop}(hh:A.handled=none)(hit:s.heap.IsKeyIter it d i es.size ep)(hod:s.heap.get? d=some (lH es ep))
  (h1:∀ (hi:i<es.size) h',h'.IsKeyIter it d (i+1) es.size ep→Heap.SameBut it s.heap h'→Q (some es[i].key) { s with heap:=h' })
  (h2:es.size≤i→∀ h',Heap.ExtBut it s.heap h'→Q none { s with heap:=h' }):wpAny (model prog w) A (pyNext (.ref it)) Q E s:=by
 obtain⟨o,ho,hc,hd⟩:=id hit
 unfold pyNext
 refine wpAny_bind (wpAny_attempt (wpAny_callSpecial?_slot (name:=Str.ofString "__next__") hit.typeIs F.slot_dict_keyiterator_next
  (wpAny_call_entry F.slot_dict_keyiterator_next hit.typeIs F.entry_dict_keyiterator_next ?_ (F.args_dict_keyiterator_next_1 _))))
 refine wpAny_bind (wpAny_pure (wpAny_bind (wpAny_bind ?_)))
 first | refine wpAny_bind (wpAny_typeNameOfWhole_keyiter hit.typeIs (wpAny_pure ?_)) | refine wpAny_bind (wpAny_typeNameOf_keyiter hit.typeIs (wpAny_pure ?_))
 refine wpAny_bind (wpAny_fieldsOf ho hd ?_)
 have hown:Builtin.Dict_items.ownsTuple "dict_keyiterator"=false:=by decide
 simp only[hown,Bool.false_eq_true,if_false]
 show wpAny _ _ (if (Value.ref d == Value.none)=true then _ else _) _ _ s
 rw[if_neg (show ¬ ((Value.ref d == Value.none)=true) from Bool.false_ne_true)]
 refine wpAny_bind (wpAny_pure (wpAny_bind (wpAny_dictEntries hod rfl ?_)))
 rw[if_neg (by simp)]
 refine wpAny_bind (wpAny_pure (wpAny_bind (wpAny_dictEpoch hod rfl ?_)))
 rw[if_neg (by simp)]
 refine wpAny_pure ?_
 by_cases hlt:i<es.size
 ·simp only[show ¬ ((i:Int)<0) from by omega,if_false,Int.toNat_natCast,Array.getElem?_eq_getElem hlt]
  refine wpAny_bind ?_
  first | refine wpAny_bind (wpAny_typeNameOfWhole_keyiter hit.typeIs (wpAny_pure ?_)) | refine wpAny_bind (wpAny_typeNameOf_keyiter hit.typeIs (wpAny_pure ?_))
  refine wpAny_bind (wpAny_isOneOf_keyiter hit.typeIs ?_)
  show wpAny _ _ (setField (.ref it) 1 (rawInt ((i:Int)+1)) >>= _) _ _ s
  refine wpAny_bind (wpAny_setField ho hd (by simp) ?_)
  have hit':(s.heap.update it (Obj.mapFields (·.setIfInBounds 1 (rawInt ((i:Int)+1))))).IsKeyIter it d (i+1) es.size ep:=
   ⟨_,Heap.get?_update_self _ ho (Obj.isFreed_of_fields (Obj.data_mapFields hd _)),(Obj.cls_mapFields ..).trans hc,by rw[Obj.data_mapFields hd];simp[rawInt]⟩
  refine wpAny_bind (wpAny_holding ?_)
  refine wpAny_bind (wpAny_isOneOf_keyiter (s:={ s with heap:=s.heap.update it (Obj.mapFields (·.setIfInBounds 1 (rawInt ((i:Int)+1)))) }) hit'.typeIs ?_)
  show wpAny _ _ (pure es[i].key) _ _ _
  exact wpAny_pure (wpAny_pure ⟨_,rfl,wpAny_pure (h1 hlt _ hit' (Heap.SameBut.update ..))⟩)
 ·have hge:es.size≤i:=by omega
  simp only[show ¬ ((i:Int)<0) from by omega,if_false,Int.toNat_natCast,Array.getElem?_eq_none hge]
  refine wpAny_bind ?_
  first | refine wpAny_bind (wpAny_typeNameOfWhole_keyiter hit.typeIs (wpAny_pure ?_)) | refine wpAny_bind (wpAny_typeNameOf_keyiter hit.typeIs (wpAny_pure ?_))
  show wpAny _ _ (setField (.ref it) 0 .none >>= _) _ _ s
  refine wpAny_bind (wpAny_setField ho hd (by simp) ?_)
  show wpAny _ _ (newExc (.type "StopIteration") [] >>= _) _ _ _
  refine wpAny_bind ?_
  simp only[newExc,newTuple]
  refine wpAny_bind (wpAny_newObj_type ?_ (by size_fits))
  refine wpAny_bind (m:=firstArgMember _ _) (wpAny_of_eq (a:=Value.none) (by first | rfl | (simp only[firstArgMember];rfl)) ?_)
  refine wpAny_newObj_type ?_ (by size_fits)
  simp only[raiseNew]
  refine wpAny_bind (wpAny_handled ?_)
  rw[show A.in1.handled=none from hh]
  refine wpAny_bind (wpAny_pure (wpAny_throw ?_))
  refine wpAny_bind (wpAny_isInstance (T:="StopIteration") (b:=true) ⟨_,Heap.get?_push_size _ rfl,rfl⟩ isSubtype_stop ?_)
  exact wpAny_pure (h2 hge _ (((Heap.SameBut.update ..).extBut.push _).push _))
theorem walks_keys(hh:A.handled=none)(I d:Addr)(hne:d≠I)(es:Array DictEntry)(ep:Nat) :
  Walks prog w A I [I,d] [I] es.size (fun i v=>(es.toList.map (·.key))[i]?=some v) (fun i h=>h.IsKeyIter I d i es.size ep∧h.get? d=some (lH es ep)) where
 sub:=fun b hb=>by simp at hb;simp[hb]
 frame:=fun _ _ _ st hk=>⟨st.1.at fun o e=>hk I (by simp) o e,hk d (by simp) _ st.2⟩
 item:=fun i s Q E hi st hQ=>oj hh st.1 st.2 (fun _ h' hit' hs'=>hQ _ h' s.toks (by simp[hi]) ⟨hit',(hs'.2 d hne).trans st.2⟩ fun b o hb e=>hs'.extBut b o (fun h=>hb (by simp[h])) e) fun h=>absurd hi (by omega)
 done:=fun s Q E st hQ=>oj hh st.1 st.2 (fun hi=>absurd hi (Nat.lt_irrefl _)) fun _ h' he'=>hQ h' s.toks fun b o hb e=>he' b o (fun h=>hb (by simp[h])) e
 self:=fun _ _ _ _ st hQ=>wpAny_pyIter_keyiter st.1 hQ
end
end Mine
namespace Mine
open PySem PySem.SeqAt

section
variable {prog:Program} {w:World} {A:Around} {E:Value→Shared→Prop} {s:Shared} {H H':Addr→Prop}

inductive oJ(prog:Program)(w:World)(A:Around)(h:Heap)(H:Addr→Prop)(its:List D)(I:Addr)(h₂:Heap):Prop
 | mk {fp P St} (W:Walks prog w A I fp [I] its.length P St) (st:St 0 h₂) (fpo:∀ b∈fp,b=I∨(¬ H b∧∃ o,gat h b=some o)) (item:∀ i v,i<its.length→P i v→∃ d,its[i]?=some d∧Rep w.params h H v d) (live:∀ i h,St i h→∃ o,gat h I=some o) (tab:∀ b∈fp,∀ i h o,St i h→h.get? b=some o→bn o=false)
structure IterAt(prog:Program)(w:World)(A:Around)(s₁:Shared)(H:Addr→Prop)(its:List D)(I:Addr)(s₂:Shared):Prop where
 keeps:bz s₁ s₂
 fresh:gat s₁.heap I=none
 ex:∃ o,gat s₂.heap I=some o
 walk:oJ prog w A s₁.heap H its I s₂.heap
inductive nE(prog:Program)(w:World)(A:Around)(s:Shared)(H:Addr→Prop)(its:List D):Value→Shared→Prop
 | mk {I s₂} (q:IterAt prog w A s H its I s₂):nE prog w A s H its (.ref I) s₂

theorem dB{I:Addr}{fp ch:List Addr}{n:Nat}{P:Nat→Value→Prop}{St:Nat→Heap→Prop}(W:Walks prog w A I fp ch n P St)(hT:∀ b∈fp,∀ i h o,St i h→h.get? b=some o→bn o=false)
  (i:Nat) (h h':Heap) (st:St i h) (hk:∀ b∈fp,∀ o,gat h b=some o→gat h' b=some o):St i h':=
 W.frame i h h' st fun b hb o e=>Heap.of_gt (hk b hb o (Heap.gt_of e (hT b hb i h o st e))) (hT b hb i h o st e)
theorem iS{I:Addr}{fp:List Addr}{n:Nat}{P:Nat→Value→Prop}{St:Nat→Heap→Prop}(W:Walks prog w A I fp [I] n P St)(hT:∀ b∈fp,∀ i h o,St i h→h.get? b=some o→bn o=false)
  {i:Nat} {h h':Heap} (st:St i h) (hk:∀ b o,b ∉ [I]→h.get? b=some o→h'.get? b=some o):∀ b o,b ∉ [I]→gat h b=some o→gat h' b=some o:=
 Heap.gt_lift (fun b o e ht q=>by rw[hT b (W.sub b q) i h o st e] at ht;cases ht) hk

theorem eK{α:Type}{a b x:α}{C:Prop}(h:x∈[a,b])(h1:x=a→C)(h2:x=b→C):C:=(List.mem_cons.mp h).elim h1 fun h=>h2 (List.mem_singleton.mp h)
theorem dE{o:Obj}{T:String}(h:o.cls=.type T)(hT:T≠"code"):bn o=false:=notTab_cls (by rw[h];nofun) fun e=>hT (Value.type.inj (h.symm.trans e))
theorem eS{h:Heap}{a:Addr}{o o':Obj}(e:h.get? a=some o)(e':h.get? a=some o')(ht:bn o=false):bn o'=false:=Option.some.inj (e.symm.trans e')▸ht
theorem sQ{P:Params}{h:Heap}{vs:Array Value}{ds:List D}(hr:aq P h H vs.toList ds){i:Nat}{v:Value}(hi:i<ds.length)(hv:vs[i]?=some v):∃ d,ds[i]?=some d∧Rep P h H v d:=
 (hr.get i (List.getElem?_eq_getElem hi)).elim fun v' q=>⟨_,List.getElem?_eq_getElem hi,Option.some.inj (q.1.symm.trans (Array.getElem?_toList.trans hv))▸q.2⟩
theorem qG{T T':String}{a I:Addr}{mkO:Array Value→Nat→Obj}{vs:Array Value}{n:Nat}{ds:List D}{h h₂:Heap}{P:Nat→Value→Prop}{St:Nat→Heap→Prop}(W:Walks prog w A I [I,a] [I] vs.size P St)(st:St 0 h₂)(hr:aq w.params h H vs.toList ds)(ho:h.get? a=some (mkO vs n))(ht:bn (mkO vs n)=false)(hn:¬ H a)
  (hP:∀ i v,P i v→vs[i]?=some v) (h1:∀ i h,St i h→∃ o,h.get? I=some o∧o.cls=.type T) (h2:∀ i h,St i h→∃ o,h.get? a=some o∧o.cls=.type T') (hT:T≠"code") (hT':T'≠"code"):oJ prog w A h H ds I h₂:=
 ⟨hr.size▸W,st,fun b hb=>eK hb .inl fun e=>.inr (e▸⟨hn,_,Heap.gt_of ho ht⟩),fun i v hi hv=>sQ hr hi (hP i v hv),fun i h st=>(h1 i h st).elim fun o q=>⟨o,Heap.gt_of q.1 (dE q.2 hT)⟩,
  fun b hb i h o st e=>eK hb (fun q=>(h1 i h st).elim fun o' z=>eS (q▸z.1) e (dE z.2 hT)) fun q=>(h2 i h st).elim fun o' z=>eS (q▸z.1) e (dE z.2 hT')⟩
theorem iter_rng{lo hi:Int}{x:Value}(hx:Rep w.params s.heap H x (.rng lo hi))(hh:A.handled=none):wpAny (model prog w) A (pyIter x) (nE prog w A s H ((List.range (hi - lo).toNat).map fun (i:Nat)=>D.int (lo+(i:Int)))) E s:=
 RRng.rec (motive:=fun x _=>wpAny (model prog w) A (pyIter x) (nE prog w A s H ((List.range (hi - lo).toNat).map fun (i:Nat)=>D.int (lo+(i:Int)))) E s) (fun {a t u v} hr hn hl=>by
  have hsm:Builtin.Range.small lo hi 1=true:=by
   unfold big at hl;exact small_one (by omega) (by omega) (by omega) (by omega)
  have hsz:Builtin.Range.rangeSize lo hi 1=((hi - lo).toNat:Int):=by
   rw[rangeSize_one];split <;> omega
  have hlen:((List.range (hi - lo).toNat).map fun (i:Nat)=>D.int (lo+(i:Int))).length=(hi - lo).toNat:=by rw[List.length_map,List.length_range]
  refine wpAny_pyIter_range hr hsm ⟨Kp.push _ _,cA _,⟨_,Heap.gt_push_size _ rfl⟩,hlen.symm▸Walks.range hh s.heap.objs.size lo 1 (hi - lo).toNat,?ga,fun b hb=>.inl (List.mem_singleton.mp hb),fun i v hi q=>q.elim fun t e=>⟨.int (lo+i),?gb,?gc⟩,fun i h e=>⟨_,Heap.gt_of e⟩,fun b hb i h o e1 e=>?gd⟩
  case ga=>
   show Heap.get? _ _=_
   rw[Heap.get?_push_size _ rfl,hsz]
   simp[rawInt]
  case gb=>
   rw[hlen] at hi
   rw[List.getElem?_map,List.getElem?_range hi];rfl
  case gc=>
   rw[e,Int.mul_one]
   exact .mk _
  case gd=>
   rw[List.mem_singleton.mp hb] at e
   exact eS e1 e rfl) hx
theorem mL{x:Value}{d:D}{its:List D}(hx:Rep w.params s.heap H x d)(hh:A.handled=none)(he:d.items=some its) :
  wpAny (model prog w) A (pyIter x) (nE prog w A s H its) E s:=by
 cases d with
 | tup ds=>exact Option.some.inj he▸hx.tupE fun a vs n ho hn hl hr=>wpAny_pyIter_tuple (cx ho) ⟨Kp.push _ _,cA _,⟨_,Heap.gt_push_size _ rfl⟩,qG (T:="tuple_iterator") (T':="tuple") (mkO:=da) (Walks.tuple hh s.heap.objs.size a (Nat.ne_of_lt (Heap.lt_size ho)) vs) ⟨⟨_,Heap.get?_push_size _ rfl,rfl,rfl⟩,(cx ho).push _⟩ hr ho rfl hn (fun _ _ h=>h)
   (fun i h st=>st.1.elim fun o q=>⟨o,q.1,q.2.1⟩) (fun i h st=>st.2.elim fun o q=>⟨o,q.1,q.2.1⟩) (by decide) (by decide)⟩
 | list ds=>exact Option.some.inj he▸hx.listE fun a vs n ho hn hl hr=>wpAny_pyIter_list (aW ho) ⟨Kp.push _ _,cA _,⟨_,Heap.gt_push_size _ rfl⟩,qG (T:="list_iterator") (T':="list") (mkO:=fC) (Walks.list hh s.heap.objs.size a (Nat.ne_of_lt (Heap.lt_size ho)) vs) ⟨⟨_,Heap.get?_push_size _ rfl,rfl,rfl⟩,(aW ho).push _⟩ hr ho rfl hn (fun _ _ h=>h)
   (fun i h st=>st.1.elim fun o q=>⟨o,q.1,q.2.1⟩) (fun i h st=>st.2.elim fun o q=>⟨o,q.1,q.2.1⟩) (by decide) (by decide)⟩
 | dict ks vs=>
  refine Option.some.inj he▸nM.rec (motive:=fun x _=>wpAny (model prog w) A (pyIter x) (nE prog w A s H ks) E s) (fun {a es n} ho hn hl h1 h2 hh' hk hd hs=>?_) hx
  have e:es.size=ks.length:=by have:=h1.length;rwa [List.length_map,Array.length_toList] at this
  refine iter_keys hs ho ⟨Kp.push _ _,cA _,⟨_,Heap.gt_push_size _ rfl⟩,e▸walks_keys hh s.heap.objs.size a (Nat.ne_of_lt (Heap.lt_size ho)) es n,⟨⟨_,Heap.get?_push_size _ rfl,rfl,by rw[← e];rfl⟩,Heap.get?_push_of_some _ ho⟩,
   fun b hb=>eK hb .inl fun e=>.inr (e▸⟨hn,_,Heap.gt_of ho⟩),fun i v hi hv=>(h1.get i (List.getElem?_eq_getElem hi)).elim fun v' q=>⟨_,List.getElem?_eq_getElem hi,Option.some.inj (q.1.symm.trans (show (es.toList.map (·.key))[i]?=some v from hv))▸q.2⟩,
   fun i h st=>st.1.elim fun o q=>⟨o,Heap.gt_of q.1 (dE q.2.1 (by decide))⟩,fun b hb i h o st e=>eK hb (fun q=>st.1.elim fun o' z=>eS (q▸z.1) e (dE z.2.1 (by decide))) fun q=>eS (q▸st.2) e rfl⟩
 | rng lo hi=>exact Option.some.inj he▸iter_rng hx hh
 | _=>exact am he
end
end Mine
namespace Mine
open PySem PySem.SeqAt

structure AOk(A:Around)(n:Nat):Prop where
 handled:A.handled=none
 depth:A.depth+2 * n+20<recursionLimit
 units:A.units+13 * n+100<cLine
structure rB(A A':Around):Prop where
 handled:A'.handled=A.handled
 depth:A'.depth≤A.depth+1
 units:A'.units≤A.units+10
structure nD(A:Around):Prop where
 units:A.units+20<cLine
 depth:A.depth+2<recursionLimit
theorem nD.u2{A:Around}(r:nD A):A.units+2<cLine:=Nat.lt_of_le_of_lt (Nat.add_le_add_left (by decide) _) r.units
theorem nD.u1{A:Around}(r:nD A):A.units+1<cLine:=Nat.lt_of_le_of_lt (Nat.add_le_add_left (by decide) _) r.units
theorem rB.refl(A:Around):rB A A:=⟨rfl,Nat.le_succ _,Nat.le_add_right _ _⟩

structure bp(h:Heap)(env:Env)(m:Str→Option Value):Prop where
 kind:env.scope.kind=.function
 glob:env.globals=mainGlobals
 blt:env.builtins=builtinsNs
 loc:∃ ml,h.Ns env.locals ml∧∀ x,env.kindOf x=some .local→ml x=m x
 cell:∀ x,env.kindOf x=some .cell∨env.kindOf x=some .free→∃ c,env.cells.lookup x=some c∧h.IsCell c (m x)
 inj:∀ x y c,env.cells.lookup x=some c→env.cells.lookup y=some c→x=y
 off:∀ x c,env.cells.lookup x=some c→c≠env.locals
 ex:∀ x c,env.cells.lookup x=some c→∃ o,gat h c=some o
 lam:kG env.kindOf=true→env.code=.ref oc∧env.qual=lamP

theorem Ns.keepAt{h h':Heap}{a:Addr}{m:Str→Option Value}(hn:h.Ns a m)(hk:∀ o,gat h a=some o→gat h' a=some o):h'.Ns a m:=
 let ⟨o,es,ep,ho,hd,r⟩:=hn
 have ht:bn o=false:=bZ (by rw[hd];nofun)
 ⟨o,es,ep,Heap.of_gt (hk _ (Heap.gt_of ho ht)) ht,hd,r⟩
theorem Cell.keepAt{h h':Heap}{a:Addr}{v:Option Value}(hn:h.IsCell a v)(hk:∀ o,gat h a=some o→gat h' a=some o):h'.IsCell a v:=
 let ⟨o,ho,hd⟩:=hn
 have ht:bn o=false:=bZ (by rw[hd];nofun)
 ⟨o,Heap.of_gt (hk _ (Heap.gt_of ho ht)) ht,hd⟩

theorem bp.keeps{h h':Heap}{env:Env}{m:Str→Option Value}(R:bp h env m)(hk:KH h h'):bp h' env m where
 kind:=R.kind
 glob:=R.glob
 blt:=R.blt
 loc:=let ⟨ml,h1,h2⟩:=R.loc;⟨ml,Ns.keepAt h1 (hk _),h2⟩
 cell:=fun x hx=>let ⟨c,h1,h2⟩:=R.cell x hx;⟨c,h1,Cell.keepAt h2 (hk _)⟩
 inj:=R.inj
 off:=R.off
 ex:=fun x c hc=>let ⟨o,ho⟩:=R.ex x c hc;⟨o,hk _ _ ho⟩
 lam:=R.lam

theorem bp.keepsAt{h h':Heap}{env:Env}{m:Str→Option Value}(R:bp h env m)(hk:∀ a o,(a=env.locals∨∃ x,env.cells.lookup x=some a)→gat h a=some o→gat h' a=some o):bp h' env m where
 kind:=R.kind
 glob:=R.glob
 blt:=R.blt
 loc:=let ⟨ml,h1,h2⟩:=R.loc;⟨ml,Ns.keepAt h1 fun o e=>hk _ o (.inl rfl) e,h2⟩
 cell:=fun x hx=>let ⟨c,h1,h2⟩:=R.cell x hx;⟨c,h1,Cell.keepAt h2 fun o e=>hk _ o (.inr ⟨x,h1⟩) e⟩
 inj:=R.inj
 off:=R.off
 ex:=fun x c hc=>let ⟨o,ho⟩:=R.ex x c hc;⟨o,hk _ _ (.inr ⟨x,hc⟩) ho⟩
 lam:=R.lam

section
variable {M:Model} {A:Around} {E:Value→Shared→Prop} {s:Shared}

theorem eT{env:Env}{m:Str→Option Value}{x:Str}{v:Value}{pos:Pos}{Q:Value→Shared→Prop}(R:bp s.heap env m)(hx:fg env.kindOf x=true)(hv:m x=some v)(h:Q v s) :
  wpAny M A (eval (.Name x pos) env) Q E s:=by
 unfold fg at hx
 simp only[Bool.and_eq_true,Bool.or_eq_true,beq_iff_eq,bne_iff_ne] at hx
 obtain⟨⟨⟨hk,hd⟩,hc⟩,_⟩:=hx
 have hd':(x == ("__debug__":Str))=false:=by simpa using hd
 have hc':(x == ("__classdict__":Str))=false:=by simpa using hc
 refine wpAny_Name ?_ hd'
 rcases hk with (hk | hk) | hk
 ·obtain⟨ml,h1,h2⟩:=R.loc
  exact wpAny_loadName_local R.kind hk h1 ((h2 x hk).trans hv) h
 ·obtain⟨c,h1,h2⟩:=R.cell x (.inl hk)
  exact wpAny_loadName_cell R.kind hk h1 (hv▸h2) h
 ·obtain⟨c,h1,h2⟩:=R.cell x (.inr hk)
  exact wpAny_loadName_free R.kind hk h1 (hv▸h2) h hc'

noncomputable def upd(m:Str→Option Value)(x:Str)(v:Value):Str→Option Value:=fun y=>if y=x then some v else m y

theorem iV{env:Env}{m:Str→Option Value}{x:Str}{v:Value}{Q:Unit→Shared→Prop}(R:bp s.heap env m)(hx:env.kindOf x=some .local∨env.kindOf x=some .cell)
  (h:∀ h' tk dw a,bp h' env (upd m x v)→(a=env.locals∨env.cells.lookup x=some a)→Heap.SB a s.heap h'→Q () { s with heap:=h',toks:=tk,drawn:=dw }) :
  wpAny M A (storeName env x v) Q E s:=by
 rcases hx with hk | hk
 ·obtain⟨ml,h1,h2⟩:=R.loc
  refine wpAny_storeName_local hk h1 (fun h' hn hs0=>have hs:Heap.SB env.locals s.heap h':=⟨hs0,eO h1,eO hn⟩;h h' _ s.drawn env.locals ⟨R.kind,R.glob,R.blt,⟨_,hn,fun y hy=>?_⟩,fun y hy=>?_,R.inj,R.off,fun y c hc=>let ⟨o,ho⟩:=R.ex y c hc;⟨o,(hs.g c (R.off y c hc)).trans ho⟩,R.lam⟩ (.inl rfl) hs) (by rw[R.kind];rfl)
  ·unfold upd;by_cases e:y=x
   ·simp[e]
   ·simp[e,h2 y hy]
  ·obtain⟨c,h3,h4⟩:=R.cell y hy
   have hne:y≠x:=by rintro rfl;rw[hk] at hy;simp at hy
   refine⟨c,h3,?_⟩
   unfold upd;rw[if_neg hne]
   exact h4.sameBut hs.s (R.off y c h3)
 ·obtain⟨c,h3,h4⟩:=R.cell x (.inl hk)
  refine wpAny_storeName_cell R.kind hk h3 h4 fun h' hc hs0=>have hs:Heap.SB c s.heap h':=⟨hs0,iu h4,iu hc⟩;h h' s.toks s.drawn c ⟨R.kind,R.glob,R.blt,?_,fun y hy=>?_,R.inj,R.off,fun y c' hc'=>?_,R.lam⟩ (.inr h3) hs
  ·obtain⟨ml,h1,h2⟩:=R.loc
   refine⟨ml,h1.sameBut hs.s (fun e=>R.off x c h3 e.symm),fun y hy=>?_⟩
   have hne:y≠x:=by rintro rfl;rw[hk] at hy;simp at hy
   unfold upd;rw[if_neg hne];exact h2 y hy
  ·obtain⟨c',h5,h6⟩:=R.cell y hy
   by_cases e:y=x
   ·subst e
    rw[h3] at h5;cases h5
    exact⟨c,h3,by simpa [upd] using hc⟩
   ·refine⟨c',h5,?_⟩
    unfold upd;rw[if_neg e]
    exact h6.sameBut hs.s fun q=>e (R.inj y x c' h5 (q▸h3))
  ·by_cases e:c'=c
   ·obtain⟨o,ho⟩:=lU hc;exact⟨_,e▸ho⟩
   ·obtain⟨o,ho⟩:=R.ex y c' hc';exact⟨o,(hs.g c' e).trans ho⟩

noncomputable def e8(cells:List (Str×Addr)):List (Str×NameKind)→List (Str×Addr)→List (Str×Addr)
 | [],acc=>acc
 | (n,k)::r,acc=>if k == .free then (match cells.lookup n with | some c=>e8 cells r ((n,c)::acc) | none=>e8 cells r acc) else e8 cells r acc

theorem jD{env:Env}(f:Str×NameKind→List (Str×Addr)→Sem (ForInStep (List (Str×Addr))))
  (hf:∀ n k cs,f (n,k) cs=if k == .free then (do let c ← cellOf env n;pure (.yield ((n,c)::cs))) else pure (.yield cs)) :
  ∀ (names:List (Str×NameKind)) (acc:List (Str×Addr)),(∀ p∈names,p.2=.free→∃ c,env.cells.lookup p.1=some c)→forIn names acc f=pure (e8 env.cells names acc)
 | [],acc,_=>rfl
 | (n,k)::r,acc,h=>by
  have hr:∀ p∈r,p.2=.free→∃ c,env.cells.lookup p.1=some c:=fun p hp=>h p (List.mem_cons_of_mem _ hp)
  rw[List.forIn_cons,hf]
  unfold e8
  by_cases hk:(k == NameKind.free)=true
  ·obtain⟨c,hc⟩:=h (n,k) List.mem_cons_self (by simpa using hk)
   rw[if_pos hk,if_pos hk]
   unfold cellOf
   simp only at hc
   rw[hc]
   simp only[pure_bind]
   exact jD f hf r _ hr
  ·rw[if_neg hk,if_neg hk,pure_bind]
   exact jD f hf r _ hr

theorem jn{env:Env}{scope:Scope}(h:∀ p∈scope.names,p.2=.free→∃ c,env.cells.lookup p.1=some c):closureFor scope env=pure (e8 env.cells scope.names []):=by
 unfold closureFor
 simp only[]
 rw[jD (env:=env) _ (fun n k cs=>by
  by_cases hk:(k == NameKind.free)=true <;> simp[hk]) scope.names [] h]
 rfl

theorem aQ{α:Type}(x n:Str)(c:α)(l:List (Str×α)):((n,c)::l).lookup x=if x=n then some c else l.lookup x:=by
 rw[List.lookup_cons]
 by_cases h:x=n
 ·simp[h]
 ·have:(x == n)=false:=by simpa using h
  simp[h,this]

theorem e5{cells:List (Str×Addr)}:∀ (names:List (Str×NameKind)) (acc:List (Str×Addr)),(∀ x c,acc.lookup x=some c→cells.lookup x=some c) →
  ∀ x c,(e8 cells names acc).lookup x=some c→cells.lookup x=some c
 | [],acc,h=>h
 | (n,k)::r,acc,h=>by
  unfold e8
  split
  ·cases hc:cells.lookup n with
   | none=>exact e5 r acc h
   | some c=>
    refine e5 r _ fun x c' e=>?_
    rw[aQ] at e
    split at e
    ·rename_i q;cases e;rw[q];exact hc
    ·exact h x c' e
  ·exact e5 r acc h

theorem kk{cells:List (Str×Addr)}:∀ (names:List (Str×NameKind)) (acc:List (Str×Addr)) (x:Str) (c:Addr),(e8 cells names acc).lookup x=some c→(x,NameKind.free)∈names∨acc.lookup x=some c
 | [],acc,x,c,h=>.inr h
 | (n,k)::r,acc,x,c,h=>by
  unfold e8 at h
  split at h
  ·rename_i hk
   have hk':k=.free:=by simpa using hk
   subst hk'
   cases hc:cells.lookup n with
   | none=>rw[hc] at h;exact (kk r acc x c h).imp (.tail _) id
   | some c'=>
    rw[hc] at h
    rcases kk r _ x c h with e | e
    ·exact .inl (.tail _ e)
    ·rw[aQ] at e
     split at e
     ·rename_i q;exact .inl (q▸.head _)
     ·exact .inr e
  ·exact (kk r acc x c h).imp (.tail _) id

theorem gf{cells:List (Str×Addr)}{x:Str}{c:Addr}(hx:cells.lookup x=some c):∀ (names:List (Str×NameKind)) (acc:List (Str×Addr)),
  ((x,NameKind.free)∈names∨acc.lookup x=some c)→(e8 cells names acc).lookup x=some c
 | [],acc,h=>h.elim (fun e=>nomatch e) id
 | (n,k)::r,acc,h=>by
  unfold e8
  split
  ·cases hc:cells.lookup n with
   | none=>
    refine gf hx r acc (h.imp (fun e=>?_) id)
    rcases List.mem_cons.mp e with e | e
    ·cases e;rw[hx] at hc;cases hc
    ·exact e
   | some c'=>
    refine gf hx r _ ?_
    rcases h with e | e
    ·rcases List.mem_cons.mp e with e | e
     ·cases e;rw[hx] at hc;cases hc
      exact .inr (by rw[aQ,if_pos rfl])
     ·exact .inl e
    ·rw[aQ]
     split
     ·rename_i q;rw[← q,hx] at hc;cases hc;exact .inr rfl
     ·exact .inr e
  ·rename_i hk
   refine gf hx r acc (h.imp (fun e=>?_) id)
   rcases List.mem_cons.mp e with e | e
   ·cases e;simp at hk
   ·exact e

theorem bK:∀ (names:List (Str×NameKind)) (n:Nat) (acc:List (Str×Addr)),cellsFrom n names acc=cellsFrom n names []++acc
 | [],_,_=>rfl
 | (x,k)::r,n,acc=>by
  unfold cellsFrom
  split
  ·rw[bK r (n+1) ((x,n)::acc),bK r (n+1) [(x,n)]];simp
  ·exact bK r n acc

theorem fL:∀ (names:List (Str×NameKind)) (n:Nat) (x:Str) (c:Addr),(x,c)∈cellsFrom n names []→(x,NameKind.cell)∈names∧n≤c
 | [],_,_,_,h=>nomatch h
 | (y,k)::r,n,x,c,h=>by
  unfold cellsFrom at h
  split at h
  ·rename_i hk
   rw[bK] at h
   rcases List.mem_append.mp h with h | h
   ·obtain⟨h1,h2⟩:=fL r (n+1) x c h
    exact⟨.tail _ h1,by omega⟩
   ·simp only[List.mem_cons,List.not_mem_nil,or_false,Prod.mk.injEq] at h
    obtain⟨rfl,rfl⟩:=h
    have:k=.cell:=by simpa using hk
    subst this
    exact⟨.head _,Nat.le_refl _⟩
  ·obtain⟨h1,h2⟩:=fL r n x c h
   exact⟨.tail _ h1,h2⟩

theorem en:∀ (names:List (Str×NameKind)) (n:Nat) (x:Str),(x,NameKind.cell)∈names→∃ c,(x,c)∈cellsFrom n names []
 | (y,k)::r,n,x,h=>by
  unfold cellsFrom
  rcases List.mem_cons.mp h with e | e
  ·cases e
   simp only[beq_self_eq_true,if_true]
   rw[bK]
   exact⟨n,List.mem_append_right _ (List.mem_singleton.mpr rfl)⟩
  ·split
   ·obtain⟨c,hc⟩:=en r (n+1) x e
    rw[bK]
    exact⟨c,List.mem_append_left _ hc⟩
   ·exact en r n x e

theorem dq{α:Type}:∀ {l:List (Str×α)} {x:Str} {c:α},(x,c)∈l→∃ c',l.lookup x=some c'
 | (y,d)::r,x,c,h=>by
  rw[aQ]
  split
  ·exact⟨_,rfl⟩
  ·rename_i hne
   rcases List.mem_cons.mp h with e | e
   ·cases e;exact absurd rfl hne
   ·exact dq e

theorem gH{α:Type}(x:Str):∀ (l l':List (Str×α)),(l++l').lookup x=(l.lookup x).or (l'.lookup x)
 | [],l'=>by simp
 | (y,c)::r,l'=>by
  rw[List.cons_append,aQ,aQ,gH x r l']
  split <;> simp
end
end Mine
namespace Mine
open PySem PySem.SeqAt

theorem mD{α β:Type}(g:Str→α→β)(x:Str):∀ (l:List (Str×α)),(l.map fun p=>(p.1,g p.1 p.2)).lookup x=(l.lookup x).map (g x)
 | []=>rfl
 | (y,c)::r=>by
  rw[List.map_cons,aQ,aQ,mD g x r]
  split
  ·rename_i h;subst h;rfl
  ·rfl

theorem j6(k:KD)(scope:Scope)(x:Str):dN k scope x=(scope.names.lookup x).map fun q=>if q == .free&&k x == some .cell then .cell else q:=by
 unfold dN
 rw[← mD (fun n q=>if q == NameKind.free&&k n == some .cell then NameKind.cell else q) x scope.names]
 congr 1
 refine List.map_congr_left fun p _=>?_
 by_cases h:(p.2 == NameKind.free&&k p.1 == some .cell)=true
 ·simp[h]
 ·simp[h]

theorem gC{env:Env}{scope:Scope}(hk:env.scope.kind=.function):(fun x=>(relabel scope env).names.lookup x)=dN env.kindOf scope:=by
 funext x
 unfold relabel dN
 simp only[hk]
 congr 1
 refine List.map_congr_left fun p _=>?_
 obtain⟨a,b⟩:=p
 simp

section
variable {M:Model} {A:Around} {E:Value→Shared→Prop} {s:Shared}
theorem newEnvA{scope:Scope}{globals:Addr}{cl:List (Str×Addr)}{qual:Str}{env:Env}{Q:Env→Shared→Prop}
  (h:Q { scope,locals:=s.heap.objs.size,globals,cells:=cellsFrom (s.heap.objs.size+1) scope.names cl,qual,func:=none,code:=env.code,frame:=env.frame,builtins:=env.builtins }
   {s with heap:=pushCells (s.heap.push { cls:=.type "dict",data:=.dict #[] }) scope.names }) :
  wpAny M A (newFunctionEnv scope globals cl [] qual none .none (some env)) Q E s:=by
 simp only[newFunctionEnv,Option.isSome_some,if_true]
 refine wpAny_bind (wpAny_alloc ?_)
 refine wpAny_bind (wpAny_layCells _ (fun name kind cells=>by cases hkc:kind == NameKind.cell <;> simp[hkc]) _ _ _ _ ?_)
 rw[show ({ s with heap:=s.heap.push { cls:=.type "dict",data:=.dict #[] } }:Shared).heap.objs.size=s.heap.objs.size+1 from Heap.size_push ..]
 exact wpAny_pure h
end

theorem lB(h:Heap)(scope:Scope)(o:Obj) :
  CellsOk (pushCells (h.push o) scope.names) (h.objs.size+1) (cellsFrom (h.objs.size+1) scope.names []):=by
 have ok:=cellsFrom_ok scope.names (h.push o) (h.objs.size+1) [] ⟨fun _ _ hm=>(nomatch hm),List.Pairwise.nil⟩ (by rw[Heap.size_push];exact Nat.le_refl _)
 rwa [Heap.size_push] at ok

theorem jv{l:List (Str×NameKind)}(hn:(l.map (·.1)).Nodup){x:Str}{k:NameKind}(h:(x,k)∈l):l.lookup x=some k:=by
 induction l with
 | nil=>nomatch h
 | cons q l ih=>
  have hn:=List.nodup_cons.mp hn
  refine (aQ x q.1 q.2 l).trans ((List.mem_cons.mp h).elim (fun e=>by rw[← e,if_pos rfl]) fun e=>?_)
  rw[if_neg (show ¬ x=q.1 from fun z=>hn.1 (show q.1∈l.map (·.1) from z▸List.mem_map_of_mem (f:=(·.1)) e))]
  exact ih hn.2 e
theorem d7{names:List (Str×NameKind)}{cells:List (Str×Addr)}{n:Nat}{x:Str}{c:Addr}(hn:(names.map (·.1)).Nodup)(hc:(cellsFrom n names (e8 cells names [])).lookup x=some c):(x,c)∈cellsFrom n names []∨(names.lookup x=some .free∧cells.lookup x=some c):=by
 rw[bK,gH] at hc
 cases hq:(cellsFrom n names []).lookup x with
 | some c'=>rw[hq] at hc;exact .inl (Option.some.inj hc▸mem_of_lookup hq)
 | none=>
  rw[hq,Option.none_or] at hc
  exact .inr ⟨jv hn ((kk names [] _ _ hc).elim id fun q=>am q),e5 names [] (fun _ _ e=>am e) x c hc⟩
theorem iq{k:KD}{scope:Scope}{x:Str}{C:Prop}(h:gF k scope x=true)(c:scope.kind=.function→(scope.names.map (·.1)).Nodup→(scope.names.lookup x=some .local∨scope.names.lookup x=some .cell)→(∀ p∈scope.names,p.2=.free→k p.1=some .cell∨k p.1=some .free)→(∀ p∈scope.names,((p.2=.free∨p.2=.globalImplicit)∨p.1=x)∨p.1=Str.ofString ".0")→kG (dN k scope)=false→C):C:=by
 refine and6 h fun h1 h2 h3 h4 h5 h6=>c (eq_of_beq h1) (of_decide_eq_true h2) ((Bool.or_eq_true_iff.mp h3).imp eq_of_beq eq_of_beq) (fun p hp e=>?_) (fun p hp=>?_) (by simpa using h6)
 ·have q:=List.all_eq_true.mp h4 p hp
  rw[e,bne_self_eq_false,Bool.false_or] at q
  exact (Bool.or_eq_true_iff.mp q).imp eq_of_beq eq_of_beq
 ·have q:=List.all_eq_true.mp h5 p hp
  simpa only [Bool.or_eq_true,beq_iff_eq] using q
theorem own_none{names:List (Str×NameKind)}{n:Nat}{x:Str}(hn:(names.map (·.1)).Nodup)(hx:names.lookup x=some .free):(cellsFrom n names []).lookup x=none:=by
 cases hc:(cellsFrom n names []).lookup x with
 | none=>rfl
 | some c=>exact nomatch hx.symm.trans (jv hn (fL _ _ _ _ (mem_of_lookup hc)).1)
theorem kindC_free{k:KD}{scope:Scope}{x:Str}(h:scope.names.lookup x=some .free):dN k scope x≠some .local:=by
 rw[j6,h]
 show some (if _ then _ else _)≠_
 split <;> nofun
theorem kindC_inv{k:KD}{scope:Scope}{x:Str}(h:dN k scope x=some .cell∨dN k scope x=some .free):scope.names.lookup x=some .free∨scope.names.lookup x=some .cell:=by
 rw[j6] at h
 cases hq:scope.names.lookup x with
 | none=>rw[hq] at h;exact h.elim (fun h=>nomatch h) fun h=>nomatch h
 | some q=>
  rw[hq] at h
  have h:some (if (q == .free&&k x == some .cell)=true then NameKind.cell else q)=some .cell∨some (if (q == .free&&k x == some .cell)=true then NameKind.cell else q)=some .free:=h
  by_cases hc:(q == .free&&k x == some .cell)=true
  ·exact .inl (congrArg some (eq_of_beq (Bool.and_eq_true_iff.mp hc).1))
  ·rw[if_neg hc] at h;exact h.symm
theorem compEnv_rep{h:Heap}{env:Env}{m:Str→Option Value}{scope:Scope}{y:Str}(R:bp h env m)(hok:gF env.kindOf scope y=true) :
  bp (pushCells (h.push { cls:=.type "dict",data:=.dict #[] }) scope.names)
   {scope:=relabel scope env,locals:=h.objs.size,globals:=env.globals,cells:=cellsFrom (h.objs.size+1) scope.names (e8 env.cells scope.names []),qual:=env.qual,func:=none,code:=env.code,frame:=env.frame,builtins:=env.builtins }
   (fun x=>if scope.names.lookup x=some .free then m x else none):=by
 refine iq hok fun hkind hnd hy hfree _ hord=>?_
 have ok:=lB h scope { cls:=.type "dict",data:=.dict #[] }
 have keep:KH h (pushCells (h.push { cls:=.type "dict",data:=.dict #[] }) scope.names):=fun b o e=>Heap.gt_up (pushCells_keeps _ _) b o (Heap.gt_push_of_some _ e)
 have hk:∀ x k,(relabel scope env).names.lookup x=k→dN env.kindOf scope x=k:=fun x k e=>(congrFun (gC (scope:=scope) R.kind) x).symm.trans e
 have out_lt:∀ x c,env.cells.lookup x=some c→@LT.lt Nat _ c h.objs.size:=fun x c hc=>(R.ex x c hc).elim fun o ho=>Heap.gt_lt ho
 have own_ge:∀ x c,(x,c)∈cellsFrom (h.objs.size+1) scope.names []→@LT.lt Nat _ h.objs.size c:=fun x c hc=>(ok.empty x c hc).2
 have apart:∀ {x z c} {C:Prop},(x,c)∈cellsFrom (h.objs.size+1) scope.names []→env.cells.lookup z=some c→C:=fun h1 h2=>absurd (Nat.lt_trans (own_ge _ _ h1) (out_lt _ _ h2)) (Nat.lt_irrefl _)
 refine⟨hkind,R.glob,R.blt,⟨fun _=>none,(Heap.Ns.new h (.type "dict")).keeps (pushCells_keeps _ _),fun x hx=>?_⟩,fun x hx=>?_,fun x z c h1 h2=>?_,fun x c h1 e=>?_,fun x c h1=>?_,fun ho=>?_⟩
 ·exact (if_neg fun e=>kindC_free e (hk x _ hx)).symm
 ·refine (kindC_inv (hx.imp (hk x _) (hk x _))).elim (fun e=>?_) fun e=>?_
  ·have hm:=mem_of_lookup e
   refine (R.cell x (hfree _ hm rfl)).elim fun c q=>⟨c,?_,?_⟩
   ·show (cellsFrom _ _ _).lookup x=some c
    rw[bK,gH,own_none hnd e]
    exact gf q.1 scope.names [] (.inl hm)
   ·rw[if_pos e];exact Cell.keepAt q.2 (keep _)
  ·refine (en scope.names (h.objs.size+1) x (mem_of_lookup e)).elim fun c hc=>(dq hc).elim fun c' hc'=>⟨c',?_,?_⟩
   ·show (cellsFrom _ _ _).lookup x=some c'
    rw[bK,gH,hc'];rfl
   ·rw[if_neg (by rw[e];nofun)]
    exact (ok.empty x c' (mem_of_lookup hc')).1
 ·exact (d7 hnd h1).elim (fun e1=>(d7 hnd h2).elim (fun e2=>name_of_addr ok.apart e1 e2) fun e2=>apart e1 e2.2) fun e1=>(d7 hnd h2).elim (fun e2=>apart e2 e1.2) fun e2=>R.inj x z c e1.2 e2.2
 ·exact (d7 hnd h1).elim (fun e1=>Nat.lt_irrefl _ (e▸own_ge x c e1)) fun e1=>Nat.lt_irrefl _ (e▸out_lt x c e1.2)
 ·exact (d7 hnd h1).elim (fun e1=>lU (ok.empty x c e1).1) fun e1=>(R.ex x c e1.2).elim fun o ho=>⟨o,keep _ _ ho⟩
 ·have ho:kG (fun x=>(relabel scope env).names.lookup x)=true:=ho
  rw[gC R.kind,hord] at ho;cases ho
end Mine
namespace Mine
open PySem PySem.SeqAt

theorem d6(f:D→Option (Option D))(x:D)(l:List D):bO f (x::l)=(f x).bind fun o=>(bO f l).map fun ds=>match o with | Option.none=>ds | some d=>d::ds:=by
 show (match f x with | Option.none=>Option.none | some o=>match bO f l with | Option.none=>Option.none | some ds=>_)=_
 cases f x with
 | none=>rfl
 | some o=>cases bO f l <;> rfl
theorem compM_snoc(f:D→Option (Option D))(l:List D)(x:D):bO f (l++[x])=(bO f l).bind fun ds=>(f x).map fun o=>match o with | Option.none=>ds | some d=>ds++[d]:=by
 induction l with
 | nil=>
  rw[List.nil_append,d6]
  cases f x with
  | none=>rfl
  | some o=>cases o <;> rfl
 | cons y l ih=>
  rw[List.cons_append,d6,d6,ih]
  cases f y with
  | none=>rfl
  | some o=>
   cases bO f l with
   | none=>rfl
   | some ds=>
    cases f x with
    | none=>rfl
    | some o'=>cases o' <;> cases o <;> rfl
theorem compM_pre{f:D→Option (Option D)}{a b:List D}{out:List D}(h:bO f (a++b)=some out):∃ o,bO f a=some o:=by
 induction a generalizing out with
 | nil=>exact⟨[],rfl⟩
 | cons x a ih=>
  rw[List.cons_append,d6] at h
  rw[d6]
  exact ir h fun o hx h=>bB h fun ds hab _=>(ih hab).elim fun o' e=>by rw[hx,e];exact⟨_,rfl⟩
theorem oy{f:D→Option (Option D)}{a:List D}{out:List D}(h:bO f a=some out):out.length≤a.length:=by
 induction a generalizing out with
 | nil=>cases h;exact Nat.le_refl _
 | cons x a ih=>
  rw[d6] at h
  refine ir h fun o hx h=>bB h fun ds hab e=>?_
  subst e
  cases o with
  | none=>exact Nat.le_succ_of_le (ih hab)
  | some d=>exact Nat.succ_le_succ (ih hab)
theorem compM_next{f:D→Option (Option D)}{done rest out o:List D}{d:D}(h:bO f (done++d::rest)=some out)(ho:bO f done=some o):∃ r,f d=some r∧bO f (done++[d])=some (match r with | some x=>o++[x] | Option.none=>o):=by
 rw[show done++d::rest=(done++[d])++rest from List.append_cons ..] at h
 refine (compM_pre h).elim fun o' e=>?_
 rw[compM_snoc,ho] at e ⊢
 refine bB e fun r hr _=>⟨r,hr,?_⟩
 rw[hr]
 cases r <;> rfl
theorem jk{e:Expr}{env:Env}(h:d3 e=true):∀ x,foldedSetIterable e env x=pure x:=by
 intro x
 cases e with
 | Set=>cases h
 | _=>rfl
theorem jW{e:Expr}{op:CmpOp}(h:d3 e=true):behindInMarks op e=false:=by
 cases e with
 | Set=>cases h
 | _=>rfl
noncomputable abbrev Mv(c:Addr)(h h':Heap):Prop:=∀ b o,b≠c→gat h b=some o→gat h' b=some o
section
variable {P:Params} {h1 h h':Heap} {H F:Addr→Prop} {c I L:Addr}
theorem sG(Ff:∀ b,F b→gat h1 b=none)(Fc:F c)(k:KH h1 h)(m:Mv c h h'):KH h1 h':=fun b o e=>m b o (fun q=>bR e (q▸Ff c Fc)) (k b o e)
theorem pe(Fc:F c)(m:Mv c h h'){l:List Value}{ds:List D}(r:aq P h (fun b=>H b∨F b) l ds):aq P h' (fun b=>H b∨F b) l ds:=r.mono (fun b o hn e=>m b o (fun q=>hn (.inr (q▸Fc))) e) fun _ _ _ q=>q
noncomputable abbrev FX(F:Addr→Prop)(I:Addr)(h:Heap):Prop:=∀ b,F b→b≠I→∃ o,gat h b=some o
theorem uu(m:Mv c h h')(hc:c≠I→∃ o,gat h' c=some o)(fx:FX F I h):FX F I h':=fun b hb hI=>(Classical.em (b=c)).elim (fun e=>e▸hc (e▸hI)) fun e=>(fx b hb hI).elim fun o q=>⟨o,m b o e q⟩
theorem ut(m:Mv c h h')(hne:L≠c){ys:Array Value}(a:h.PlainList L ys):h'.PlainList L ys:=a.elim fun n e=>⟨n,Heap.of_gt (m L _ hne (Heap.gt_of e))⟩
theorem kh_mv(k:KH h h'):Mv c h h':=fun b o _ e=>k b o e
theorem uj(s:Heap.SB c h h'):Mv c h h':=fun b _ n e=>(s.g b n).trans e
end
section
variable {prog:Program} {w:World} {A:Around} {E:Value→Shared→Prop} {s:Shared} {H:Addr→Prop}

inductive rE(P:Params)(h1:Heap)(H F:Addr→Prop)(I L:Addr)(its:List D)(St:Nat→Heap→Prop)(f:D→Option (Option D))(cenv:Env)(m:Str→Option Value)(free:Str→Prop)(s:Shared)(k:Nat):Shared→Prop
 | mk {h tk dw done rest o ys mC} (dr:its=done++rest) (st:St done.length h) (acc:h.PlainList L ys) (out:bO f done=some o) (rep:aq P h (fun b=>H b∨F b) ys.toList o) (env:bp h cenv mC) (fv:∀ x,free x→mC x=m x) (kh:KH h1 h)
  (fx:FX F I h) (kn:k=rest.length+1):rE P h1 H F I L its St f cenv m free s k { s with heap:=h,toks:=tk,drawn:=dw }
theorem wp_kp{α:Type}{M:Model}{c:Sem α}{b:α}{X:Shared→Prop}{Q:α→Shared→Prop}(hq:wpAny M A c (fun ok s'=>bz s s'∧ok=b∧X s') E s)(k:∀ h tk dw,KH s.heap h→X { s with heap:=h,toks:=tk,drawn:=dw }→Q b { s with heap:=h,toks:=tk,drawn:=dw }):wpAny M A c Q E s:=
 bj hq fun ok s' q=>bz.rec (motive:=fun s' _=>X s'→Q ok s') (fun h tk dw hk x=>q.2.1▸k h tk dw hk x) q.1 q.2.2
theorem oN{M:Model}{c:Sem Value}{d:D}{Q:Value→Shared→Prop}(hq:wpAny M A c (bh w s H d) E s)(k:∀ v h tk dw,KH s.heap h→Rep w.params h H v d→Q v { s with heap:=h,toks:=tk,drawn:=dw }):wpAny M A c Q E s:=
 bj hq fun v s' q=>bz.rec (motive:=fun s' _=>Rep w.params s'.heap H v d→Q v s') (fun h tk dw hk x=>k v h tk dw hk x) q.k q.r
noncomputable def vk(prog:Program)(w:World)(A:Around)(s:Shared)(H:Addr→Prop)(its:List D)(f:D→Option (Option D))(m:Str→Option Value)(free:Str→Prop)(y:Str)(elt:Expr)(ifs:List Expr)(cenv:Env):Prop:=
 ∀ (s₂:Shared) (mC:Str→Option Value) (H₂:Addr→Prop) (v:Value) (dv:D) (r:Option D),dv∈its→f dv=some r→bp s₂.heap cenv mC→mC y=some v→Rep w.params s₂.heap H₂ v dv →
  (∀ x,free x→mC x=m x)→Ex s₂.heap H₂→bz s s₂→pQ s.heap H H₂→∀ E':Value→Shared→Prop,
  wpAny (model prog w) A (forIn ifs true fun c r=>if r=true then do let ok ← isTrue c cenv (eval c cenv);pure (ForInStep.yield ok) else pure (ForInStep.yield r))
   (fun ok s₃=>bz s₂ s₃∧ok=r.isSome∧∀ dr,r=some dr→wpAny (model prog w) A (eval elt cenv) (bh w s₃ H₂ dr) E' s₃) E' s₂
structure vm(h1:Heap)(H F:Addr→Prop)(I L:Addr)(cenv:Env)(y:Str):Prop where
 FI:F I
 FL:F L
 FC:F cenv.locals
 Fy:∀ c,cenv.cells.lookup y=some c→F c
 nIL:I≠L
 nIC:I≠cenv.locals
 nLC:L≠cenv.locals
 ncell:∀ x c,cenv.cells.lookup x=some c→c≠L∧c≠I
 Ff:∀ b,F b→gat h1 b=none
 IC:@LE.le Nat _ I cenv.locals
 hH:Ex h1 H
theorem st_mv{h1 h h':Heap}{F:Addr→Prop}{I c:Addr}{its:List D}{fp:List Addr}{P:Nat→Value→Prop}{St:Nat→Heap→Prop}(W:Walks prog w A I fp [I] its.length P St)(hfp:∀ b∈fp,b=I∨(¬ H b∧∃ o,gat h1 b=some o))(hT:∀ b∈fp,∀ i h o,St i h→h.get? b=some o→bn o=false)
  (Ff:∀ b,F b→gat h1 b=none) (Fc:F c) (hne:c≠I) (m:Mv c h h') {i:Nat} (st:St i h):St i h':=
 dB W hT i h h' st fun b hb o e=>m b o (fun q=>(hfp b hb).elim (fun z=>hne (q▸z)) fun z=>z.2.elim fun o' e'=>bR e' (q▸Ff c Fc)) e
theorem comp_turn{cenv:Env}{m:Str→Option Value}{free:Str→Prop}{y:Str}{py:Pos}{elt:Expr}{ifs:List Expr}{its out:List D}{f:D→Option (Option D)}
  {I L:Addr} {fp:List Addr} {P:Nat→Value→Prop} {St:Nat→Heap→Prop} {F:Addr→Prop} {h1 h:Heap} {tk:Nat} {dw:Drawn} {NE:Value→Shared→Prop}
  (W:Walks prog w A I fp [I] its.length P St) (hfp:∀ b∈fp,b=I∨(¬ H b∧∃ o,gat h1 b=some o)) (hP:∀ i v,i<its.length→P i v→∃ d,its[i]?=some d∧Rep w.params h1 H v d)
  (hT:∀ b∈fp,∀ i h o,St i h→h.get? b=some o→bn o=false) (hky:cenv.kindOf y=some .local∨cenv.kindOf y=some .cell) (hyf:¬ free y) (Z:vm h1 H F I L cenv y) (k01:KH s.heap h1)
  (hlen:its.length≤big) (hout:bO f its=some out) (helt:vk prog w A s H its f m free y elt ifs cenv)
  {done rest o:List D} {dv:D} {ys:Array Value} {mC:Str→Option Value} {k:Nat} (dr:its=done++dv::rest) (st:St done.length h) (acc:h.PlainList L ys) (ho:bO f done=some o) (rep:aq w.params h (fun b=>H b∨F b) ys.toList o) (env:bp h cenv mC) (fv:∀ x,free x→mC x=m x) (kh:KH h1 h) (fx:FX F I h) (kn:k=(dv::rest).length+1)
  {R:Shared→Prop} :
  wpAny (model prog w) A (pyNext (.ref I)) (fun r s₁=>match r with
   | none=>R s₁
   | some v=>wpAny (model prog w) A (assign (.Name y py) cenv v) (fun _ s₂=>
     wpAny (model prog w) A (forIn ifs true fun c r=>if r=true then do let ok ← isTrue c cenv (eval c cenv);pure (ForInStep.yield ok) else pure (ForInStep.yield r)) (fun ok s₃=>
      if ok=true then wpAny (model prog w) A (eval elt cenv) (fun x s₄=>
       wpAny (model prog w) A (call (.builtin "list.append") [.ref L,x]) (fun _ s₅=>∃ m',m'<k∧rE w.params h1 H F I L its St f cenv m free s m' s₅) NE s₄) NE s₃
      else ∃ m',m'<k∧rE w.params h1 H F I L its St f cenv m free s m' s₃) NE s₂) NE s₁) NE { s with heap:=h,toks:=tk,drawn:=dw }:=by
 refine Z.rec fun FI FL FC Fy nIL nIC nLC ncell Ff IC hH=>?_
 clear Z
 have hlt:done.length<its.length:=by rw[dr,List.length_append];exact Nat.lt_add_of_pos_right (Nat.succ_pos _)
 refine W.item done.length _ _ _ hlt st fun v h₁ tk₁ hPv st₁ hk₁=>?_
 have m1:Mv I h h₁:=fun b o hb e=>iS W hT st hk₁ b o (fun q=>hb (List.mem_singleton.mp q)) e
 have nfr:∀ b,(b=cenv.locals∨∃ x,cenv.cells.lookup x=some b)→b≠I∧b≠L:=fun b hb=>hb.elim (fun e=>e▸⟨nIC.symm,nLC.symm⟩) fun q=>q.elim fun x e=>⟨(ncell x b e).2,(ncell x b e).1⟩
 refine wpAny_assign_Name (iV (s:={ s with heap:=h₁,toks:=tk₁,drawn:=dw }) (env.keepsAt fun a o' ha e=>m1 a o' (nfr a ha).1 e) hky fun h₂ tk₂ dw₂ a RC₂ ha hs₂=>?_)
 have na:=nfr a (ha.imp id fun e=>⟨y,e⟩)
 have Fa:F a:=ha.elim (fun e=>e▸FC) (Fy a)
 have m2:=uj hs₂
 have k2:KH h1 h₂:=sG Ff Fa (sG Ff FI kh m1) m2
 have st₂:St (done.length+1) h₂:=st_mv W hfp hT Ff Fa na.1 m2 st₁
 have fx₂:FX F I h₂:=uu m2 (fun _=>ha.elim (fun e=>RC₂.loc.elim fun _ q=>e▸qT q.1) fun e=>RC₂.ex y a e) (uu m1 (fun q=>absurd rfl q) fx)
 have hmem:dv∈its:=by rw[dr];exact List.mem_append_right _ (.head _)
 have rep₂:=pe Fa m2 (pe FI m1 rep)
 have acc₂:=ut m2 na.2.symm (ut m1 nIL.symm acc)
 have fv₂:∀ x,free x→upd mC y v x=m x:=fun x hx=>(if_neg (show ¬ x=y from fun e=>hyf (e▸hx))).trans (fv x hx)
 have ex₂:Ex h₂ (fun b=>H b∨F b):=fun b hb=>hb.elim (fun q=>(hH b q).elim fun b' z=>z.elim fun o' z=>⟨b',o',z.1,k2 _ _ z.2⟩) fun q=>(Classical.em (b=I)).elim (fun e=>(fx₂ _ FC nIC.symm).elim fun o' z=>⟨_,o',e▸IC,z⟩) fun e=>(fx₂ b q e).elim fun o' z=>⟨b,o',Nat.le_refl _,z⟩
 have lss:pQ h1 H fun b=>H b∨F b:=fun b o' e q=>q.elim id fun q=>bR e (Ff b q)
 have rv:Rep w.params h₂ (fun b=>H b∨F b) v dv:=(hP _ v hlt hPv).elim fun d q=>by
  have e:d=dv:=by
   have e1:=q.1
   rw[dr,List.getElem?_append_right (Nat.le_refl _),Nat.sub_self] at e1
   exact (Option.some.inj e1).symm
  exact e▸q.2.mono (fun b o' _ e=>k2 b o' e) lss
 have lt:rest.length+1<k:=by rw[kn];exact Nat.lt_succ_self _
 have dr':its=(done++[dv])++rest:=dr.trans (List.append_cons ..)
 have sl:(done++[dv]).length=done.length+1:=List.length_append
 rw[dr] at hout
 refine (compM_next hout ho).elim fun r q=>wp_kp (s:={ s with heap:=h₂,toks:=tk₂,drawn:=dw₂ }) (helt { s with heap:=h₂,toks:=tk₂,drawn:=dw₂ } (upd mC y v) (fun b=>H b∨F b) v dv r hmem q.1 RC₂ (if_pos rfl) rv fv₂ ex₂ (.mk h₂ tk₂ dw₂ fun b o' e=>k2 b o' (k01 b o' e)) (fun b o' e=>lss b o' (k01 b o' e)) _) fun h₃ tk₃ dw₃ k23 he3=>?_
 have m3:Mv L h₂ h₃:=kh_mv k23
 have st₃:St (done.length+1) h₃:=dB W hT _ _ h₃ st₂ fun b _ o' e=>k23 b o' e
 cases r with
 | none=>exact⟨rest.length+1,lt,.mk dr' (sl▸st₃) (acc₂.elim fun n e=>⟨n,Heap.of_gt (k23 _ _ (Heap.gt_of e))⟩) q.2 (rep₂.keeps k23) (RC₂.keeps k23) fv₂ (fun b o' e=>k23 _ _ (k2 b o' e)) (fun b hb hbI=>(fx₂ b hb hbI).elim fun o' e=>⟨o',k23 _ _ e⟩) rfl⟩
 | some dr₀=>
  refine oN (s:={ s with heap:=h₃,toks:=tk₃,drawn:=dw₃ }) (he3 dr₀ rfl) fun x h₄ tk₄ dw₄ k34 rx=>?_
  have k24:KH h₂ h₄:=fun b o' e=>k34 b o' (k23 b o' e)
  have hacc₄:h₄.PlainList L ys:=acc₂.elim fun n e=>⟨n,Heap.of_gt (k24 _ _ (Heap.gt_of e))⟩
  refine wpAny_list_append_plain hacc₄ (fun h₅ hl₅ hs₅'=>?_) (by
   rw[rep.size]
   exact Nat.le_of_lt (Nat.lt_of_le_of_lt (oy ho) (Nat.lt_of_lt_of_le hlt hlen)))
  have m5:Mv L h₄ h₅:=uj ⟨hs₅',hacc₄.elim fun _ e=>bH e,hl₅.elim fun _ e=>bH e⟩
  refine⟨rest.length+1,lt,.mk dr' (sl▸st_mv W hfp hT Ff FL nIL.symm m5 (dB W hT _ _ h₄ st₂ fun b _ o' e=>k24 b o' e)) hl₅ q.2 ?_ ((RC₂.keeps k24).keepsAt fun b o' hb e=>m5 b o' (nfr b hb).2 e) fv₂ (sG Ff FL (fun b o' e=>k24 b o' (k2 b o' e)) m5) (uu m5 (fun _=>hl₅.elim fun _ e=>⟨_,Heap.gt_of e⟩) fun b hb hbI=>(fx₂ b hb hbI).elim fun o' e=>⟨o',k24 _ _ e⟩) rfl⟩
  rw[Array.toList_push]
  exact pe FL m5 ((rep₂.keeps k24).append (.cons rx rfl))
theorem comp_loop{cenv:Env}{m mC0:Str→Option Value}{free:Str→Prop}{y:Str}{py pos:Pos}{it elt:Expr}{ifs:List Expr}{scope:Scope}{R:Result→Shared→Prop}{its out:List D}{f:D→Option (Option D)}
  {I L:Addr} {F:Addr→Prop} {h1 h4:Heap} {tk4:Nat} {dw4:Drawn}
  (IW:oJ prog w A h1 H its I h4) (hky:cenv.kindOf y=some .local∨cenv.kindOf y=some .cell) (hyf:¬ free y) (Z:vm h1 H F I L cenv y)
  (hacc:h4.PlainList L #[]) (RC:bp h4 cenv mC0) (hfv:∀ x,free x→mC0 x=m x) (Fx:FX F I h4) (k01:KH s.heap h1) (k14:KH h1 h4)
  (hlen:its.length≤big) (hout:bO f its=some out) (helt:vk prog w A s H its f m free y elt ifs cenv)
  (hR:∀ h' tk dw m',h'.Ns cenv.locals m'→gU w.params h' (fun b=>H b∨F b) L out→(KH s.heap h')→R (.ok .next) { s with heap:=h',toks:=tk,drawn:=dw }) :
  codeAny (model prog w) A (.compLoop (.ListComp elt [⟨.Name y py,it,ifs,0⟩] scope pos) 0 (.ref I) (.ref L) cenv) R { s with heap:=h4,toks:=tk4,drawn:=dw4 }:=by
 refine IW.rec fun {fp P St} W hst hfp hP _ hT=>?_
 refine codeAny_compLoop_tests (rE w.params h1 H F I L its St f cenv m free s) (fun k s' q=>?_) (its.length+1) (.mk (done:=[]) (rest:=its) (o:=[]) (ys:=#[]) rfl hst hacc rfl rfl RC hfv k14 Fx rfl)
 clear hst hacc RC hfv k14 Fx IW
 refine rE.rec (motive:=fun s' _=>wpAny (model prog w) A (pyNext (.ref I)) _ _ s') (fun {h tk dw done rest o ys mC} dr st acc ho rep env fv kh fx kn=>?_) q
 cases rest with
 | cons dv rest=>exact comp_turn W hfp hP hT hky hyf Z k01 hlen hout helt dr st acc ho rep env fv kh fx kn
 | nil=>
  rw[List.append_nil] at dr
  subst dr
  refine W.done _ _ _ st fun h' tk' hk'=>?_
  have m1:Mv I h h':=fun b o hb e=>iS W hT st hk' b o (fun q=>hb (List.mem_singleton.mp q)) e
  refine env.loc.elim fun ml hns=>hR h' tk' dw ml (Ns.keepAt hns.1 fun o e=>m1 _ o Z.nIC.symm e) ?_ fun b o e=>sG Z.Ff Z.FI kh m1 b o (k01 b o e)
  rw[hout] at ho
  cases ho
  exact (ut m1 Z.nIL.symm acc).elim fun n e=>⟨e,Nat.le_trans (oy hout) hlen,(pe Z.FI m1 rep).mono (fun _ _ _ e=>e) fun a o' _ q=>q.elim id fun q=>.inr (q▸Z.FL)⟩
theorem lN{M:Model}{c:Sem Value}{its:List D}{Q:Value→Shared→Prop}{sx:Shared}(hq:wpAny M A c (nE prog w A s H its) E sx)
  (k:∀ I h tk dw,KH s.heap h→gat s.heap I=none→(∃ o,gat h I=some o)→oJ prog w A s.heap H its I h→Q (.ref I) { s with heap:=h,toks:=tk,drawn:=dw }):wpAny M A c Q E sx:=
 bj hq fun v s' q=>q.rec fun {I s₂} q=>bz.rec (motive:=fun s' _=>(∃ o,gat s'.heap I=some o)→oJ prog w A s.heap H its I s'.heap→Q (.ref I) s') (fun h tk dw hk x y=>k I h tk dw hk q.fresh x y) q.keeps q.ex q.walk
theorem comp_core{env:Env}{m:Str→Option Value}{scope:Scope}{y:Str}{py pos ppos:Pos}{it elt:Expr}{ifs:List Expr}{use:Option (Value→Sem Unit)}{Q:Value→Shared→Prop}{d:D}{its out:List D}{f:D→Option (Option D)}
  (R:bp s.heap env m) (hok:gF env.kindOf scope y=true) (hset:d3 it=true) (hh:A.handled=none) (hH:Ex s.heap H)
  (hit:wpAny (model prog w) A (eval it env) (bh w s H d) E s) (hits:d.items=some its) (hlen:its.length≤big) (hout:bO f its=some out)
  (helt:∀ cenv:Env,cenv.kindOf=dN env.kindOf scope→vk prog w A s H its f m (fun x=>scope.names.lookup x=some .free) y elt ifs cenv)
  (hQ:∀ L C h' tk dw m',(∀ b o,gat s.heap b=some o→@LT.lt Nat _ b L)→gat s.heap C=none→L≠C→h'.Ns C m'→gU w.params h' (fun b=>H b∨b=C) L out→(KH s.heap h') →
   compPost (model prog w) A E use Q (.ref L) C (.ok .next) { s with heap:=h',toks:=tk,drawn:=dw }) :
  wpAny (model prog w) A (comprehension (.ListComp elt [⟨.Name y py,it,ifs,0⟩] scope pos) scope env ppos (newList []) false (eval it env) use) Q E s:=by
 refine iq hok fun hkind hnodup hy hfree _ _=>?_
 refine wpAny_comprehension_free (cl:=e8 env.cells scope.names []) rfl (jk hset) (jn fun p hp hf=>(R.cell p.1 (hfree p hp hf)).elim fun c q=>⟨c,q.1⟩) hkind (fun x hx hl=>by rw[jv hnodup (k:=x.2) hx,hl]) ?_
 refine oN hit fun xv h1 tk1 dw1 k01 rep1=>lN (mL (s:={ s with heap:=h1,toks:=tk1,drawn:=dw1 }) (prog:=prog) (E:=E) rep1 hh hits) fun I h2 tk2 dw2 k12 fresh ex IW=>wpAny_newObj_type (newEnvA ?_)
 dsimp only at fresh IW k12 ⊢
 generalize hh3:h2.push { cls:=.type "list",dict:=none,data:=.seq ([]:List Value).toArray }=h3
 have k23:KH h2 h3:=fun b o e=>hh3▸Heap.gt_push_of_some _ e
 have R1:=R.keeps k01
 have RC:=compEnv_rep (y:=y) ((R1.keeps k12).keeps k23) hok
 have size3:@Eq Nat h3.objs.size (h2.objs.size+1):=by rw[← hh3,Heap.size_push]
 have hL3:h3.get? h2.objs.size=some (fC #[] 0):=by rw[← hh3];exact Heap.get?_push_size _ rfl
 clear hh3
 have I_lt:@LT.lt Nat _ I h2.objs.size:=ex.elim fun _ q=>Heap.gt_lt q
 have ok:=lB h3 scope { cls:=.type "dict",data:=.dict #[] }
 have k34:KH h3 (pushCells (h3.push { cls:=.type "dict",data:=.dict #[] }) scope.names):=fun b o e=>Heap.gt_up (pushCells_keeps _ _) b o (Heap.gt_push_of_some _ e)
 have lt1:∀ b o,gat h1 b=some o→@LT.lt Nat _ b h2.objs.size:=fun b o e=>Heap.gt_lt (k12 b o e)
 have own_ge:∀ x c,(x,c)∈cellsFrom (h3.objs.size+1) scope.names []→@LT.lt Nat _ h3.objs.size c:=fun x c hc=>(ok.empty x c hc).2
 have L_lt:@LT.lt Nat _ h2.objs.size h3.objs.size:=size3▸Nat.lt_succ_self _
 have nFr:∀ b o,gat h1 b=some o→b≠I:=fun b o e q=>bR e (q▸fresh)
 have Z:vm h1 H (fun b=>b=I∨b=h2.objs.size∨b=h3.objs.size∨∃ x,(x,b)∈cellsFrom (h3.objs.size+1) scope.names []) I h2.objs.size
   {scope:=relabel scope env,locals:=h3.objs.size,globals:=env.globals,cells:=cellsFrom (h3.objs.size+1) scope.names (e8 env.cells scope.names []),qual:=env.qual,func:=none,code:=env.code,frame:=env.frame,builtins:=env.builtins } y:=by
  refine⟨.inl rfl,.inr (.inl rfl),.inr (.inr (.inl rfl)),fun c hc=>?_,Nat.ne_of_lt I_lt,Nat.ne_of_lt (Nat.lt_trans I_lt L_lt),Nat.ne_of_lt L_lt,fun x c hc=>?_,fun b hb=>?_,Nat.le_of_lt (Nat.lt_trans I_lt L_lt),hH.keeps k01⟩
  ·exact (d7 hnodup hc).elim (fun e=>.inr (.inr (.inr ⟨y,e⟩))) fun q=>absurd q.1 (hy.elim (fun e=>e▸nofun) fun e=>e▸nofun)
  ·exact (d7 hnodup hc).elim (fun e=>⟨(Nat.ne_of_lt (Nat.lt_trans L_lt (own_ge x c e))).symm,(Nat.ne_of_lt (Nat.lt_trans (Nat.lt_trans I_lt L_lt) (own_ge x c e))).symm⟩) fun q=>(R1.ex x c q.2).elim fun o e=>⟨Nat.ne_of_lt (lt1 c o e),nFr c o e⟩
  ·cases e:gat h1 b with
   | none=>rfl
   | some o=>
    have l:=lt1 b o e
    exact hb.elim (fun q=>absurd q (nFr b o e)) fun hb=>hb.elim (fun q=>absurd (q▸l) (Nat.lt_irrefl _)) fun hb=>hb.elim (fun q=>absurd (Nat.lt_trans (q▸l) L_lt) (Nat.lt_irrefl _)) fun hb=>hb.elim fun x hx=>absurd (Nat.lt_trans (own_ge x b hx) (Nat.lt_trans l L_lt)) (Nat.lt_irrefl _)
 have hkC:(fun x=>(relabel scope env).names.lookup x)=dN env.kindOf scope:=gC R.kind
 have loop:∀ tk4 dw4,codeAny (model prog w) A (.compLoop (.ListComp elt [⟨.Name y py,it,ifs,0⟩] scope pos) 0 (.ref I) (.ref h2.objs.size)
   {scope:=relabel scope env,locals:=h3.objs.size,globals:=env.globals,cells:=cellsFrom (h3.objs.size+1) scope.names (e8 env.cells scope.names []),qual:=env.qual,func:=none,code:=env.code,frame:=env.frame,builtins:=env.builtins })
   (compPost (model prog w) A E use Q (.ref h2.objs.size) h3.objs.size) { s with heap:=pushCells (h3.push { cls:=.type "dict",data:=.dict #[] }) scope.names,toks:=tk4,drawn:=dw4 }:=fun tk4 dw4=>by
  refine comp_loop (s:=s) (H:=H) (m:=m) (free:=fun x=>scope.names.lookup x=some .free) (IW.rec fun W st a b c d=>⟨W,dB W d _ _ _ st fun b _ o e=>k34 b o (k23 b o e),a,b,c,d⟩) ?_ (hy.elim (fun e=>e▸nofun) fun e=>e▸nofun) Z ⟨0,Heap.of_gt (k34 _ _ (Heap.gt_of hL3))⟩ RC (fun x hx=>if_pos hx) (fun b hb hbI=>?_) k01 (fun b o e=>k34 b o (k23 b o (k12 b o e))) hlen hout (helt _ hkC) fun h' tk dw m' hns hown hk=>?_
  ·show (fun x=>(relabel scope env).names.lookup x) y=_∨(fun x=>(relabel scope env).names.lookup x) y=_
   rw[hkC,j6]
   exact hy.imp (fun e=>by rw[e];rfl) fun e=>by rw[e];rfl
  ·exact hb.elim (fun q=>absurd q hbI) fun hb=>hb.elim (fun q=>⟨_,q▸k34 _ _ (Heap.gt_of hL3)⟩) fun hb=>hb.elim (fun q=>RC.loc.elim fun _ e=>q▸qT e.1) fun hb=>hb.elim fun x hx=>lU (ok.empty x b hx).1
  ·exact hQ h2.objs.size h3.objs.size h' tk dw m' (fun b o e=>lt1 _ o (k01 _ o e)) (jX k01 (Z.Ff _ Z.FC)) (Nat.ne_of_lt L_lt) hns (hown.mono (fun _ e=>e) (fun _ _ _ e=>e) fun a o _ q=>.inl (q.imp id fun q=>.inr (.inr (.inl q)))) hk
 exact codeAny_compStart_list (loop _ _) (IW.rec fun W st a b c d=>W.self 0 _ _ _ (dB W d _ _ _ st fun b _ o e=>k34 b o (k23 b o e)) (loop _ _))
end
end Mine
namespace Mine
open PySem PySem.SeqAt

noncomputable def cD:List String:=["len","isinstance","range","tuple","int","str","list","bool","set","sum","max","min","sorted","reversed"]

structure GOk(mg mb:Str→Option Value)(h:Heap):Prop where
 g:h.Ns mainGlobals mg
 b:h.Ns builtinsNs mb
 lim:h.NoLimit
 blt:∀ f∈cD,mg (Str.ofString f)=none∧mb (Str.ofString f)=some (cZ f)
 lam:h.IsCode oc tb #[]∧h.TableAt oc tb #[]∧h.BuiltinsAt mg tb

structure HOk(base h:Heap)(H:Addr→Prop):Prop where
 keep:KH base h
 ex:Ex h H
 off:∀ b o,gat base b=some o→¬ H b
theorem HOk.keeps{base h h':Heap}{H:Addr→Prop}(x:HOk base h H)(hk:KH h h'):HOk base h' H:=
 ⟨fun b o e=>hk b o (x.keep b o e),x.ex.keeps hk,x.off⟩

theorem NoLimit.keepG{h h':Heap}(x:h.NoLimit)(hk:KH h h'):h'.NoLimit:=let ⟨mc,h1,h2⟩:=x;⟨mc,Ns.keepAt h1 (hk _),h2⟩
structure dU(prog:Program)(w:World)(base:Heap)(mg:Str→Option Value)(cf:CF)(A:Around):Prop where
 call:∀ f ds d fr,cf.call f ds=some (d,fr)→∃ a o fd,mg (Str.ofString f)=some (.ref a)∧gat base a=some o∧o.data=.func fd ∧
  ∀ A',rB A A'→∀ (s:Shared) (H:Addr→Prop) (vs:List Value) (E:Value→Shared→Prop),HOk base s.heap H→aq w.params s.heap H vs ds →
   wpAny (model prog w) A' (PySem.call (.ref a) vs) (bX w s H d fr) E s
 glob:∀ x d,cf.glob x=some d→∃ v,mg (Str.ofString x)=some v∧Rep w.params base (fun _=>False) v d

noncomputable def CS0(prog:Program)(w:World)(base:Heap)(mg:Str→Option Value)(cf:CF)(A:Around):Prop:=∀ f ds d fr,cf.call f ds=some (d,fr)→∃ a o fd,mg (Str.ofString f)=some (.ref a)∧gat base a=some o∧o.data=.func fd ∧
  ∀ (s:Shared) (H:Addr→Prop) (vs:List Value) (E:Value→Shared→Prop),HOk base s.heap H→aq w.params s.heap H vs ds →
   wpAny (model prog w) A (PySem.call (.ref a) vs) (bX w s H d fr) E s
theorem dU.at{prog:Program}{w:World}{base:Heap}{mg:Str→Option Value}{cf:CF}{A A':Around}(C:dU prog w base mg cf A)(hN:rB A A'):CS0 prog w base mg cf A':=
 fun f ds d fr h=>(C.call f ds d fr h).elim fun a q=>q.elim fun o q=>q.elim fun fd q=>⟨a,o,fd,q.1,q.2.1,q.2.2.1,q.2.2.2 A' hN⟩
noncomputable def NV(P:Params)(k:KD)(ns:List String)(ρ:List (String×D))(m:Str→Option Value)(h:Heap)(H:Addr→Prop):Prop:=
 ∀ x∈ns,fg k (Str.ofString x)=true→∀ d,ρ.lookup x=some d→∃ v,m (Str.ofString x)=some v∧Rep P h H v d
structure Cc(w:World)(base:Heap)(s:Shared)(env:Env)(H:Addr→Prop)(ρ:List (String×D))(m:Str→Option Value)(ns:List String):Prop where
 R:bp s.heap env m
 hw:HOk base s.heap H
 hn:NV w.params env.kindOf ns ρ m s.heap H

section
variable {prog:Program} {w:World} {A:Around} {s s':Shared} {base:Heap} {mg mb:Str→Option Value} {cf:CF} {env:Env} {H:Addr→Prop} {ρ:List (String×D)} {m:Str→Option Value} {ns ns':List String} {e:Expr} {E:Value→Shared→Prop} {a b:ME} {d:D} {C:Prop}
theorem Cc.k(c:Cc w base s env H ρ m ns)(k:bz s s'):Cc w base s' env H ρ m ns:=⟨c.R.keeps (Kp.heap k),c.hw.keeps (Kp.heap k),fun x hx hv d hd=>(c.hn x hx hv d hd).elim fun v q=>⟨v,q.1,q.2.keeps (Kp.heap k)⟩⟩
theorem Cc.sub(c:Cc w base s env H ρ m ns)(hs:∀ x∈ns',x∈ns):Cc w base s env H ρ m ns':=⟨c.R,c.hw,fun x hx=>c.hn x (hs x hx)⟩
theorem Cc.l(c:Cc w base s env H ρ m (ns++ns')):Cc w base s env H ρ m ns:=c.sub fun _=>List.mem_append_left _
theorem Cc.r(c:Cc w base s env H ρ m (ns++ns')):Cc w base s env H ρ m ns':=c.sub fun _=>List.mem_append_right _
theorem Cc.x(c:Cc w base s env H ρ m ns):Ex s.heap H:=c.hw.ex

noncomputable def SE(prog:Program)(w:World)(A:Around)(base:Heap)(cf:CF)(me:ME):Prop:=
 ∀ (s:Shared) (env:Env) (e:Expr) (H:Addr→Prop) (ρ:List (String×D)) (m:Str→Option Value) (d:D) (E:Value→Shared→Prop),aG env.kindOf e me=true→Cc w base s env H ρ m me.names→evE cf ρ me=some d→wpAny (model prog w) A (eval e env) (bh w s H d) E s
inductive vd(w:World)(s:Shared)(H:Addr→Prop)(ds:List D)(vs:List Value)(s':Shared):Prop
 | mk (k:bz s s') (r:aq w.params s'.heap H vs ds)
noncomputable def SEs(prog:Program)(w:World)(A:Around)(base:Heap)(cf:CF)(ms:List ME):Prop:=
 ∀ (s:Shared) (env:Env) (es:List Expr) (H:Addr→Prop) (ρ:List (String×D)) (m:Str→Option Value) (ds:List D) (E:Value→Shared→Prop),bW env.kindOf es ms=true→Cc w base s env H ρ m (gG ms)→bV cf ρ ms=some ds →
  wpAny (model prog w) A (spliced (es.map fun e=>(false,eval e env))) (vd w s H ds) E s
noncomputable def ST(prog:Program)(w:World)(A:Around)(base:Heap)(cf:CF)(me:ME):Prop:=
 ∀ (s:Shared) (env:Env) (e:Expr) (H:Addr→Prop) (ρ:List (String×D)) (m:Str→Option Value) (d:D) (t:Bool) (E:Value→Shared→Prop),aG env.kindOf e me=true→Cc w base s env H ρ m me.names→evE cf ρ me=some d→bE d=some t →
  wpAny (model prog w) A (isTrue e env (eval e env)) (dR s t) E s
noncomputable def SB(prog:Program)(w:World)(A:Around)(base:Heap)(cf:CF)(ms:List ME):Prop:=
 ∀ (s:Shared) (env:Env) (es:List Expr) (op:BoolOp) (pos:Pos) (H:Addr→Prop) (ρ:List (String×D)) (m:Str→Option Value) (d:D) (E:Value→Shared→Prop),bW env.kindOf es ms=true→Cc w base s env H ρ m (gG ms)→fh cf ρ op ms=some d →
  wpAny (model prog w) A (eval (.BoolOp op es pos) env) (bh w s H d) E s∧∀ t whole,bE d=some t→wpAny (model prog w) A (isTrue (.BoolOp op es pos) env whole) (dR s t) E s
noncomputable def SC(prog:Program)(w:World)(A:Around)(base:Heap)(cf:CF)(ms:List ME):Prop:=
 ∀ (s:Shared) (env:Env) (es:List Expr) (H:Addr→Prop) (ρ:List (String×D)) (m:Str→Option Value) (t:Bool) (E:Value→Shared→Prop),bW env.kindOf es ms=true→Cc w base s env H ρ m (gG ms)→lG cf ρ ms=some t →
  wpAny (model prog w) A (forIn es true fun c r=>if r=true then do let ok ← isTrue c env (eval c env);pure (ForInStep.yield ok) else pure (ForInStep.yield r)) (dR s t) E s
noncomputable def SF(prog:Program)(w:World)(A:Around)(base:Heap)(cf:CF)(me:ME):Prop:=
 ∀ (s:Shared) (env:Env) (e:Expr) (H:Addr→Prop) (ρ:List (String×D)) (m:Str→Option Value) (d:D) (fr:Bool) (E:Value→Shared→Prop),aG env.kindOf e me=true→Cc w base s env H ρ m me.names→evF cf ρ me=some (d,fr)→wpAny (model prog w) A (eval e env) (bX w s H d fr) E s
theorem SE.go{Q:Value→Shared→Prop}(ha:SE prog w A base cf a)(hc:aG env.kindOf e a=true)(c:Cc w base s env H ρ m a.names)(he:evE cf ρ a=some d)(k:∀ v s₁,bh w s H d v s₁→Q v s₁):wpAny (model prog w) A (eval e env) Q E s:=bj (ha s env e H ρ m d E hc c he) k

theorem evi_bin{op:Operator}(h:evE cf ρ (.bin op a b)=some d)(k:∀ x y,evE cf ρ a=some x→evE cf ρ b=some y→dQ op x y=some d→C):C:=bk (a:=evE cf ρ a) (f:=fun x=>oE (evE cf ρ b) (dQ op x)) h fun x hx h=>bk h fun y hy h=>k x y hx hy h
theorem tu{op:CmpOp}(h:evE cf ρ (.cmp op a b)=some d)(k:∀ x y,evE cf ρ a=some x→evE cf ρ b=some y→eG op x y=some d→C):C:=bk (a:=evE cf ρ a) (f:=fun x=>oE (evE cf ρ b) (eG op x)) h fun x hx h=>bk h fun y hy h=>k x y hx hy h
theorem evi_sub(h:evE cf ρ (.sub a b)=some d)(k:∀ x y,evE cf ρ a=some x→evE cf ρ b=some y→a9 x y=some d→C):C:=bk (a:=evE cf ρ a) (f:=fun x=>oE (evE cf ρ b) (a9 x)) h fun x hx h=>bk h fun y hy h=>k x y hx hy h
theorem tq(h:evE cf ρ (.not a)=some d)(k:∀ x t,evE cf ρ a=some x→bE x=some t→.bool (!t)=d→C):C:=bk (a:=evE cf ρ a) (f:=fun x=>(bE x).map fun t=>D.bool (!t)) h fun x hx h=>bB h fun t ht e=>k x t hx ht e
theorem evi_neg(h:evE cf ρ (.neg a)=some d)(k:∀ i,evE cf ρ a=some (.int i)→.int (-i)=d→C):C:=bk (a:=evE cf ρ a) (f:=fun x=>onI x fun i=>some (D.int (-i))) h fun x hx h=>dh (C:=fun x=>evE cf ρ a=some x→C) h (fun i e hx=>k i hx (Option.some.inj e)) hx
theorem evi_tup{es:List ME}(h:evE cf ρ (.tup es)=some d)(k:∀ ds,bV cf ρ es=some ds→ds.length≤big→.tup ds=d→C):C:=ed (a:=bV cf ρ es) (f:=fun ds=>if ds.length≤big then some (D.tup ds) else Option.none) h fun x hx h=>aZ h fun hl e=>k x hx hl e
theorem evi_lst{es:List ME}(h:evE cf ρ (.lst es)=some d)(k:∀ ds,bV cf ρ es=some ds→ds.length≤big→.list ds=d→C):C:=ed (a:=bV cf ρ es) (f:=fun ds=>if ds.length≤big then some (D.list ds) else Option.none) h fun x hx h=>aZ h fun hl e=>k x hx hl e
theorem evi_sl{l u:ME}(h:evE cf ρ (.sl a l u)=some d)(k:∀ x y z,evE cf ρ a=some x→evE cf ρ l=some y→evE cf ρ u=some z→slD x y z=some d→C):C:=bk (a:=evE cf ρ a) (f:=fun x=>oE (evE cf ρ l) fun y=>oE (evE cf ρ u) fun z=>slD x y z) h fun x hx h=>bk h fun y hy h=>bk h fun z hz h=>k x y z hx hy hz h
theorem evi_isi{T:String}(h:evE cf ρ (.isi a T)=some d)(k:∀ x t,evE cf ρ a=some x→mM x T=some t→.bool t=d→C):C:=bk (a:=evE cf ρ a) (f:=fun x=>(mM x T).map D.bool) h fun x hx h=>bB h fun t ht e=>k x t hx ht e
theorem evi_lcp(h:evE cf ρ (.lcp a)=some d)(k:∀ x ds,evE cf ρ a=some x→qB x=some ds→.list ds=d→C):C:=bk (a:=evE cf ρ a) (f:=fun x=>(qB x).map D.list) h fun x hx h=>bB h fun t ht e=>k x t hx ht e
theorem evi_inn(h:evE cf ρ (.inn a)=some d)(k:∀ x,evE cf ρ a=some (.str x)→.int (pv x)=d→C):C:=bk (a:=evE cf ρ a) (f:=innD) h fun y hy h=>lQ (C:=fun y=>evE cf ρ a=some y→C) h (fun x e hy=>k x hy (Option.some.inj e)) hy
theorem evi_sset(h:evE cf ρ (.sset a)=some d)(k:∀ x,evE cf ρ a=some x→md x=some d→C):C:=bk (a:=evE cf ρ a) (f:=md) h k
theorem tv{f:String}{es:List ME}(h:evE cf ρ (.blt f es)=some d)(k:∀ ds,bV cf ρ es=some ds→gt f ds=some d→C):C:=ed (a:=bV cf ρ es) (f:=gt f) h k
theorem evi_callF{f:String}{es:List ME}{r:D×Bool}(h:evF cf ρ (.call f es)=some r)(k:∀ ds,bV cf ρ es=some ds→cf.call f ds=some r→C):C:=ed (a:=bV cf ρ es) (f:=cf.call f) h k
theorem evi_call{f:String}{es:List ME}(h:evE cf ρ (.call f es)=some d)(k:∀ ds r,bV cf ρ es=some ds→cf.call f ds=some r→r.1=d→C):C:=ed (a:=bV cf ρ es) (f:=fun ds=>(cf.call f ds).map fun (r:D×Bool)=>r.1) h fun x hx h=>bB h fun r hr e=>k x r hx hr e
theorem qY{es:List ME}{ds:List D}(h:bV cf ρ (a::es)=some ds)(k:∀ x xs,evE cf ρ a=some x→bV cf ρ es=some xs→x::xs=ds→C):C:=bk (a:=evE cf ρ a) (f:=fun x=>oEs (bV cf ρ es) fun xs=>some (x::xs)) h fun x hx h=>ed h fun y hy h=>k x y hx hy (Option.some.inj h)
noncomputable def pX(op:BoolOp):Bool:=match op with | .And=>false | .Or=>true
theorem evi_bop{op:BoolOp}{es:List ME}(h:fh cf ρ op (a::b::es)=some d)(k:∀ x t,evE cf ρ a=some x→bE x=some t→(if t=pX op then some x else fh cf ρ op (b::es))=some d→C):C:=bk (a:=evE cf ρ a) (f:=fun x=>oT (bE x) fun t=>if t=pX op then some x else fh cf ρ op (b::es)) h fun x hx h=>rO h fun y hy h=>k x y hx hy h
theorem evi_cs{es:List ME}{t:Bool}(h:lG cf ρ (a::es)=some t)(k:∀ x u,evE cf ρ a=some x→bE x=some u→(if u=true then lG cf ρ es else some false)=some t→C):C:=bk (a:=evE cf ρ a) (f:=fun x=>oT (bE x) fun u=>if u=true then lG cf ρ es else some false) h fun x hx h=>rO h fun y hy h=>k x y hx hy h
theorem eL{fr:Bool}(h:evF cf ρ a=some (d,fr))(h0:lR a=none)(k:evE cf ρ a=some d→frF a d=fr→C):C:=by
 unfold evF at h
 rw[h0] at h
 exact bB h fun d' e q=>k (e.trans (congrArg some (Prod.mk.inj q).1)) ((Prod.mk.inj q).1▸(Prod.mk.inj q).2)

theorem rN(x:String):SE prog w A base cf (.var x):=fun s env e H ρ m d E hc c he=>
 rD.rec (motive:=fun e _=>wpAny (model prog w) A (eval e env) (bh w s H d) E s) (fun hv=>(c.hn x (.head _) hv d he).elim fun v q=>eT c.R hv q.1 ⟨Kp.refl _,q.2⟩) (gL hc)
theorem se_glob(G:GOk mg mb base)(C:dU prog w base mg cf A)(x:String):SE prog w A base cf (.glob x):=fun s env e H ρ m d E hc c he=>
 vf.rec (motive:=fun e _=>wpAny (model prog w) A (eval e env) (bh w s H d) E s) (fun hg=>(C.glob x d he).elim fun v q=>Calls.Name_function_global c.R.kind (eP hg).1 (Calls.loadGlobal_global (mg:=mg) (c.R.glob▸Ns.keepAt G.g (c.hw.keep _)) q.1 ⟨Kp.refl _,q.2.mono (fun a o _ e=>c.hw.keep a o e) fun a o e q=>absurd q (c.hw.off a o e)⟩) (by simpa using (eP hg).2)) (qN hc)
theorem se_int(i:Int):SE prog w A base cf (.int i):=fun s env e H ρ m d E hc c he=>
 fO.rec (motive:=fun e _=>wpAny (model prog w) A (eval e env) (bh w s H d) E s) (Option.some.inj he▸wpAny_Constant_int fT) (sZ hc)
theorem se_str(i:String):SE prog w A base cf (.str i):=fun s env e H ρ m d E hc c he=>
 fO.rec (motive:=fun e _=>wpAny (model prog w) A (eval e env) (bh w s H d) E s) (Option.some.inj he▸Calls.Constant_str n9) (sT hc)
theorem se_bool(i:Bool):SE prog w A base cf (.bool i):=fun s env e H ρ m d E hc c he=>
 fO.rec (motive:=fun e _=>wpAny (model prog w) A (eval e env) (bh w s H d) E s) (Option.some.inj he▸PyProof.Rows.Constant_bool jd) (qO hc)
theorem se_none:SE prog w A base cf .none:=fun s env e H ρ m d E hc c he=>
 fO.rec (motive:=fun e _=>wpAny (model prog w) A (eval e env) (bh w s H d) E s) (Option.some.inj he▸PyProof.Rows.Constant_none ⟨Kp.refl _,rfl⟩) (qM hc)

noncomputable def ME.plain:ME→Bool
 | .not _ | .bop _ _ | .cmp _ _ _=>false
 | _=>true
noncomputable def ME.isComp(e:ME):Bool:=decide (e.ctorIdx=16)
structure Looks(me:ME)(e:Expr):Prop where
 star:∀ es env,starEach (e::es) env=(false,eval e env)::starEach es env
 test:me.plain=true→∀ env whole,isTrue e env whole=(do let v ← whole;standAt e.pos;holding [v] (truthy v))
 swap:me.isComp=false→∀ t l env,swapsWith e t l env=pure false
theorem qC{k:KD}{e:Expr}{me:ME}(h:aG k e me=true):Looks me e:=by
 cases me with
 | var=>exact (gL h).rec fun _=>⟨fun _ _=>rfl,fun _ _ _=>rfl,fun _ _ _ _=>rfl⟩
 | glob=>exact (qN h).rec fun _=>⟨fun _ _=>rfl,fun _ _ _=>rfl,fun _ _ _ _=>rfl⟩
 | int=>exact (sZ h).rec ⟨fun _ _=>rfl,fun _ _ _=>rfl,fun _ _ _ _=>rfl⟩
 | str=>exact (sT h).rec ⟨fun _ _=>rfl,fun _ _ _=>rfl,fun _ _ _ _=>rfl⟩
 | bool=>exact (qO h).rec ⟨fun _ _=>rfl,fun _ _ _=>rfl,fun _ _ _ _=>rfl⟩
 | none=>exact (qM h).rec ⟨fun _ _=>rfl,fun _ _ _=>rfl,fun _ _ _ _=>rfl⟩
 | bin=>exact (s8 h).rec fun _ _=>⟨fun _ _=>rfl,fun _ _ _=>rfl,fun _ _ _ _=>rfl⟩
 | cmp=>exact (pt h).rec fun _ _ _=>⟨fun _ _=>rfl,nofun,fun _ _ _ _=>rfl⟩
 | bop=>exact (pu h).rec fun _=>⟨fun _ _=>rfl,nofun,fun _ _ _ _=>rfl⟩
 | not=>exact (pq h).rec fun _=>⟨fun _ _=>rfl,nofun,fun _ _ _ _=>rfl⟩
 | neg=>exact (sV h).rec fun _=>⟨fun _ _=>rfl,fun _ _ _=>rfl,fun _ _ _ _=>rfl⟩
 | tup=>exact (sS h).rec fun _=>⟨fun _ _=>rfl,fun _ _ _=>rfl,fun _ _ _ _=>rfl⟩
 | lst=>exact (sW h).rec fun _=>⟨fun _ _=>rfl,fun _ _ _=>rfl,fun _ _ _ _=>rfl⟩
 | dct=>exact (s5 h).rec fun _ _=>⟨fun _ _=>rfl,fun _ _ _=>rfl,fun _ _ _ _=>rfl⟩
 | sub=>exact (lS h).rec fun _ _ _=>⟨fun _ _=>rfl,fun _ _ _=>rfl,fun _ _ _ _=>rfl⟩
 | sl=>exact (uI h).rec fun _ _ _=>⟨fun _ _=>rfl,fun _ _ _=>rfl,fun _ _ _ _=>rfl⟩
 | comp=>exact (mO h).rec fun _ _ _ _ _=>⟨fun _ _=>rfl,fun _ _ _=>rfl,nofun⟩
 | call=>exact (j9 h).rec fun _ _=>⟨fun _ _=>rfl,fun _ _ _=>rfl,fun _ _ _ _=>rfl⟩
 | blt=>exact (s7 h).rec fun _ _=>⟨fun _ _=>rfl,fun _ _ _=>rfl,fun _ _ _ _=>rfl⟩
 | isi=>exact (sY h).rec fun _ _ _=>⟨fun _ _=>rfl,fun _ _ _=>rfl,fun _ _ _ _=>rfl⟩
 | lcp=>exact (sX h).rec fun _ _=>⟨fun _ _=>rfl,fun _ _ _=>rfl,fun _ _ _ _=>rfl⟩
 | sset=>exact (qL h).rec fun _ _=>⟨fun _ _=>rfl,fun _ _ _=>rfl,fun _ _ _ _=>rfl⟩
 | srt=>exact (sU h).rec fun _ _ _=>⟨fun _ _=>rfl,fun _ _ _=>rfl,fun _ _ _ _=>rfl⟩
 | inn=>exact (s4 h).rec fun _ _=>⟨fun _ _=>rfl,fun _ _ _=>rfl,fun _ _ _ _=>rfl⟩
theorem gg{k:KD}{es:List Expr}{ms:List ME}{C:List Expr→Prop}(h:bW k es (a::ms)=true)(c:∀ e es,aG k e a=true→bW k es ms=true→C (e::es)):C es:=by
 cases es with
 | nil=>cases h
 | cons e es=>exact bG h (c e es)
theorem nj{k:KD}{es:List Expr}{C:List Expr→Prop}(h:bW k es []=true)(c:C []):C es:=je h c
theorem fQ{k:KD}{e:Expr}{a:ME}(h:aG k e a=true){es:List Expr}{env:Env}:starEach (e::es) env=(false,eval e env)::starEach es env:=(qC h).star es env
theorem eR{es:List Expr}{ms:List ME}{k:KD}(hc:bW k es ms=true)(env:Env):starEach es env=es.map fun e=>(false,eval e env):=by
 induction ms generalizing es with
 | nil=>exact nj (C:=fun es=>starEach es env=es.map fun e=>(false,eval e env)) hc rfl
 | cons a r ih=>exact gg (C:=fun es=>starEach es env=es.map fun e=>(false,eval e env)) hc fun e es h1 h2=>(fQ h1).trans (congrArg _ (ih h2))
theorem gv(pos:Pos)(es:List Expr)(env:Env):backTo pos (es.map fun e=>(false,eval e env))=es.map fun e=>(false,eval e env):=List.map_map

theorem sf_bin{op:Operator}(ha:SE prog w A base cf a)(hb:SE prog w A base cf b):SF prog w A base cf (.bin op a b):=fun s env e H ρ m d fr E hc c he=>
 eL he rfl fun he hf=>evi_bin he fun x y hx hy hd=>IBin.rec (motive:=fun e _=>wpAny (model prog w) A (eval e env) (bX w s H d fr) E s) (fun h1 h2=>wpAny_BinOp (ha.go h1 c.l hx fun v s₁ q₁=>hb.go h2 (c.r.k q₁.k) hy fun v₂ s₂ q₂=>
  have k:=Kp.trans q₁.k q₂.k
  bj (bin_snd (q₁.r.keeps (Kp.heap q₂.k)) q₂.r (c.k k).x hd) fun v₃ s₃ q₃=>hf▸q₃.tr k)) (s8 hc)
theorem ug{op:CmpOp}(hu:A.units+2<cLine)(ha:SE prog w A base cf a)(hb:SE prog w A base cf b):SE prog w A base cf (.cmp op a b):=fun s env e H ρ m d E hc c he=>
 tu he fun x y hx hy hd=>ICmp.rec (motive:=fun e _=>wpAny (model prog w) A (eval e env) (bh w s H d) E s) (fun hs h1 h2=>wpAny_Compare1 (ha.go h1 c.l hx fun v s₁ q₁=>hb.go h2 (c.r.k q₁.k) hy fun v₂ s₂ q₂=>
  bj (tA (q₁.r.keeps (Kp.heap q₂.k)) q₂.r hu hd) fun v₃ s₃ q₃=>q₃.tr (Kp.trans q₁.k q₂.k)) (jW hs)) (pt hc)
theorem st_cmp{op:CmpOp}(hu:A.units+2<cLine)(ha:SE prog w A base cf a)(hb:SE prog w A base cf b):ST prog w A base cf (.cmp op a b):=fun s env e H ρ m d t E hc c he ht=>
 tu he fun x y hx hy hd=>ICmp.rec (motive:=fun e _=>wpAny (model prog w) A (isTrue e env (eval e env)) (dR s t) E s) (fun hs h1 h2=>wpAny_isTrue_Compare1 (ha.go h1 c.l hx fun v s₁ q₁=>hb.go h2 (c.r.k q₁.k) hy fun v₂ s₂ q₂=>
  bj (tA (q₁.r.keeps (Kp.heap q₂.k)) q₂.r hu hd) fun v₃ s₃ q₃=>bj (fP q₃.r ht) fun v₄ s₄ q₄=>q₄.tr (Kp.trans (Kp.trans q₁.k q₂.k) q₃.k)) (jW hs)) (pt hc)
theorem uf(ha:SE prog w A base cf a):SE prog w A base cf (.not a):=fun s env e H ρ m d E hc c he=>
 tq he fun x t hx ht hd=>IUn.rec (motive:=fun e _=>wpAny (model prog w) A (eval e env) (bh w s H d) E s) (fun h=>PyProof.Rows.UnaryOp_ (ha.go h c hx fun v s₁ q₁=>PyProof.Rows.not_of (bj (fP q₁.r ht) fun b s₂ q₂=>⟨Kp.trans q₁.k q₂.k,hd▸q₂.e▸rfl⟩))) (pq hc)
theorem st_not(ha:ST prog w A base cf a):ST prog w A base cf (.not a):=fun s env e H ρ m d t E hc c he ht=>
 tq he fun x t' hx ht' hd=>IUn.rec (motive:=fun e _=>wpAny (model prog w) A (isTrue e env (eval e env)) (dR s t) E s) (fun h=>PyProof.Rows.isTrue_not (bj (ha s env _ H ρ m x t' E h c hx ht') fun b s₂ q₂=>⟨q₂.k,(congrArg _ q₂.e).trans (Option.some.inj ((congrArg bE hd).trans ht))⟩)) (pq hc)
theorem se_neg(ha:SE prog w A base cf a):SE prog w A base cf (.neg a):=fun s env e H ρ m d E hc c he=>
 evi_neg he fun i hx hd=>IUn.rec (motive:=fun e _=>wpAny (model prog w) A (eval e env) (bh w s H d) E s) (fun h=>PyProof.Rows.UnaryOp_ (ha.go h c hx fun v s₁ q₁=>q₁.r.intE fun _=>PyProof.Rows.neg_int (hd▸fT.tr q₁.k))) (sV hc)
theorem si:SEs prog w A base cf []:=fun s env es H ρ m ds E hc c he=>
 nj (C:=fun es=>wpAny (model prog w) A (spliced (es.map fun e=>(false,eval e env))) (vd w s H ds) E s) hc (Calls.spliced_nil ⟨Kp.refl _,Option.some.inj he▸rfl⟩)
theorem qh{r:List ME}(ha:SE prog w A base cf a)(hr:SEs prog w A base cf r):SEs prog w A base cf (a::r):=fun s env es H ρ m ds E hc c he=>
 qY he fun x xs hx hxs e=>gg (C:=fun es=>wpAny (model prog w) A (spliced (es.map fun e=>(false,eval e env))) (vd w s H ds) E s) hc fun e₁ es₁ h1 h2=>Calls.spliced_cons (ha.go h1 c.l hx fun v s₁ q₁=>bj (hr s₁ env es₁ H ρ m xs E h2 (c.r.k q₁.k) hxs) fun vs s₂ q₂=>q₂.rec fun k r=>⟨Kp.trans q₁.k k,e▸.cons (q₁.r.keeps (Kp.heap k)) r⟩)
theorem se_tup{ms:List ME}(hr:SEs prog w A base cf ms):SE prog w A base cf (.tup ms):=fun s env e H ρ m d E hc c he=>
 evi_tup he fun ds hds hl hd=>ITup.rec (motive:=fun e _=>wpAny (model prog w) A (eval e env) (bh w s H d) E s) (fun {vs n p} h=>PyProof.Rows.Tuple_ (by
  rw[eR h,gv]
  exact bj (hr s env _ H ρ m ds E h c hds) fun vs s₁ q₁=>q₁.rec fun k r=>wpAny_newObj_type ⟨Kp.trans k (Kp.push _ _),hd▸ju (c.k k).x hl r⟩ (show vs.toArray.size≤sizeLine from Nat.le_trans (Nat.le_of_eq (List.size_toArray.trans r.length)) hl))) (sS hc)
theorem sf_lst{ms:List ME}(hr:SEs prog w A base cf ms):SF prog w A base cf (.lst ms):=fun s env e H ρ m d fr E hc c he=>
 eL he rfl fun he hf=>evi_lst he fun ds hds hl hd=>ILst.rec (motive:=fun e _=>wpAny (model prog w) A (eval e env) (bX w s H d fr) E s) (fun {vs p} h=>PyProof.Rows.List_ (by
  rw[eR h,gv]
  exact bj (hr s env _ H ρ m ds E h c hds) fun vs s₁ q₁=>q₁.rec fun k r=>wpAny_newObj_type (hd▸hf▸(iX (vs:=vs.toArray) (c.k k).x hl r (fun _ _ e=>Heap.gt_push_of_some _ e) (Heap.get?_push_size _ rfl)).tr k) (show vs.toArray.size≤sizeLine from Nat.le_trans (Nat.le_of_eq (List.size_toArray.trans r.length)) hl))) (sW hc)
end
end Mine
namespace Mine
open PySem PySem.SeqAt

section
variable {prog:Program} {w:World} {A:Around} {s:Shared} {base:Heap} {mg mb:Str→Option Value} {cf:CF} {H:Addr→Prop} {E:Value→Shared→Prop} {a b:ME} {d:D}

theorem se_of_sf{me:ME}(h:SF prog w A base cf me)(hf:∀ ρ d,evE cf ρ me=some d→∃ fr,evF cf ρ me=some (d,fr)):SE prog w A base cf me:=fun s env e H ρ m d E hc c he=>
 (hf ρ d he).elim fun fr hfr=>bj (h s env e H ρ m d fr E hc c hfr) fun _ _ q=>q.post
theorem subscripted_plain{sl:Expr}{o i:Value}(h:∀ a b c d,sl=.Slice a b c d→False):subscripted sl false o i=operate [o,i] (getItem o i):=by
 cases sl with
 | Slice a b c d=>exact (h a b c d rfl).elim
 | _=>rfl
theorem ue(hu:A.units+1<cLine)(ha:SE prog w A base cf a)(hb:SE prog w A base cf b):SE prog w A base cf (.sub a b):=fun s env e H ρ m d E hc c he=>
 evi_sub he fun x y hx hy hd=>ISub.rec (motive:=fun e _=>wpAny (model prog w) A (eval e env) (bh w s H d) E s) (fun hns h1 h2=>PyProof.Rows.Subscript_ (ha.go h1 c.l hx fun v s₁ q₁=>hb.go h2 (c.r.k q₁.k) hy fun v₂ s₂ q₂=>
  have g:=getItem_snd hu (prog:=prog) (w:=w) (A:=A) (E:=E) (q₁.r.keeps (Kp.heap q₂.k)) q₂.r hd
  g.2.elim fun T q=>q.elim fun id q=>PyProof.Rows.tail_any q.1 q.2 (bj g.1 fun v₃ s₃ q₃=>q₃.tr (Kp.trans q₁.k q₂.k)) (subscripted_plain hns))) (lS hc)

theorem qs(ha:SE prog w A base cf a){s:Shared}{env:Env}{l:Option Expr}{H:Addr→Prop}{ρ:List (String×D)}{m:Str→Option Value}{d:D}{Q:Value→Shared→Prop}
  (hc:chkO env.kindOf l a=true) (c:Cc w base s env H ρ m a.names) (he:evE cf ρ a=some d) (k:∀ v s₁,bh w s H d v s₁→Q v s₁):wpAny (model prog w) A (evalPart l env) Q E s:=by
 cases l with
 | none=>exact wpAny_pure (k _ _ ⟨Kp.refl _,isNone_inv (C:=fun a=>evE cf ρ a=some d→Rep w.params s.heap H .none d) hc (fun he=>Option.some.inj he▸rfl) he⟩)
 | some x=>exact ha.go hc c he k
theorem nV{α:Type}(l:List α)(a b:Nat):(l.drop (min a l.length)).take (min b l.length - min a l.length)=(l.take b).drop a:=by
 rw[List.drop_take]
 by_cases ha:a≤l.length
 ·rw[Nat.min_eq_left ha]
  by_cases hb:b≤l.length
  ·rw[Nat.min_eq_left hb]
  ·have hb:=Nat.le_of_not_le hb
   rw[Nat.min_eq_right hb,List.take_of_length_le (Nat.le_of_eq List.length_drop),List.take_of_length_le (by rw[List.length_drop];exact Nat.sub_le_sub_right hb a)]
 ·have ha:=Nat.le_of_not_le ha
  rw[Nat.min_eq_right ha,List.drop_of_length_le (Nat.le_refl _),List.drop_of_length_le ha,List.take_nil,List.take_nil]
structure jG(v:Value)(n dflt:Nat)(k:Option Int):Prop where
 p:IsPart v k
 e:(k=none∧n=dflt)∨k=some (n:Int)
theorem jV{P:Params}{h:Heap}{v:Value}{x:D}{n:Nat}(dflt:Nat)(rv:Rep P h H v x)(hv:bnd x dflt=some n):∃ k,jG v n dflt k:=by
 cases x with
 | none=>exact rv.noneE ⟨none,.none,.inl ⟨rfl,(Option.some.inj hv).symm⟩⟩
 | int i=>exact rv.intE fun t=>aZ hv fun hi e=>⟨some i,.int _ _,.inr (by rw[← e,Int.toNat_of_nonneg hi])⟩
 | _=>exact am hv
theorem jG.clip{v:Value}{n dflt k:Nat}{o:Option Int}(h:jG v k dflt o)(hd:dflt≤n):o.elim dflt (clipAt n)=min k n:=h.e.elim (fun q=>by rw[q.1,q.2,Nat.min_eq_left hd];rfl) fun q=>by rw[q];exact clipAt_nat n k
theorem sl_list{x:Value}{ds:List D}{vl vu:Value}{lo hi:D}(hH:Ex s.heap H)(rx:Rep w.params s.heap H x (.list ds))(rl:Rep w.params s.heap H vl lo)(ru:Rep w.params s.heap H vu hi)(he:slD (.list ds) lo hi=some d){a:Addr}
  (ho:s.heap.get? a=some { cls:=.type "slice",data:=.fields #[vl,vu,.none] }):wpAny (model prog w) A (getItem x (.ref a)) (bX w s H d d.isList) E s:=
 ir he fun a' h1 he=>bB he fun b' h2 e=>e▸rx.listE fun l vs n hx hno hle hr=>(jV 0 rl h1).elim fun ka pa=>(jV vs.size ru (hr.size.symm▸h2)).elim fun kb pb=>
  wpAny_getItem_list_slice (aW hx) ⟨_,ho,rfl,rfl⟩ pa.p pb.p .none nofun (iX hH (by rw[List.length_drop,List.length_take];exact Nat.le_trans (Nat.sub_le _ _) (Nat.le_trans (Nat.min_le_right _ _) hle)) (by
   rw[slicePick_plain,pa.clip (Nat.zero_le _),pb.clip (Nat.le_refl _)]
   exact (nV vs.toList a' b').symm▸(hr.take b').drop a') (fun _ _ e=>Heap.gt_push_of_some _ e) (Heap.get?_push_size _ rfl)) (hr.size.symm▸hle)
theorem qq{P:Params}{h:Heap}{v:Value}{d:D}{a:Option Int}(r:Rep P h H v d)(ha:bndS d=some a):∃ l:Option (Int×Tok),v=partValue l∧l.map (·.1)=a:=by
 cases d with
 | none=>exact r.noneE ⟨none,rfl,Option.some.inj ha⟩
 | int i=>exact r.intE fun t=>⟨some (i,t),rfl,Option.some.inj ha⟩
 | _=>exact am ha
theorem sl_str{x:Str}{t:Tok}{vl vu:Value}{lo hi:D}(rl:Rep w.params s.heap H vl lo)(ru:Rep w.params s.heap H vu hi)(he:slD (.str x) lo hi=some d){a:Addr}
  (ho:s.heap.get? a=some { cls:=.type "slice",data:=.fields #[vl,vu,.none] }):wpAny (model prog w) A (getItem (.str x t) (.ref a)) (bX w s H d d.isList) E s:=
 cz he fun hsz he=>ir he fun a' h1 he=>bB he fun b' h2 e=>(qq rl h1).elim fun l ql=>(qq ru h2).elim fun u qu=>by
  obtain⟨rfl,rfl⟩:=ql
  obtain⟨rfl,rfl⟩:=qu
  exact e▸wpAny_getItem_str_slice (st:=none) ⟨_,ho,rfl,rfl⟩ rfl (post_val_or_str ⟨Nat.le_trans (Txt.slice_le _ _ _) hsz,fun t' k=>n9.pf rfl⟩)
theorem jj{v:Value}{k:Option Int}{Q:Option Int→Shared→Prop}(hp:IsPart v k)(h:Q k s):wpAny (model prog w) A (Builtin.Slice.slicePartIndex v) Q E s:=by
 cases hp with
 | none=>exact PyProof.Rows.slicePart_none h
 | int i t=>exact PyProof.Rows.slicePart_int h
theorem adjust_nat{vl vu:Value}{ka kb:Option Int}{a b n:Nat}(ha:jG vl a 0 ka)(hb:jG vu b n kb):Builtin.Slice.sliceAdjust ka kb 1 (n:Int)=(((min a n:Nat):Int),((min b n:Nat):Int)):=by
 unfold Builtin.Slice.sliceAdjust
 have h1:¬ ((1:Int)<0):=by decide
 simp only[h1,if_false]
 congr 1
 ·rcases ha.e with⟨rfl,rfl⟩ | rfl
  ·show (0:Int)=_;omega
  ·show (if (a:Int)<0 then _ else _)=_
   rw[if_neg (by omega)];omega
 ·rcases hb.e with⟨rfl,rfl⟩ | rfl
  ·show (b:Int)=_;omega
  ·show (if (b:Int)<0 then _ else _)=_
   rw[if_neg (by omega)];omega
theorem places_nat(a b:Nat):Builtin.Slice.slicePlaces (a:Int) (b:Int) 1=b - a:=by
 unfold Builtin.Slice.slicePlaces
 have h1:(1:Int) > 0:=by decide
 simp only[h1,if_true,Int.ediv_one]
 split <;> omega
theorem pick_nat(xs:Array Value)(a k:Nat):((List.range k).filterMap fun (j:Nat)=>xs[((a:Int)+(j:Int) * 1).toNat]?)=(xs.toList.drop a).take k:=by
 have e:(fun (j:Nat)=>xs[((a:Int)+(j:Int) * 1).toNat]?)=fun j=>xs[a+j]?:=by
  funext j
  have:((a:Int)+(j:Int) * 1).toNat=a+j:=by omega
  rw[this]
 rw[e]
 have:=pick_run xs a k
 rw[List.filterMap_map] at this
 exact this
theorem sliceApplied_nat{sl:Addr}{vl vu:Value}{ka kb:Option Int}{a b n:Nat}{Q:Int×Int×Nat→Shared→Prop}(hs:s.heap.get? sl=some { cls:=.type "slice",data:=.fields #[vl,vu,.none] })(pa:jG vl a 0 ka)(pb:jG vu b n kb)(h:Q (((min a n:Nat):Int),1,min b n - min a n) s):wpAny (model prog w) A (Builtin.Slice.sliceApplied (.ref sl) (pure (n:Int))) Q E s:=by
 unfold Builtin.Slice.sliceApplied Builtin.Slice.sliceFields
 refine wpAny_bind (wpAny_bind (wpAny_field hs rfl (x:=vl) rfl (wpAny_bind (wpAny_field hs rfl (x:=vu) rfl (wpAny_bind (wpAny_field hs rfl (x:=.none) rfl (wpAny_pure ?_)))))))
 refine wpAny_bind (PyProof.Rows.slicePart_none ?_)
 show wpAny _ _ (if ((1:Int) == 0)=true then _ else _) _ _ s
 rw[if_neg (by decide)]
 refine wpAny_bind (jj pa.p (wpAny_bind (jj pb.p (wpAny_bind (wpAny_pure ?_)))))
 show wpAny _ _ (match Builtin.Slice.sliceAdjust ka kb 1 (n:Int) with | (lo,hi)=>pure (lo,(1:Int),Builtin.Slice.slicePlaces lo hi 1)) _ _ s
 rw[adjust_nat pa pb]
 show wpAny _ _ (pure (((min a n:Nat):Int),(1:Int),Builtin.Slice.slicePlaces ((min a n:Nat):Int) ((min b n:Nat):Int) 1)) _ _ s
 rw[places_nat]
 exact wpAny_pure h
theorem sl_tup{x:Value}{ds:List D}{vl vu:Value}{lo hi:D}(hH:Ex s.heap H)(rx:Rep w.params s.heap H x (.tup ds))(rl:Rep w.params s.heap H vl lo)(ru:Rep w.params s.heap H vu hi)(he:slD (.tup ds) lo hi=some d){sl:Addr}
  (ho:s.heap.get? sl=some { cls:=.type "slice",data:=.fields #[vl,vu,.none] }):wpAny (model prog w) A (getItem x (.ref sl)) (bX w s H d d.isList) E s:=by
 refine ir he fun a h1 he=>bB he fun b h2 e=>e▸rx.tupE fun t items n hx hno hle hr=>(jV 0 rl h1).elim fun ka pa=>(jV items.size ru (hr.size.symm▸h2)).elim fun kb pb=>?_
 have ht:=ew hx
 have hlen:((ds.take b).drop a).length≤big:=by rw[List.length_drop,List.length_take];exact Nat.le_trans (Nat.sub_le _ _) (Nat.le_trans (Nat.min_le_right _ _) hle)
 have hclip:aq w.params s.heap H ((items.toList.drop (min a items.size)).take (min b items.size - min a items.size)) ((ds.take b).drop a):=(nV items.toList a b).symm▸(hr.take b).drop a
 unfold getItem
 try with_reducible refine wpAny_holding ?_
 first | refine wpAny_bind (wpAny_pure ?_) | skip
 refine wpAny_bind (wpAny_sequenceKey ht.typeIs (by decide) ?_)
 refine wpAny_bind (wpAny_callSpecial?_slot (name:=Str.ofString "__getitem__") ht.typeIs PyProof.Rows.slot_tuple_getitem
  (wpAny_call_entry PyProof.Rows.slot_tuple_getitem ht.typeIs PyProof.Rows.entry_tuple_getitem ?_ (PyProof.Rows.args_tuple_getitem _ _)))
 show wpAny _ _ (Builtin.Tuple.tupleItemsOf (.ref t) >>= _) _ _ s
 refine wpAny_bind (PyProof.Rows.tupleItemsOf_ ht (wpAny_bind (wpAny_typeOf (show s.TypeIs (.ref sl) "slice" from⟨_,ho,rfl⟩) ?_)))
 rw[if_pos (by decide)]
 refine wpAny_bind (sliceApplied_nat ho pa pb ?_)
 show wpAny _ _ (if (((min a items.size:Nat):Int) == 0&&(1:Int) == 1&&(min b items.size - min a items.size) == items.size)=true then _ else _) _ _ s
 split
 ·rename_i hc
  refine gT hc fun c1 _ c2=>?_
  have e0:min a items.size=0:=Int.ofNat.inj (eq_of_beq c1)
  have e2:=eq_of_beq c2
  rw[e0,Nat.sub_zero] at e2
  rw[e0,Nat.sub_zero,e2,List.drop_zero,List.take_of_length_le (Nat.le_of_eq Array.length_toList)] at hclip
  refine wpAny_bind (m:=Builtin.Tuple.tupleIsExact _) (wpAny_bind (wpAny_typeOf ht.typeIs (wpAny_pure ?_)))
  rw[if_pos (by decide)]
  exact wpAny_bind (wpAny_rule (wpAny_pure ⟨_,rfl,wpAny_pure ⟨Kp.refl _,.mk hx hno hlen hclip,nofun⟩⟩))
 ·rw[pick_nat]
  exact wpAny_bind (m:=Builtin.Tuple.tupleExact _) (wpAny_newObj_type (wpAny_pure ⟨_,rfl,wpAny_pure ⟨Kp.push _ _,ju hH hlen hclip,nofun⟩⟩) (show ((items.toList.drop (min a items.size)).take (min b items.size - min a items.size)).toArray.size≤sizeLine from Nat.le_trans (Nat.le_of_eq (List.size_toArray.trans hclip.length)) (Nat.le_trans hlen (by decide))))
theorem slice_snd{v:Value}{x:D}{vl vu:Value}{lo hi:D}(hH:Ex s.heap H)(rx:Rep w.params s.heap H v x)(rl:Rep w.params s.heap H vl lo)(ru:Rep w.params s.heap H vu hi)(he:slD x lo hi=some d){a:Addr}
  (ho:s.heap.get? a=some { cls:=.type "slice",data:=.fields #[vl,vu,.none] }):wpAny (model prog w) A (getItem v (.ref a)) (bX w s H d d.isList) E s∧vi s v:=by
 cases x with
 | str x=>exact rx.strE fun t=>⟨sl_str rl ru he ho,"str",_,typeIs_str _ _ _,F.slot_str_getitem.lookup⟩
 | tup ds=>exact⟨sl_tup hH rx rl ru he ho,rx.tupE fun _ _ _ hx _ _ _=>⟨"tuple",_,(ew hx).typeIs,F.slot_tuple_getitem.lookup⟩⟩
 | list ds=>exact⟨sl_list hH rx rl ru he ho,rx.listE fun _ _ _ hx _ _ _=>⟨"list",_,(aW hx).typeIs,F.slot_list_getitem.lookup⟩⟩
 | _=>exact am he
theorem sf_sl{lo hi:ME}(ha:SE prog w A base cf a)(hl:SE prog w A base cf lo)(hh:SE prog w A base cf hi):SF prog w A base cf (.sl a lo hi):=fun s env e H ρ m d fr E hc c he=>
 eL he rfl fun he hf=>evi_sl he fun x y z hx hy hz hd=>ISl.rec (motive:=fun e _=>wpAny (model prog w) A (eval e env) (bX w s H d fr) E s) (fun h1 h2 h3=>PyProof.Rows.Subscript_ (ha.go h1 c.l.l hx fun v s₁ q₁=>wpAny_Slice (qs hl h2 (c.l.r.k q₁.k) hy fun vl s₂ q₂=>
  have k2:=Kp.trans q₁.k q₂.k
  qs hh h3 (c.r.k k2) hz fun vu s₃ q₃=>wpAny_pure (
   have kp:=Kp.push s₃ { cls:=.type "slice",data:=.fields #[vl,vu,.none] }
   have k3:=Kp.trans (Kp.trans k2 q₃.k) kp
   have g:=slice_snd (prog:=prog) (A:=A) (E:=E) (s:={ s₃ with heap:=s₃.heap.push { cls:=.type "slice",data:=.fields #[vl,vu,.none] } }) (c.k k3).x (q₁.r.keeps (Kp.heap (Kp.trans (Kp.trans q₂.k q₃.k) kp))) (q₂.r.keeps (Kp.heap (Kp.trans q₃.k kp))) (q₃.r.keeps (Kp.heap kp)) hd (Heap.get?_push_size s₃.heap rfl)
   g.2.elim fun T q=>q.elim fun id q=>PyProof.Rows.tail_any (ops:=[_,_]) q.1 q.2 (bj g.1 fun _ _ q=>hf▸q.tr k3) rfl)))) (uI hc)
end
end Mine
namespace Mine
open PySem PySem.SeqAt

section
variable {prog:Program} {w:World} {A:Around} {s:Shared} {base:Heap} {mg mb:Str→Option Value} {cf:CF}

theorem gQ{f:Value}{es:List Expr}{ms:List ME}{env:Env}{pos:Pos}{Q:Args→Shared→Prop}{E:Value→Shared→Prop}(hc:bW env.kindOf es ms=true)
  (h:wpAny (model prog w) A (spliced (es.map fun e=>(false,eval e env))) (fun vs s'=>Q ⟨vs,[]⟩ s') E s) :
  wpAny (model prog w) A (evalArgs f true (backTo pos (starEach es env)) []) Q E s:=by
 rw[eR hc,gv]
 cases es with
 | nil=>
  unfold evalArgs
  show wpAny _ A (spliced [] >>= _) Q E s
  exact wpAny_bind (bj h fun vs s' h'=>wpAny_bind (wpAny_pure (wpAny_holding (wpAny_bind (wpAny_pure (wpAny_bind (wpAny_pure (wpAny_pure h'))))))))
 | cons e es=>exact Calls.evalArgs_plain h

theorem any_false(es:List Expr)(env:Env):((es.map fun e=>(false,eval e env)).any (·.1))=false:=by
 induction es with
 | nil=>rfl
 | cons _ _ ih=>simpa using ih

theorem sh(G:GOk mg mb base)(C:CS0 prog w base mg cf A){f:String}{ms:List ME}(hr:SEs prog w A base cf ms):SF prog w A base cf (.call f ms):=fun s env e H ρ m d fr E hc c he=>
 evi_callF he fun ds hds hcl=>oK.rec (motive:=fun e _=>wpAny (model prog w) A (eval e env) (bX w s H d fr) E s) (fun {gp as pos} hg h=>(C f ds d fr hcl).elim fun a q=>q.elim fun o q=>q.elim fun fd q=>
  PyProof.Rows.Call_Name rfl (Calls.Name_function_global c.R.kind (eP hg).1 (Calls.loadGlobal_global (mg:=mg) (c.R.glob▸Ns.keepAt G.g (c.hw.keep _)) q.1 (Calls.callWith_function (o:=o) (fd:=fd) (gQ h (
   bj (hr s env as H ρ m ds E h c hds) fun vs s₁ q₁=>q₁.rec fun k r=>⟨⟨Heap.of_gt ((c.k k).hw.keep _ _ q.2.1) (bZ (by rw[q.2.2.1];nofun)),q.2.2.1⟩,bj (q.2.2.2 s₁ H vs E (c.k k).hw r) fun v s₂ q₂=>q₂.tr k⟩)))) (by simpa using (eP hg).2))) (j9 hc)

theorem eu(G:GOk mg mb base){env:Env}{m:Str→Option Value}{H:Addr→Prop}{f:String}{p:Pos}{E:Value→Shared→Prop}{Q:Value→Shared→Prop}(hf:f∈cD)(R:bp s.heap env m)(hw:HOk base s.heap H)
  (hg:bY env.kindOf (Str.ofString f)=true) (h:Q (cZ f) s):wpAny (model prog w) A (eval (.Name (Str.ofString f) p) env) Q E s:=
 Calls.Name_function_global R.kind (eP hg).1 (Calls.loadGlobal_builtin (mg:=mg) (mb:=mb) (R.glob▸Ns.keepAt G.g (hw.keep _)) (G.blt f hf).1 (R.blt▸Ns.keepAt G.b (hw.keep _)) (G.blt f hf).2 h) (by simpa using (eP hg).2)
theorem bltVal_is(f:String):(∃ id,cZ f=.builtin id)∨∃ T,cZ f=.type T:=by
 unfold cZ
 cases u5.contains f with
 | true=>exact .inl ⟨_,rfl⟩
 | false=>exact .inr ⟨_,rfl⟩
theorem dO{f:String}{pos:Pos}{es:List Expr}{ms:List ME}{env:Env}{Q:Value→Shared→Prop}{E:Value→Shared→Prop}(hc:bW env.kindOf es ms=true)
  (h:wpAny (model prog w) A (spliced (es.map fun e=>(false,eval e env))) (fun vs s'=>wpAny (model prog w) A (call (cZ f) vs) Q E s') E s) :
  wpAny (model prog w) A (callWith pos (cZ f) [] (backTo pos (starEach es env)) []) Q E s:=by
 have hp:(backTo pos (starEach es env)).any (·.1)=false:=by rw[eR hc,gv];exact any_false _ _
 rcases bltVal_is f with⟨id,e⟩ | ⟨T,e⟩
 ·rw[e] at h ⊢;exact Calls.callWith_builtin hp (gQ hc h)
 ·rw[e] at h ⊢;exact PyProof.Rows.callWith_type hp (gQ hc h)
theorem se_blt(G:GOk mg mb base)(hh:A.handled=none){f:String}{ms:List ME}(hf:f∈cD)(hr:SEs prog w A base cf ms):SE prog w A base cf (.blt f ms):=fun s env e H ρ m d E hc c he=>
 tv he fun ds hds hd=>oK.rec (motive:=fun e _=>wpAny (model prog w) A (eval e env) (bh w s H d) E s) (fun {gp as pos} hg h=>PyProof.Rows.Call_Name rfl (eu G hf c.R c.hw hg (dO h (
  bj (hr s env as H ρ m ds E h c hds) fun vs s₁ q₁=>q₁.rec fun k r=>bj (blt_snd hh r (c.k k).x hd) fun v s₂ q₂=>q₂.tr k)))) (s7 hc)
theorem tT{k:KD}{x:Expr}{a:ME}(h:aG k x a=true):bW k [x] [a]=true:=Bool.and_eq_true_iff.mpr ⟨h,rfl⟩
theorem sf_lcp(G:GOk mg mb base)(hh:A.handled=none){a:ME}(ha:SE prog w A base cf a):SF prog w A base cf (.lcp a):=fun s env e H ρ m d fr E hc c he=>
 eL he rfl fun he hf=>evi_lcp he fun x ds hx hds hd=>iR.rec (motive:=fun e _=>wpAny (model prog w) A (eval e env) (bX w s H d fr) E s) (fun hg h=>PyProof.Rows.Call_Name rfl (eu G (f:="list") (by decide) c.R c.hw hg (dO (tT h) (Calls.spliced_cons (
  ha.go h c hx fun v s₁ q₁=>Calls.spliced_nil (bj (lst_snd hh q₁.r (c.k q₁.k).x hds) fun v s₂ q₂=>hd▸hf▸q₂.tr q₁.k)))))) (sX hc)
theorem qI{d:D}{T:String}{t:Bool}(h:mM d T=some t):T∈cD∧cZ T=.type T:=
 cz h fun hT _=>oq (C:=fun T=>T∈cD∧cZ T=.type T) hT ⟨by decide,rfl⟩ ⟨by decide,rfl⟩ ⟨by decide,rfl⟩ ⟨by decide,rfl⟩ ⟨by decide,rfl⟩
theorem se_isi(G:GOk mg mb base){a:ME}{T:String}(ha:SE prog w A base cf a):SE prog w A base cf (.isi a T):=fun s env e H ρ m d E hc c he=>
 evi_isi he fun x t hx ht hd=>IIsi.rec (motive:=fun e _=>wpAny (model prog w) A (eval e env) (bh w s H d) E s) (fun {gp x tp pos} hg hg2 h=>PyProof.Rows.Call_Name (trees:=[(false,eval x env),(false,eval (.Name (Str.ofString T) tp) env)]) (by rw[fQ h];rfl) (eu G (f:="isinstance") (by decide) c.R c.hw hg
  (Calls.callWith_builtin rfl (Calls.evalArgs_plain (Calls.spliced_cons (ha.go h c hx fun v s₁ q₁=>Calls.spliced_cons (eu G (qI ht).1 (c.k q₁.k).R (c.k q₁.k).hw hg2 (Calls.spliced_nil ((qI ht).2.symm▸bj (isi_snd q₁.r ht) fun v s₂ q₂=>hd▸q₂.tr q₁.k))))))))) (sY hc)
end
end Mine
namespace Mine
open PySem PyProof.Rows

theorem uv{lo hi:Nat}(h:lo<hi):lo≤(lo+hi) / 2∧(lo+hi) / 2<hi:=
 ⟨(Nat.le_div_iff_mul_le (Nat.succ_pos 1)).mpr (Nat.mul_two lo▸Nat.add_le_add_left (Nat.le_of_lt h) lo),Nat.div_lt_of_lt_mul (Nat.two_mul hi▸Nat.add_lt_add_right h hi)⟩
theorem mid_less{lo hi m n x:Nat}(h1:lo≤m)(h2:m<hi)(h3:hi - lo≤n - x)(h4:x<n):hi - (m+1)≤n - (x+1)∧m - lo≤n - (x+1):=
 ⟨Nat.le_trans (Nat.sub_le_sub_left (Nat.succ_le_succ h1) hi) (Nat.pred_le_pred h3),Nat.le_pred_of_lt (Nat.lt_of_lt_of_le (Nat.sub_lt_sub_right h1 h2) h3)⟩
structure Wk(kl:Nat→Nat→Bool):Prop where
 irr:∀ p,kl p p=false
 tr:∀ {p q r},kl p q=true→kl q r=true→kl p r=true
 neg:∀ {p q r},kl p q=false→kl q r=false→kl p r=false

noncomputable def Rk(kl:Nat→Nat→Bool)(p q:Nat):Prop:=kl p q=true∨(kl q p=false∧p<q)

section
variable {kl:Nat→Nat→Bool}
theorem Wk.asym(W:Wk kl){p q:Nat}(h:kl p q=true):kl q p=false:=by
 cases e:kl q p with
 | false=>rfl
 | true=>have:=W.tr h e;rw[W.irr] at this;cases this
theorem Wk.lt_le(W:Wk kl){p q r:Nat}(h:kl p q=true)(h2:kl r q=false):kl p r=true:=by
 cases e:kl p r with
 | true=>rfl
 | false=>have:=W.neg e h2;rw[h] at this;cases this
theorem Wk.le_lt(W:Wk kl){p q r:Nat}(h:kl q p=false)(h2:kl q r=true):kl p r=true:=by
 cases e:kl p r with
 | true=>rfl
 | false=>have:=W.neg h e;rw[h2] at this;cases this
theorem Rk.le(W:Wk kl){p q:Nat}(h:Rk kl p q):kl q p=false:=h.elim W.asym (·.1)
theorem Rk.tr(W:Wk kl){p q r:Nat}(h:Rk kl p q)(h2:Rk kl q r):Rk kl p r:=by
 rcases h with h | ⟨h,l⟩
 ·exact .inl (W.lt_le h (h2.le W))
 ·rcases h2 with h2 | ⟨h2,l2⟩
  ·exact .inl (W.le_lt h h2)
  ·exact .inr ⟨W.neg h2 h,Nat.lt_trans l l2⟩
structure Mg(R:Nat→Nat→Prop)(T G xs ys:List Nat):Prop where
 perm:(G++(xs++ys)).Perm T
 srt:G.Pairwise R
 le:∀ g∈G,∀ y,y∈xs∨y∈ys→R g y
variable {R:Nat→Nat→Prop} {T G xs ys:List Nat}
end
end Mine
namespace Mine
open PySem

noncomputable abbrev Ris(xs:Array Nat):Prop:=xs.toList.Pairwise (·<·)
theorem nA{xs:Array Nat}(hr:Ris xs)(j:Nat):∀ (fuel lo hi:Nat),hi - lo≤fuel→lo≤hi→hi≤xs.size→(∀ i (h:i<xs.size),i<lo→xs[i]<j)→(∀ i (h:i<xs.size),hi≤i→j≤xs[i]) →
  ∃ k,SetTable.below.go xs j fuel lo hi=k∧k≤xs.size∧(∀ i (h:i<xs.size),i<k→xs[i]<j)∧(∀ i (h:i<xs.size),k≤i→j≤xs[i])
 | 0,lo,hi,h1,h2,h3,h4,h5=>by
  have e:lo=hi:=Nat.le_antisymm h2 (Nat.le_of_sub_eq_zero (Nat.le_zero.mp h1))
  subst e;exact⟨lo,rfl,h3,h4,h5⟩
 | fuel+1,lo,hi,h1,h2,h3,h4,h5=>by
  have mono:∀ i i' (h:i<xs.size) (h':i'<xs.size),i<i'→xs[i]<xs[i']:=fun i i' h h' l=>by
   have:=List.pairwise_iff_getElem.mp hr i i' (by simpa using h) (by simpa using h') l
   simpa using this
  show ∃ k,(if lo<hi then (if xs.getD ((lo+hi) / 2) j<j then SetTable.below.go xs j fuel ((lo+hi) / 2+1) hi else SetTable.below.go xs j fuel lo ((lo+hi) / 2)) else lo)=k∧_
  by_cases hl:lo<hi
  ·rw[if_pos hl]
   have mi:=uv hl
   have hm:lo≤(lo+hi) / 2∧(lo+hi) / 2<hi∧hi - ((lo+hi) / 2+1)≤fuel∧(lo+hi) / 2 - lo≤fuel:=⟨mi.1,mi.2,mid_less (x:=0) mi.1 mi.2 h1 (Nat.succ_pos fuel)⟩
   clear mi
   generalize (lo+hi) / 2=m at hm ⊢
   have hms:m<xs.size:=Nat.lt_of_lt_of_le hm.2.1 h3
   have eg:xs.getD m j=xs[m]:=by rw[Array.getD_eq_getD_getElem?,getElem?_pos xs m hms];rfl
   rw[eg]
   by_cases hc:xs[m]<j
   ·rw[if_pos hc]
    refine nA hr j fuel (m+1) hi hm.2.2.1 hm.2.1 h3 (fun i h q=>?_) h5
    rcases Nat.lt_or_eq_of_le (Nat.le_of_lt_succ q) with q | rfl
    ·exact Nat.lt_trans (mono i m h hms q) hc
    ·exact hc
   ·rw[if_neg hc]
    refine nA hr j fuel lo m hm.2.2.2 hm.1 (Nat.le_of_lt hms) h4 fun i h q=>?_
    rcases Nat.lt_or_eq_of_le q with q | rfl
    ·exact Nat.le_of_lt (Nat.lt_of_le_of_lt (Nat.le_of_not_lt hc) (mono m i hms h q))
    ·exact Nat.le_of_not_lt hc
  ·rw[if_neg hl]
   have e:lo=hi:=Nat.le_antisymm h2 (Nat.le_of_not_lt hl)
   subst e;exact⟨lo,rfl,h3,h4,h5⟩
theorem rq{xs:Array Nat}(hr:Ris xs)(j:Nat):SetTable.below xs j≤xs.size∧(∀ i (h:i<xs.size),i<SetTable.below xs j→xs[i]<j)∧(∀ i (h:i<xs.size),SetTable.below xs j≤i→j≤xs[i]):=by
 obtain⟨k,e,h⟩:=nA hr j xs.size 0 xs.size (Nat.le_of_eq (Nat.sub_zero _)) (Nat.zero_le _) (Nat.le_refl _) (fun _ _ h=>absurd h (Nat.not_lt_zero _)) fun i h q=>absurd h (Nat.not_lt_of_le q)
 unfold SetTable.below
 rw[e];exact h

structure dI(bt:Bool)(t:SetTable):Prop where
 dum:t.dummies=#[]
 ris:Ris t.place
 led:t.led=!bt
theorem ti(j:Nat):SetTable.has #[] j=false:=rfl
theorem dI.put{bt:Bool}{t:SetTable}(h:dI bt t){j:Nat}(hs:t.slot j=.empty):dI bt (t.put j).1:=by
 have hb:=rq h.ris j
 have hne:t.place[SetTable.below t.place j]?≠some j:=fun e=>by
  unfold SetTable.slot at hs
  rw[if_pos (by rw[e];exact beq_self_eq_true _)] at hs;cases hs
 refine⟨?_,?_,h.led⟩
 ·show (if SetTable.has t.dummies j=true then _ else t.dummies)=#[]
  rw[h.dum,ti];rfl
 ·show (SetTable.insertAt t.place (SetTable.below t.place j) j).toList.Pairwise (·<·)
  rw[SetTable.toList_insertAt]
  generalize SetTable.below t.place j=k at hb hne
  have hris:t.place.toList.Pairwise (·<·):=h.ris
  have hsp:=List.pairwise_append.mp ((List.take_append_drop k t.place.toList).symm▸hris)
  have lo:∀ x∈t.place.toList.take k,x<j:=fun x hx=>by
   obtain⟨i,hi,rfl⟩:=List.getElem_of_mem hx
   have hi':i<k:=Nat.lt_of_lt_of_le hi (List.length_take_le _ _)
   have:=hb.2.1 i (Nat.lt_of_lt_of_le hi' hb.1) hi'
   rw[List.getElem_take];simpa using this
  have hi:∀ x∈t.place.toList.drop k,j<x:=fun x hx=>by
   obtain⟨i,hi,rfl⟩:=List.getElem_of_mem hx
   rw[List.length_drop] at hi
   have hi':k+i<t.place.size:=by simpa using Nat.add_lt_of_lt_sub' hi
   have hk:k<t.place.size:=Nat.lt_of_le_of_lt (Nat.le_add_right _ _) hi'
   have h0:=hb.2.2 k hk (Nat.le_refl _)
   have h1:t.place[k]≠j:=fun e=>hne (by rw[getElem?_pos _ k hk,e])
   have h2:t.place[k]≤t.place[k+i]:=by
    rcases Nat.eq_zero_or_pos i with rfl | q
    ·exact Nat.le_refl _
    ·have:=List.pairwise_iff_getElem.mp h.ris k (k+i) (by simpa using hk) (by simpa using hi') (Nat.lt_add_of_pos_right q)
     exact Nat.le_of_lt (by simpa using this)
   rw[List.getElem_drop]
   have:j<t.place[k+i]:=Nat.lt_of_lt_of_le (Nat.lt_of_le_of_ne h0 (Ne.symm h1)) h2
   simpa using this
  refine List.pairwise_append.mpr ⟨hsp.1,List.pairwise_cons.mpr ⟨hi,hsp.2.1⟩,fun x hx y hy=>?_⟩
  rcases List.mem_cons.mp hy with rfl | hy
  ·exact lo x hx
  ·exact hsp.2.2 x hx y hy
theorem ris_range(n:Nat):Ris (Array.range n):=by
 show (Array.range n).toList.Pairwise _
 rw[Array.toList_range];exact List.pairwise_lt_range
theorem dI.standIn{bt:Bool}{t:SetTable}(h:dI bt t)(n:Nat):dI bt (t.standIn n):=⟨rfl,ris_range n,h.led⟩
theorem dI.orStandIn{bt:Bool}{t:SetTable}(h:dI bt t)(n:Nat):dI bt (t.orStandIn n):=by
 unfold SetTable.orStandIn;split
 ·exact h
 ·exact h.standIn n
theorem qo{t:SetTable}(hd:t.dummies=#[]){f:Nat→Int}{h:Int}:∀ (fuel:Nat) (p:SetTable.Probe) {j:Nat} {d:Option Nat},p.dummy=none→SetTable.probe.go t f h fuel p=some (.empty j d)→t.slot j=.empty∧d=none
 | 0,p,j,d,hp,e=>by cases e
 | fuel+1,p,j,d,hp,e=>by
  have adv:∀ q:SetTable.Probe,q.dummy=none→(t.advance q).dummy=none:=fun q hq=>by unfold SetTable.advance;split <;> exact hq
  unfold SetTable.probe.go at e
  cases hs:t.slot p.j with
  | empty=>rw[hs] at e;cases e;exact⟨hs,hp⟩
  | dummy=>
   exfalso
   unfold SetTable.slot at hs
   rw[hd,ti] at hs
   dsimp only at hs
   split at hs <;> cases hs
  | live i=>
   rw[hs] at e
   dsimp only at e
   split at e
   ·cases e
   ·exact qo hd fuel _ (adv p hp) e
theorem free_ok{bt:Bool}{t:SetTable}(h:dI bt t){x:Int}{j:Nat}{b:Bool}(e:t.freeSlot x=some (j,b)):t.slot j=.empty:=by
 unfold SetTable.freeSlot at e
 split at e
 ·rename_i j' d hp
  have:=qo h.dum _ _ rfl hp
  rw[this.2] at e
  cases e;exact this.1
 ·cases e
theorem dI.layNew{bt:Bool}{t:SetTable}(h:dI bt t)(es:Array (Int×Value))(x:Int)(v:Value):dI bt (layNew t es x v).2.1:=by
 unfold PySem.layNew
 split
 ·rename_i slot wasDummy e
  exact (h.put (free_ok h e)).orStandIn _
 ·exact h.standIn _
theorem mE{g:Nat→Option Nat}:∀ l:List Nat,((l.filterMap fun j=>(g j).map (j,·)).map (·.1))=l.filter fun j=>(g j).isSome
 | []=>rfl
 | j::l=>by
  rw[List.filterMap_cons,List.filter_cons]
  cases e:g j with
  | none=>exact mE l
  | some y=>exact congrArg (j::·) (mE l)
theorem dI.relay{bt:Bool}{t:SetTable}(h:dI bt t)(es:Array (Int×Value))(n:Nat):dI bt (relayAll t es n).2.1:=by
 unfold relayAll
 split
 ·rename_i t' order e
  dsimp only
  split
  ·unfold SetTable.relaid SetTable.laid at e
   cases ho:SetTable.layClean (SetTable.sizeAbove n - 1) (es.map (·.1)) with
   | none=>rw[ho] at e;cases e
   | some owner=>
    rw[ho] at e
    have e':=(Prod.mk.inj (Option.some.inj e)).1
    rw[← e']
    refine⟨rfl,?_,h.led⟩
    show ((((List.range (SetTable.sizeAbove n - 1+1)).filterMap fun j=>(owner.getD j none).map (j,·)).map (·.1)).toArray).toList.Pairwise (·<·)
    rw[mE]
    exact List.pairwise_lt_range.sublist List.filter_sublist
  ·exact h.standIn _
 ·exact h.standIn _
end Mine
namespace Mine
open PySem

noncomputable abbrev ie(es:Array (Int×Value))(ep:Nat)(t:SetTable):Obj:={ cls:=.type "set",dict:=Option.none,data:=.set es ep t,slots:=#[] }
noncomputable def bF(es:Array (Int×Value)):List Int:=es.toList.map fun e=>PyProof.Rows.numOf e.2
structure jF(bt:Bool)(h:Heap)(a:Addr)(es:Array (Int×Value)):Prop where
 obj:∃ ep t,h.get? a=some (ie es ep t)∧t.fits es.size=true∧dI bt t
 el:∀ e∈es.toList,∃ k tok,e=(hashInt k,.int k tok)
 nod:(bF es).Nodup

section
variable {prog:Program} {w:World} {A:Around} {E:Value→Shared→Prop} {s:Shared} {bt:Bool} {a:Addr} {es:Array (Int×Value)}

theorem els_of(h:∀ e∈es.toList,∃ k tok,e=(hashInt k,.int k tok)):ElemsOf (intKind prog w) es.toList:=fun e he=>by
 obtain⟨k,tok,rfl⟩:=h e he
 exact⟨⟨k,d5 k tok,rfl⟩,rfl⟩
theorem jI{es':Array (Int×Value)}{ep:Nat}{t t':SetTable}{Q:Unit→Shared→Prop}(ho:s.heap.get? a=some (ie es ep t))(hz:es'.size<scanBound)
  (h:∀ h',Heap.SameBut a s.heap h'→h'.get? a=some (ie es' (ep+1) t')→Q () { s with heap:=h' }):wpAny (model prog w) A (storeSet a es' t') Q E s:=by
 refine wpAny_storeSet_of ho rfl (h _ (Heap.SameBut.update _ _ _) ?_) (fits_of_scanBound hz)
 exact Heap.get?_update_self (Obj.putSet es' t') ho rfl

theorem wpAny_addI{k:Int}{tok:Tok}{Q:Bool→Shared→Prop}(hS:jF bt s.heap a es)(hroom:es.size+1<scanBound)
  (h:∀ h' es',Heap.SameBut a s.heap h'→jF bt h' a es'→(bF es').Perm (if k∈bF es then bF es else bF es++[k])→∀ b,Q b { s with heap:=h' }) :
  wpAny (model prog w) A (setAddHashed a (.int k tok) (hashInt k)) Q E s:=by
 obtain⟨⟨ep,t,ho,hf,hT⟩,hel,hnod⟩:=hS
 have hels:=els_of (prog:=prog) (w:=w) hel
 have hkey:(intKind prog w).is k (.int k tok)=true:=d5 k tok
 unfold setAddHashed setAddHashedIn
 refine wpAny_holding (wpAny_bind (wpAny_setState_of ho rfl hf ?_))
 dsimp only
 rw[byScan_of (knd:=intKind prog w) rfl (Nat.lt_of_succ_lt hroom) hels,if_pos rfl]
 unfold setAddByScan
 refine wpAny_bind (wpAny_bind (wpAny_rule (wpAny_bind (wpAny_setScan_of hkey ho rfl hf hels ?_))))
 have hmem:∀ e∈es.toList,(intKind prog w).is k e.2=true→k∈bF es:=fun e he q=>by
  obtain⟨k',tok',rfl⟩:=hel e he
  have:=Value.isInt_inj (.int k' tok') k k' q (d5 k' tok')
  subst this
  exact List.mem_map.mpr ⟨_,he,rfl⟩
 cases hr:List.findIdx? (fun e=>(intKind prog w).is k e.2) es.toList with
 | some j=>
  obtain⟨hj,hpj,_⟩:=List.findIdx?_eq_some_iff_getElem.mp hr
  have hin:=hmem _ (List.getElem_mem hj) hpj
  refine wpAny_pure (wpAny_pure ?_)
  exact h s.heap es (Heap.SameBut.refl a s.heap) ⟨⟨ep,t,ho,hf,hT⟩,hel,hnod⟩ (by rw[if_pos hin]) false
 | none=>
  have hnin:k ∉ bF es:=fun q=>by
   obtain⟨e,he,q⟩:=List.mem_map.mp q
   obtain⟨k',tok',rfl⟩:=hel e he
   have e':k'=k:=q
   subst e'
   have:=List.findIdx?_eq_none_iff.mp hr _ he
   rw[show (intKind prog w).is k' (.int k' tok')=true from d5 k' tok'] at this;cases this
  rw[if_neg hnin] at h
  have hperm:=layNew_perm t es (hashInt k) (.int k tok)
  have hfits:=layNew_fits t es (hashInt k) (.int k tok)
  have hTn:=hT.layNew es (hashInt k) (.int k tok)
  dsimp only
  generalize layNew t es (hashInt k) (.int k tok)=L at hperm hfits hTn ⊢
  obtain⟨es1,t1,wasDummy,gave⟩:=L
  dsimp only at hperm hfits hTn ⊢
  rw[Array.toList_push] at hperm
  have hel1:∀ e∈es1.toList,∃ k tok,e=(hashInt k,.int k tok):=fun e he=>by
   rcases List.mem_append.mp (hperm.mem_iff.mp he) with he | he
   ·exact hel e he
   ·rw[List.mem_singleton.mp he];exact⟨k,tok,rfl⟩
  have hk1:(bF es1).Perm (bF es++[k]):=by
   have:=hperm.map fun (e:Int×Value)=>PyProof.Rows.numOf e.2
   rwa [List.map_append] at this
  have hsz1:es1.size<scanBound:=by
   have:=hperm.length_eq
   rw[List.length_append,Array.length_toList,Array.length_toList] at this
   rw[this];exact hroom
  have hnod1:∀ es2,(bF es2).Perm (bF es++[k])→(bF es2).Nodup:=fun es2 hp=>hp.nodup_iff.mpr (List.nodup_append.mpr ⟨hnod,List.nodup_cons.mpr ⟨List.not_mem_nil,List.nodup_nil⟩,fun x hx y hy e=>hnin (by
   rw[List.mem_singleton.mp hy] at e;exact e▸hx)⟩)
  have gw:∀ (b:Bool) {s₁:Shared} {Q':Unit→Shared→Prop},Q' () s₁→wpAny (model prog w) A (match b with | true=>rule "set.scan.the-table-gave-way" | false=>pure ()) Q' E s₁:=
   fun b s₁ Q' hq=>by cases b <;> first | exact wpAny_pure hq | exact wpAny_rule hq
  have fin:∀ t2:SetTable,t2.fits es1.size=true→dI bt t2→wpAny (model prog w) A (do
    storeSet a es1 t2
    if (!wasDummy&&t2.tooFull)=true then do
      (match (relayAll t2 es1 (SetTable.grown es1.size)).2.2 with | true=>rule "set.scan.the-table-gave-way" | false=>pure ())
      storeSet a (relayAll t2 es1 (SetTable.grown es1.size)).1 (relayAll t2 es1 (SetTable.grown es1.size)).2.1
      pure (some true)
     else pure (some true)) (fun r s'=>∃ h' es',s'={ s with heap:=h' }∧r=some true∧Heap.SameBut a s.heap h'∧jF bt h' a es'∧(bF es').Perm (bF es++[k])) E s:=fun t2 hf2 hT2=>by
   refine wpAny_bind (jI ho hsz1 fun h1 hs1 ho1=>?_)
   split
   ·have hp2:=relayAll_perm t2 es1 (SetTable.grown es1.size)
    have hf3:=relayAll_fits t2 es1 (SetTable.grown es1.size)
    have hT3:=hT2.relay es1 (SetTable.grown es1.size)
    generalize relayAll t2 es1 (SetTable.grown es1.size)=Rl at hp2 hf3 hT3 ⊢
    obtain⟨es2,t3,gave2⟩:=Rl
    dsimp only at hp2 hf3 hT3 ⊢
    have hk2:(bF es2).Perm (bF es++[k]):=(hp2.map fun (e:Int×Value)=>PyProof.Rows.numOf e.2).trans hk1
    have hsz2:es2.size<scanBound:=by
     have:=hp2.length_eq
     rw[Array.length_toList,Array.length_toList] at this
     rw[this];exact hsz1
    refine wpAny_bind (gw _ (wpAny_bind (jI (s:={ s with heap:=h1 }) ho1 hsz2 fun h2 hs2 ho2=>wpAny_pure ?_)))
    exact⟨h2,es2,rfl,rfl,hs1.trans hs2,⟨⟨_,t3,ho2,hf3,hT3⟩,fun e he=>hel1 e (hp2.mem_iff.mp he),hnod1 es2 hk2⟩,hk2⟩
   ·exact wpAny_pure ⟨h1,es1,rfl,rfl,hs1,⟨⟨_,t2,ho1,hf2,hT2⟩,hel1,hnod1 es1 hk1⟩,hk1⟩
  have done:∀ r s',(∃ h' es',s'={ s with heap:=h' }∧r=some true∧Heap.SameBut a s.heap h'∧jF bt h' a es'∧(bF es').Perm (bF es++[k])) →
    wpAny (model prog w) A (match r with | some added=>pure added | none=>setAddHashedIn a (.int k tok) (hashInt k) 99999) Q E s':=fun r s' q=>by
   obtain⟨h',es',rfl,rfl,q1,q2,q3⟩:=q
   exact wpAny_pure (h h' es' q1 q2 q3 true)
  refine wpAny_bind (gw _ ?_)
  split
  ·refine wpAny_bind ?_
   rw[hashByValue_scannable 8 rfl]
   exact wpAny_pure (wpAny_mono (fin _ hfits hTn) (fun r s' q=>done r s' q) fun _ _ e=>e)
  ·exact wpAny_bind (wpAny_pure (wpAny_mono (fin _ hfits hTn) (fun r s' q=>done r s' q) fun _ _ e=>e))
end
end Mine
namespace Mine
open PySem

noncomputable def cT(w:World):Bool:=w.params.followText "set-order"
section
variable {prog:Program} {w:World} {A:Around} {E:Value→Shared→Prop} {s:Shared}

theorem eJ{Q:Bool→Shared→Prop}(h:Q (cT w) s):wpAny (model prog w) A setsByText Q E s:=by
 unfold setsByText
 exact wpAny_bind (wpAny_askSetting (wpAny_pure h))
theorem code_set_new'(a:Value){Q₁:Value→Shared→Prop}
  (h:Q₁ (.ref s.heap.objs.size) { s with heap:=s.heap.push (ie #[] 0 (.fresh 0 0 (!cT w))) }) :
  codeAny (model prog w) A (.call (.builtin "set.__new__") ⟨[.type "set",a],[]⟩) (wants Q₁ E) s:=by
 refine codeAny_of_tree ?_
 show wpAny _ A.in1 (do checkBuiltinCall "set.__new__" ⟨[.type "set",a],[]⟩;again (.builtin "set.__new__" ⟨[.type "set",a],[]⟩)) _ _ s
 refine wpAny_bind (wpAny_of_eq (F.newCall_set_1 a) (wpAny_pure ⟨plainId_quiet F.plain_set_new _,codeAny_builtin F.entry_set_new ?_⟩))
 rw[Around.under_plainId F.plain_set_new _]
 unfold Builtin.«set.__new__» Builtin.Frozenset.newClass
 have hsub:=sub_set_self
 obtain⟨hp,g,d,tk,os⟩:=s
 dsimp only
 wp_walk
 refine wpAny_askSetting (wpAny_pure ?_)
 dsimp only
 simp only[newObj]
 refine wpAny_bind (wpAny_alloc (wpAny_pure ?_))
 exact wpAny_pure h

theorem jF.move{bt:Bool}{h h':Heap}{a:Addr}{es:Array (Int×Value)}(S:jF bt h a es)(k:∀ o,h.get? a=some o→h'.get? a=some o):jF bt h' a es:=by
 obtain⟨ep,t,ho,hf,hT⟩:=S.obj
 exact⟨⟨ep,t,k _ ho,hf,hT⟩,S.el,S.nod⟩
theorem fill_loop{R:Result→Shared→Prop}{I:Addr}{fp wr:List Addr}{n:Nat}{P:Nat→Value→Prop}{St:Nat→Heap→Prop}(W:Walks prog w A.in1 I fp wr n P St)(S:Addr)(hSf:S ∉ fp){bt:Bool}
  {ns:List Int} (hval:∀ i v,P i v→∃ k t,ns[i]?=some k∧v=.int k t) (hn:ns.length=n) (hb:n+1<scanBound)
  (hR:∀ (h':Heap) (tk:Nat) es,(∀ b o,b ∉ S::wr→s.heap.get? b=some o→h'.get? b=some o)→jF bt h' S es→(∀ k,k∈bF es↔k∈ns)→R (.ok (.ret .none)) { s with heap:=h',toks:=tk }) :
  ∀ (k i:Nat) (h:Heap) (tk:Nat) (es:Array (Int×Value)),n - i=k→i≤n→St i h→(∀ b o,b ∉ S::wr→s.heap.get? b=some o→h.get? b=some o)→jF bt h S es→(∀ k,k∈bF es↔k∈ns.take i)→es.size≤i →
   codeAny (model prog w) A (.builtin "set.update.loop" ⟨[.ref S,.ref I],[]⟩) R { s with heap:=h,toks:=tk }:=by
 have hSw:S ∉ wr:=fun h=>hSf (W.sub _ h)
 intro k
 induction k with
 | zero=>
  intro i h tk es hk hi hst hkeep hS hm _
  have hin:i=n:=Nat.le_antisymm hi (Nat.le_of_sub_eq_zero hk)
  subst hin
  refine codeAny_builtin PyProof.Rows.F.entry_set_update_loop ?_
  rw[Around.under_plainId PyProof.Rows.F.plain_set_update_loop _]
  show wpAny _ A.in1 (pyNext (.ref I) >>= _) _ _ _
  refine wpAny_bind (W.done _ _ _ hst fun h' tk' hk'=>?_)
  show wpAny _ A.in1 (ret Value.none) _ _ _
  refine wpAny_pure (hR h' tk' es (fun b o hb e=>hk' b o (fun q=>hb (List.mem_cons_of_mem _ q)) (hkeep b o hb e)) (hS.move fun o e=>hk' S o hSw e) fun k=>?_)
  rw[hm k,← hn,List.take_length]
 | succ k ih=>
  intro i h tk es hk hi hst hkeep hS hm hsz
  have hlt:i<n:=Nat.lt_of_sub_pos (hk▸Nat.succ_pos k)
  refine codeAny_builtin PyProof.Rows.F.entry_set_update_loop ?_
  rw[Around.under_plainId PyProof.Rows.F.plain_set_update_loop _]
  show wpAny _ A.in1 (pyNext (.ref I) >>= _) _ _ _
  refine wpAny_bind (W.item i _ _ _ hlt hst fun v h₁ tk₁ hP hst₁ hk₁=>?_)
  obtain⟨z,t,hz,rfl⟩:=hval i v hP
  show wpAny _ A.in1 (holding [Value.int z t] (setAdd S (.int z t)) >>= _) _ _ _
  refine wpAny_bind (wpAny_holding ?_)
  unfold setAdd
  refine wpAny_holding (wpAny_bind ((intKind prog w).pyHash (k:=z) (d5 z t) ?_))
  refine wpAny_addI (s:={ s with heap:=h₁,toks:=tk₁+1 }) (hS.move fun o e=>hk₁ S o hSw e) (Nat.lt_of_le_of_lt (Nat.succ_le_succ (Nat.le_trans hsz hi)) hb) fun h₂ es₂ hs₂ hS₂ hp₂ b=>?_
  refine wpAny_pure ⟨plainId_quiet PyProof.Rows.F.plain_set_update_loop _,ih (i+1) h₂ (tk₁+1) es₂ (by rw[Nat.sub_add_eq,hk];rfl) hlt (W.frame _ _ _ hst₁ fun b hb o e=>?_) (fun b o hb e=>?_) hS₂ (fun k'=>?_) ?_⟩
  ·rw[hs₂.2 b fun q=>hSf (q▸hb)];exact e
  ·rw[hs₂.2 b fun q=>hb (q▸List.mem_cons_self)]
   exact hk₁ b o (fun q=>hb (List.mem_cons_of_mem _ q)) (hkeep b o hb e)
  ·rw[hp₂.mem_iff,List.take_add_one,hz,Option.toList_some,List.mem_append,← hm k']
   split
   ·next q=>exact⟨.inl,fun q'=>q'.elim id fun q'=>(List.mem_singleton.mp q').symm▸q⟩
   ·rw[List.mem_append]
  ·have:=hp₂.length_eq
   unfold bF at this
   rw[List.length_map,Array.length_toList] at this
   rw[this]
   split
   ·rw[List.length_map,Array.length_toList];exact Nat.le_succ_of_le hsz
   ·rw[List.length_append,List.length_map,Array.length_toList];exact Nat.succ_le_succ hsz
end
end Mine
namespace Mine
open PySem
section
variable {prog:Program} {w:World} {A:Around} {E:Value→Shared→Prop} {s:Shared}
theorem setI_fresh{h:Heap}{a:Addr}{b:Bool}(ho:h.get? a=some (ie #[] 0 (.fresh 0 0 (!b)))):jF b h a #[]:=
 ⟨⟨_,_,ho,rfl,⟨rfl,.nil,rfl⟩⟩,fun _ he=>by simp at he,.nil⟩
set_option maxRecDepth 100000 in
set_option maxHeartbeats 3200000 in
theorem call_setI{l:Addr}{items:Array Value}{n:Nat}{ns:List Int}{Q:Value→Shared→Prop}(hh:A.handled=none)(hl:s.heap.get? l=some (fC items n))(hi:∀ (i:Nat) (v:Value),items[i]?=some v→∃ (k:Int) (t:Tok),ns[i]?=some k∧v=Value.int k t)
  (hn:ns.length=items.size) (hb:items.size+1<scanBound)
  (h:∀ (h':Heap) (tk:Nat) es,(∀ b o,s.heap.get? b=some o→h'.get? b=some o)→jF (cT w) h' s.heap.objs.size es→(∀ k,k∈bF es↔k∈ns)→Q (.ref s.heap.objs.size) { s with heap:=h',toks:=tk }) :
  wpAny (model prog w) A (call (.type "set") [.ref l]) Q E s:=by
 obtain⟨c,tl,hmro⟩:=F.called_set.mro
 have hmade:=F.called_set.made
 have hsub:=F.called_set.sub
 refine wpAny_call (codeAny_of_tree ?_)
 show wpAny _ _ (callAny (.type "set") _) _ _ _
 refine wpAny_pure ⟨Code.quiet_builtin _ (by decide +kernel),codeAny_builtin F.entry_type_call ?_⟩
 rw[Around.under_plain (weight_type_call_type "set" [.ref l] []) rfl]
 have h1:=F.called_set.notType
 have h2:=F.called_set.canCreate
 have hct:=F.typeCall_set_1 (.ref l)
 repeat (any_goals (first | assumption | wp_step))
 generalize hS0:s.heap.push (ie #[] 0 (.fresh 0 0 (!cT w)))=hS
 have hget:hS.get? s.heap.objs.size=some (ie #[] 0 (.fresh 0 0 (!cT w))):=hS0▸Heap.get?_push_size _ rfl
 have hsz:hS.objs.size=s.heap.objs.size+1:=hS0▸Heap.size_push ..
 have hold:∀ b o,s.heap.get? b=some o→hS.get? b=some o:=fun b o e=>hS0▸Heap.get?_push_of_some _ e
 refine codeAny_mono (code_set_new' (.ref l) (E:=E) (Q₁:=fun obj s₁=>obj=.ref s.heap.objs.size∧s₁={ s with heap:=hS }) ⟨rfl,by rw[hS0]⟩) fun r s₁ hr=>?_
 cases r with
 | error e=>exact hr
 | ok fl=>
  cases fl with
  | ret obj=>
   obtain⟨rfl,rfl⟩:=hr
   have hT:Shared.TypeIs { s with heap:=hS } (.ref s.heap.objs.size) "set":=⟨_,hget,rfl⟩
   have hli:=F.called_set.init.lookup
   have hbi:=F.called_set.init.bind (.ref s.heap.objs.size)
   repeat (any_goals (first | assumption | wp_step))
   refine codeAny_mono (codeAny_call_builtin (R:=wants (fun r s₂=>r=.none∧Q (.ref s.heap.objs.size) s₂) E) F.called_set.init.plain F.entry_set_init (check_set_init_1 hT ?_)) fun r₂ s₂ hr₂=>?_
   ·have hol:=hold l _ hl
    have hsls:=F.sub_list_set
    have hslf:=F.sub_list_frozenset
    have hne:(Value.type "list" == Value.type "dict")=false:=by decide
    have hl1:hS.IsList l items:=⟨_,hol,rfl,n,rfl⟩
    unfold Builtin.«set.__init__» noKeywords Builtin.Frozenset.updateFrom
    generalize hPI:pyIter=PI
    wp_walk
    subst hPI
    refine wpAny_pyIter_list hl1 ?_
    refine wpAny_bind (wpAny_runValue ?_)
    have hlS:l<s.heap.objs.size:=Heap.lt_size hl
    have hneI:l≠hS.objs.size:=by rw[hsz];exact Nat.ne_of_lt (Nat.lt_succ_of_lt hlS)
    have hh3:A.in1.in1.in1.handled=none:=hh
    refine fill_loop (s:={ s with heap:=s.heap }) (Walks.list hh3 _ l hneI items) s.heap.objs.size ?_ (bt:=cT w) hi hn hb (fun h' tk es hk hS' hm=>?_) (items.size - 0) 0 _ _ #[] rfl (Nat.zero_le _)
     ⟨⟨_,Heap.get?_push_size _ rfl,rfl,rfl⟩,hl1.push _⟩ (fun b o _ e=>Heap.get?_push_of_some _ (hold b o e)) (setI_fresh (Heap.get?_push_of_some _ hget)) (fun k=>by simp[bF]) (Nat.le_refl _)
    ·rw[hsz];simp only[List.mem_cons,List.not_mem_nil,or_false,not_or]
     exact⟨Nat.ne_of_lt (Nat.lt_succ_self _),Nat.ne_of_gt hlS⟩
    ·refine wpAny_pure ?_
     show wpAny _ _ (ret Value.none) _ _ _
     refine wpAny_pure ⟨rfl,h h' tk es (fun b o e=>hk b o ?_ e) hS' hm⟩
     have hb:=Heap.lt_size e
     rw[hsz];simp only[List.mem_cons,List.not_mem_nil,or_false,not_or]
     exact⟨Nat.ne_of_lt hb,Nat.ne_of_lt (Nat.lt_succ_of_lt hb)⟩
   ·cases r₂ with
    | error e=>exact hr₂
    | ok fl₂=>
     cases fl₂ with
     | ret r=>
      obtain⟨rfl,hq⟩:=hr₂
      repeat (any_goals (first | assumption | wp_step))
     | _=>exact hr₂.elim
  | _=>exact hr.elim
end
end Mine
namespace Mine
open PySem
set_option maxRecDepth 100000

theorem cB:Slot "set_iterator" "__next__" "set_iterator.__next__":=
 .of (owner:="set_iterator") (n:="__next__") (by rw[typeLookup_type,builtinLookup_eq_fast];kernel_rfl) (by decide +kernel) (by decide +kernel) (by decide +kernel)
  (by first | exact .inl (by decide +kernel) | exact .inr (by decide +kernel)) (by rw[isSubtype_type];kernel_rfl)
theorem gW:Slot "set_iterator" "__iter__" "set_iterator.__iter__":=
 .of (owner:="set_iterator") (n:="__iter__") (by rw[typeLookup_type,builtinLookup_eq_fast];kernel_rfl) (by decide +kernel) (by decide +kernel) (by decide +kernel)
  (by first | exact .inl (by decide +kernel) | exact .inr (by decide +kernel)) (by rw[isSubtype_type];kernel_rfl)
theorem entry_setit_next:entryFor table "set_iterator.__next__"=some Builtin.«set_iterator.__next__»:=entryFor_of_tree (by kernel_rfl)
theorem entry_set_iter:entryFor table "set.__iter__"=some Builtin.«frozenset.__iter__»:=
 entryFor_alias (id':="frozenset.__iter__") (by kernel_rfl) rfl (by decide +kernel) (by kernel_rfl)
theorem entry_setit_iter:entryFor table "set_iterator.__iter__"=some Builtin.«dict_keyiterator.__iter__»:=
 entryFor_alias (id':="dict_keyiterator.__iter__") (by kernel_rfl) rfl (by decide +kernel) (by kernel_rfl)
theorem args_setit_iter(a:Value):argsOk "set_iterator.__iter__" ⟨[a],[]⟩:=by unfold argsOk;kernel_rfl
theorem args_setit_next(a:Value):argsOk "set_iterator.__next__" ⟨[a],[]⟩:=by unfold argsOk;kernel_rfl

noncomputable abbrev dZ(first:Value)(a:Addr)(i n ep:Nat):Obj:={ cls:=.type "set_iterator",dict:=Option.none,data:=.fields #[first,.int i 0,.ref a,.int n 0,.int ep 0],slots:=#[] }

section
variable {prog:Program} {w:World} {A:Around} {E:Value→Shared→Prop} {s:Shared} {I a:Addr} {first:Value} {i ep:Nat} {es:Array (Int×Value)} {t:SetTable} {Q:Option Value→Shared→Prop}

theorem iY(hit:s.heap.get? I=some (dZ first a i es.size ep))(hs:s.heap.get? a=some (ie es ep t))(hf:t.fits es.size=true)
  (h:wpAny (model prog w) A.in1 (if let .int slot _:=first then do
    match ← setNext a slot.toNat (i:Int).toNat (ep:Int).toNat with
    | some (x,next)=>
     setField (.ref I) 0 (rawInt next)
     setField (.ref I) 1 (rawInt ((i:Int)+1))
     ret x
    | none=>setField (.ref I) 2 .none;raiseNew (← newExc (.type "StopIteration") [])
   else do
    let some places ← seqItems? first | unsupported "internal:set_iterator"
    match places[(i:Int).toNat]? with
    | some (.int place _)=>
     let x ← setNextDrawn a place.toNat (ep:Int).toNat
     setField (.ref I) 1 (rawInt ((i:Int)+1))
     ret x
    | some _=>unsupported "internal:set_iterator"
    | none=>setField (.ref I) 0 (rawInt 0);setField (.ref I) 2 .none;raiseNew (← newExc (.type "StopIteration") []))
   (fun fin s'=>∃ v,fin=.done (.ret v)∧Q (some v) s') (fun e s'=>wpAny (model prog w) A (do if ← isInstance e (.type "StopIteration") then pure none else throw e) Q E s') s) :
  wpAny (model prog w) A (pyNext (.ref I)) Q E s:=by
 have hT:s.TypeIs (.ref I) "set_iterator":=⟨_,hit,rfl⟩
 unfold pyNext
 refine wpAny_bind (wpAny_attempt (wpAny_callSpecial?_slot (name:=Str.ofString "__next__") hT cB (wpAny_call_entry cB hT entry_setit_next ?_ (args_setit_next _))))
 refine wpAny_bind (wpAny_pure (wpAny_bind (wpAny_fieldsOf hit rfl ?_)))
 refine wpAny_bind (wpAny_setEntries_of hs rfl hf ?_)
 show wpAny _ _ (if (((es.size:Nat):Int) != ((es.size:Nat):Int))=true then _ else _) _ _ _
 rw[if_neg (by simp)]
 exact wpAny_mono h (fun fin s' q=>by obtain⟨v,e,q⟩:=q;exact⟨v,e,wpAny_pure q⟩) fun e s' q=>q
theorem nY(hh:A.handled=none){h₁:Heap}(h:∀ h',(∀ b o,h₁.get? b=some o→h'.get? b=some o)→Q none { s with heap:=h' }){Q':Fin→Shared→Prop} :
  wpAny (model prog w) A.in1 (do raiseNew (← newExc (.type "StopIteration") [])) Q'
   (fun e s'=>wpAny (model prog w) A (do if ← isInstance e (.type "StopIteration") then pure none else throw e) Q E s') { s with heap:=h₁ }:=by
 refine wpAny_bind ?_
 simp only[newExc,newTuple]
 refine wpAny_bind (wpAny_newObj_type ?_ (by size_fits))
 refine wpAny_bind (m:=firstArgMember _ _) (wpAny_of_eq (a:=Value.none) (by first | rfl | (simp only[firstArgMember];rfl)) ?_)
 refine wpAny_newObj_type ?_ (by size_fits)
 simp only[raiseNew]
 refine wpAny_bind (wpAny_handled ?_)
 rw[show A.in1.handled=none from hh]
 refine wpAny_bind (wpAny_pure (wpAny_throw ?_))
 refine wpAny_bind (wpAny_isInstance (T:="StopIteration") (b:=true) ⟨_,Heap.get?_push_size _ rfl,rfl⟩ isSubtype_stop ?_)
 exact wpAny_pure (h _ fun b o e=>Heap.get?_push_of_some _ (Heap.get?_push_of_some _ e))
theorem qz{slot j:Nat}{x:Value}(hit:s.heap.get? I=some (dZ (.int slot 0) a i es.size ep))(hs:s.heap.get? a=some (ie es ep t))(hf:t.fits es.size=true)
  (hN:∀ (E':Value→Shared→Prop) (Q':Option (Value×Nat)→Shared→Prop),Q' (some (x,j)) s→wpAny (model prog w) A.in1 (setNext a slot i ep) Q' E' s)
  (hQ:∀ h',h'.get? I=some (dZ (.int j 0) a (i+1) es.size ep)→Heap.SameBut I s.heap h'→Q (some x) { s with heap:=h' }):wpAny (model prog w) A (pyNext (.ref I)) Q E s:=by
 refine iY hit hs hf (wpAny_bind (hN _ _ ?_))
 refine wpAny_bind (wpAny_setField_rec hit (by simp) fun h₁ e₁ s₁=>wpAny_bind (wpAny_setField_rec (s:={ s with heap:=h₁ }) e₁ (by simp) fun h₂ e₂ s₂=>?_))
 exact wpAny_pure ⟨x,rfl,hQ h₂ e₂ (s₁.trans s₂)⟩
theorem jY(hh:A.handled=none){slot:Nat}(hit:s.heap.get? I=some (dZ (.int slot 0) a i es.size ep))(hs:s.heap.get? a=some (ie es ep t))(hf:t.fits es.size=true)
  (hN:∀ (E':Value→Shared→Prop) (Q':Option (Value×Nat)→Shared→Prop),Q' none s→wpAny (model prog w) A.in1 (setNext a slot i ep) Q' E' s)
  (hQ:∀ h',(∀ b o,b≠I→s.heap.get? b=some o→h'.get? b=some o)→Q none { s with heap:=h' }):wpAny (model prog w) A (pyNext (.ref I)) Q E s:=by
 refine iY hit hs hf (wpAny_bind (hN _ _ ?_))
 refine wpAny_bind (wpAny_setField_rec hit (by simp) fun h₁ e₁ s₁=>nY hh fun h' hk=>hQ h' fun b o hb e=>hk b o ((s₁.2 b hb).trans e))
theorem next_dr{T:Addr}{ps:Array Value}{n' pl:Nat}{tok:Tok}{x:Int×Value}(hit:s.heap.get? I=some (dZ (.ref T) a i es.size ep))(hs:s.heap.get? a=some (ie es ep t))(hf:t.fits es.size=true)
  (hT:s.heap.get? T=some (da ps n')) (hp:ps[i]?=some (.int pl tok)) (hx:es[pl]?=some x)
  (hQ:∀ h',h'.get? I=some (dZ (.ref T) a (i+1) es.size ep)→Heap.SameBut I s.heap h'→Q (some x.2) { s with heap:=h' }):wpAny (model prog w) A (pyNext (.ref I)) Q E s:=by
 refine iY hit hs hf (wpAny_bind (wpAny_seqItems hT rfl ?_))
 show wpAny _ _ (match ps[i]? with | some (Value.int place tok)=>_ | some val=>_ | none=>_) _ _ _
 rw[hp]
 refine wpAny_bind ?_
 unfold setNextDrawn
 refine wpAny_bind (wpAny_setState_of hs rfl hf ?_)
 show wpAny _ _ (if (ep != ep)=true then _ else _) _ _ _
 rw[if_neg (by simp)]
 show wpAny _ _ (match es[pl]? with | some (_,x)=>_ | _=>_) _ _ _
 rw[hx]
 refine wpAny_pure (wpAny_bind (wpAny_setField_rec hit (by simp) fun h₁ e₁ s₁=>?_))
 exact wpAny_pure ⟨x.2,rfl,hQ h₁ e₁ s₁⟩
theorem next_dr_end(hh:A.handled=none){T:Addr}{ps:Array Value}{n':Nat}(hit:s.heap.get? I=some (dZ (.ref T) a i es.size ep))(hs:s.heap.get? a=some (ie es ep t))(hf:t.fits es.size=true)
  (hT:s.heap.get? T=some (da ps n')) (hp:ps[i]?=none)
  (hQ:∀ h',(∀ b o,b≠I→s.heap.get? b=some o→h'.get? b=some o)→Q none { s with heap:=h' }):wpAny (model prog w) A (pyNext (.ref I)) Q E s:=by
 refine iY hit hs hf (wpAny_bind (wpAny_seqItems hT rfl ?_))
 show wpAny _ _ (match ps[i]? with | some (Value.int place tok)=>_ | some val=>_ | none=>_) _ _ _
 rw[hp]
 refine wpAny_bind (wpAny_setField_rec hit (by simp) fun h₁ e₁ s₁=>wpAny_bind (wpAny_setField_rec (s:={ s with heap:=h₁ }) e₁ (by simp) fun h₂ e₂ s₂=>?_))
 exact nY hh fun h' hk=>hQ h' fun b o hb e=>hk b o (((s₁.trans s₂).2 b hb).trans e)
end
end Mine
namespace Mine
open PySem

section
variable {prog:Program} {w:World} {A:Around} {E:Value→Shared→Prop} {s:Shared}
theorem wpAny_chooseI{src:Source}{n:Nat}{Q:Nat→Shared→Prop}(hn:0<n)(h:∀ i dw,i<n→Q i { s with drawn:=dw }):wpAny (model prog w) A (choose src n) Q E s:=fun _ _ _=>by
 unfold choose
 rw[Sem.wp_choose]
 exact⟨Nat.ne_of_gt hn,h _ _ (Nat.mod_lt _ hn)⟩
theorem jC{α:Type}{x:α}:∀ {l:List α} {i:Nat},l[i]?=some x→(x::l.eraseIdx i).Perm l
 | [],_,h=>by simp at h
 | y::l,0,h=>by cases h;exact List.Perm.refl _
 | y::l,i+1,h=>(List.Perm.swap y x (l.eraseIdx i)).trans (List.Perm.cons y (jC h))
theorem tx{α:Type}{Q:List α→Shared→Prop}:∀ (n:Nat) (xs:List α) (dw:Drawn),xs.length=n→(∀ ys dw',ys.Perm xs→Q ys { s with drawn:=dw' })→wpAny (model prog w) A (drawOrder n xs) Q E { s with drawn:=dw }
 | 0,xs,dw,hn,h=>wpAny_pure (h [] dw (by rw[List.eq_nil_of_length_eq_zero hn]))
 | n+1,[],dw,hn,h=>nomatch hn
 | n+1,x::xs,dw,hn,h=>by
  unfold drawOrder
  refine wpAny_bind (wpAny_chooseI (s:={ s with drawn:=dw }) (Nat.succ_pos _) fun i dw₁ hi=>?_)
  have e:(x::xs)[i]?=some (x::xs)[i]:=List.getElem?_eq_getElem hi
  rw[e]
  refine wpAny_bind (tx n _ dw₁ ?_ fun ys dw₂ hp=>wpAny_pure (h _ dw₂ ((List.Perm.cons _ hp).trans (jC e))))
  rw[List.length_eraseIdx,if_pos hi,hn];rfl
theorem su{α:Type}(next:Nat→Nat):∀ (fuel k:Nat) (left:List α) (out:Array α),left.length=fuel→(pickOrder.go next fuel k left out).toList.Perm (out.toList++left)
 | 0,k,left,out,h=>by rw[List.eq_nil_of_length_eq_zero h,List.append_nil];exact List.Perm.refl _
 | fuel+1,k,left,out,h=>by
  have hi:next k % left.length<left.length:=Nat.mod_lt _ (h▸Nat.succ_pos _)
  have e:left[next k % left.length]?=some left[next k % left.length]:=List.getElem?_eq_getElem hi
  unfold pickOrder.go
  rw[e]
  refine (su next fuel (k+1) _ _ (by rw[List.length_eraseIdx,if_pos hi,h];rfl)).trans ?_
  rw[Array.toList_push,List.append_assoc]
  exact List.Perm.append_left _ (jC e)
theorem kF{α:Type}(next:Nat→Nat)(xs:Array α):(pickOrder next xs).toList.Perm xs.toList:=su next _ 0 xs.toList #[] (Array.length_toList ..)

noncomputable def eA(t:SetTable)(i:Nat):Nat:=match i with | 0=>0 | i+1=>t.place.getD i 0+1
theorem below_slot{t:SetTable}(hr:Ris t.place){i:Nat}(hi:i≤t.place.size):SetTable.below t.place (eA t i)=i:=by
 have hb:=rq hr (eA t i)
 have mono:∀ i i' (h:i<t.place.size) (h':i'<t.place.size),i<i'→t.place[i]<t.place[i']:=fun i i' h h' l=>by
  have:=List.pairwise_iff_getElem.mp hr i i' (by simpa using h) (by simpa using h') l
  simpa using this
 rcases Nat.lt_trichotomy (SetTable.below t.place (eA t i)) i with h | h | h
 ·exfalso
  cases i with
  | zero=>exact Nat.not_lt_zero _ h
  | succ j=>
   have hj:j<t.place.size:=hi
   have e:eA t (j+1)=t.place[j]+1:=by unfold eA;dsimp only;rw[Array.getD_eq_getD_getElem?,getElem?_pos _ j hj];rfl
   have:=hb.2.2 j hj (Nat.le_of_lt_succ h)
   rw[e] at this
   exact Nat.not_succ_le_self _ this
 ·exact h
 ·exfalso
  have hlt:i<t.place.size:=Nat.lt_of_lt_of_le h hb.1
  have:=hb.2.1 i hlt h
  cases i with
  | zero=>exact Nat.not_lt_zero _ this
  | succ j=>
   have hj:j<t.place.size:=Nat.lt_of_succ_lt hlt
   have e:eA t (j+1)=t.place[j]+1:=by unfold eA;dsimp only;rw[Array.getD_eq_getD_getElem?,getElem?_pos _ j hj];rfl
   rw[e] at this
   exact Nat.lt_irrefl _ (Nat.lt_of_lt_of_le (mono j (j+1) hj hlt (Nat.lt_succ_self _)) (Nat.le_of_lt_succ this))

section
variable {a:Addr} {es:Array (Int×Value)} {ep i:Nat} {t:SetTable}
theorem oi(hb:cT w=true)(hs:s.heap.get? a=some (ie es ep t))(hf:t.fits es.size=true){Q:Option (Value×Nat)→Shared→Prop}
  (h:Q (((pickOrder (w.params.setOrder a ep) es)[i]?).map fun e=>(e.2,0)) s):wpAny (model prog w) A (setNext a 0 i ep) Q E s:=by
 unfold setNext
 refine wpAny_bind (wpAny_setState_of hs rfl hf (wpAny_bind (eJ ?_)))
 rw[hb]
 show wpAny _ _ (if (ep != ep)=true then _ else _) _ _ _
 rw[if_neg (by simp)]
 refine wpAny_bind ?_
 unfold setWalk
 refine wpAny_bind (wpAny_setState_of hs rfl hf (wpAny_bind (eJ ?_)))
 rw[hb]
 exact wpAny_bind (wpAny_askSetting (wpAny_pure (wpAny_pure h)))
theorem qy(hb:cT w=false)(hd:(!t.plain&&decide (es.size > 1))=false)(hs:s.heap.get? a=some (ie es ep t))(hf:t.fits es.size=true)(hT:dI false t)(hi:i≤es.size){Q:Option (Value×Nat)→Shared→Prop}
  (h:Q (es[i]?.map fun e=>(e.2,eA t (i+1))) s):wpAny (model prog w) A (setNext a (eA t i) i ep) Q E s:=by
 have hsz:t.place.size=es.size:=by
  simp only[SetTable.fits,Bool.and_eq_true,beq_iff_eq] at hf;exact hf.1
 unfold setNext
 refine wpAny_bind (wpAny_setState_of hs rfl hf (wpAny_bind (eJ ?_)))
 rw[hb]
 refine wpAny_ite_split (fun q=>absurd q Bool.false_ne_true) fun _=>?_
 refine wpAny_ite_split (fun q=>absurd (hd▸q:false=true) Bool.false_ne_true) fun _=>?_
 refine wpAny_bind ?_
 show wpAny _ _ (if (!t.led&&!es.isEmpty)=true then unsupported "set:maker-not-led" else pure ()) _ _ _
 rw[hT.led,if_neg (by simp)]
 refine wpAny_pure (wpAny_pure ?_)
 rw[below_slot hT.ris (hsz▸hi)]
 rcases Nat.lt_or_eq_of_le hi with hl | rfl
 ·have h1:es[i]?=some es[i]:=getElem?_pos es i hl
  have h2:t.place[i]?=some t.place[i]:=getElem?_pos _ i (hsz▸hl)
  rw[h1] at h
  rw[h1,h2]
  have e:eA t (i+1)=t.place[i]'(hsz▸hl)+1:=by unfold eA;dsimp only;rw[Array.getD_eq_getD_getElem?,h2];rfl
  rw[e] at h
  exact h
 ·have h1:es[es.size]?=none:=Array.getElem?_size
  rw[h1] at h ⊢
  exact h
end
end
end Mine
namespace Mine
open PySem

section
variable {prog:Program} {w:World} {A:Around} {E:Value→Shared→Prop} {s:Shared}

theorem js{I a:Addr}{first:Value}{i n ep:Nat}{Q:Value→Shared→Prop}(hit:s.heap.get? I=some (dZ first a i n ep))(h:Q (.ref I) s):wpAny (model prog w) A (pyIter (.ref I)) Q E s:=by
 have hT:s.TypeIs (.ref I) "set_iterator":=⟨_,hit,rfl⟩
 refine wpAny_pyIter_slot hT gW (wpAny_call_entry gW hT entry_setit_iter ?_ (args_setit_iter _))
 show wpAny _ _ (ret (.ref I)) _ _ s
 exact wpAny_pure ⟨_,rfl,"set_iterator",_,hT,cB.lookup,h⟩

theorem walks_text(hh:A.handled=none){I a:Addr}(hne:a≠I){es:Array (Int×Value)}{ep:Nat}{t:SetTable}(hb:cT w=true)(hf:t.fits es.size=true) :
  Walks prog w A I [I,a] [I] es.size (fun i v=>((pickOrder (w.params.setOrder a ep) es).toList.map (·.2))[i]?=some v) (fun i h=>h.get? I=some (dZ (.int 0 0) a i es.size ep)∧h.get? a=some (ie es ep t)) where
 sub:=fun b hb=>by rw[List.mem_singleton.mp hb];exact List.mem_cons_self
 frame:=fun _ _ _ st hk=>⟨hk I List.mem_cons_self _ st.1,hk a (List.mem_cons_of_mem _ List.mem_cons_self) _ st.2⟩
 item:=fun i s Q E hi st hQ=>by
  have hl:(pickOrder (w.params.setOrder a ep) es).size=es.size:=by have:=(kF (w.params.setOrder a ep) es).length_eq;rwa [Array.length_toList,Array.length_toList] at this
  have e:(pickOrder (w.params.setOrder a ep) es)[i]?=some ((pickOrder (w.params.setOrder a ep) es)[i]'(hl.symm▸hi)):=getElem?_pos _ i _
  refine qz (j:=0) st.1 st.2 hf (fun E' Q' q=>oi hb st.2 hf (by rw[e];exact q)) fun h' hit' hs'=>hQ _ h' s.toks ?_ ⟨hit',(hs'.2 a hne).trans st.2⟩ fun b o hb e=>(hs'.2 b fun q=>hb (q▸List.mem_cons_self)).trans e
  rw[List.getElem?_map,Array.getElem?_toList,e];rfl
 done:=fun s Q E st hQ=>by
  have hl:(pickOrder (w.params.setOrder a ep) es).size=es.size:=by have:=(kF (w.params.setOrder a ep) es).length_eq;rwa [Array.length_toList,Array.length_toList] at this
  refine jY hh st.1 st.2 hf (fun E' Q' q=>oi hb st.2 hf (by rw[Array.getElem?_eq_none (Nat.le_of_eq hl)];exact q)) fun h' hk=>hQ h' s.toks fun b o hb e=>hk b o (fun q=>hb (q▸List.mem_cons_self)) e
 self:=fun _ _ _ _ st hQ=>js st.1 hQ
theorem walks_tab(hh:A.handled=none){I a:Addr}(hne:a≠I){es:Array (Int×Value)}{ep:Nat}{t:SetTable}(hb:cT w=false)(hd:(!t.plain&&decide (es.size > 1))=false)(hf:t.fits es.size=true)(hT:dI false t) :
  Walks prog w A I [I,a] [I] es.size (fun i v=>(es.toList.map (·.2))[i]?=some v) (fun i h=>i≤es.size∧h.get? I=some (dZ (.int (eA t i) 0) a i es.size ep)∧h.get? a=some (ie es ep t)) where
 sub:=fun b hb=>by rw[List.mem_singleton.mp hb];exact List.mem_cons_self
 frame:=fun _ _ _ st hk=>⟨st.1,hk I List.mem_cons_self _ st.2.1,hk a (List.mem_cons_of_mem _ List.mem_cons_self) _ st.2.2⟩
 item:=fun i s Q E hi st hQ=>by
  have e:es[i]?=some es[i]:=getElem?_pos _ i hi
  refine qz st.2.1 st.2.2 hf (fun E' Q' q=>qy hb hd st.2.2 hf hT st.1 (by rw[e];exact q)) fun h' hit' hs'=>hQ _ h' s.toks ?_ ⟨hi,hit',(hs'.2 a hne).trans st.2.2⟩ fun b o hb e=>(hs'.2 b fun q=>hb (q▸List.mem_cons_self)).trans e
  rw[List.getElem?_map,Array.getElem?_toList,e];rfl
 done:=fun s Q E st hQ=>
  jY hh st.2.1 st.2.2 hf (fun E' Q' q=>qy hb hd st.2.2 hf hT st.1 (by rw[Array.getElem?_size];exact q)) fun h' hk=>hQ h' s.toks fun b o hb e=>hk b o (fun q=>hb (q▸List.mem_cons_self)) e
 self:=fun _ _ _ _ st hQ=>js st.2.1 hQ
theorem walks_dr(hh:A.handled=none){I a T:Addr}(hne:a≠I)(hnT:T≠I){es:Array (Int×Value)}{ep n':Nat}{t:SetTable}{ys:List Nat}(hp:ys.Perm (List.range es.size))(hf:t.fits es.size=true) :
  Walks prog w A I [I,a,T] [I] es.size (fun i v=>((ys.map fun j=>es.getD j (0,.none)).map (·.2))[i]?=some v)
   (fun i h=>h.get? I=some (dZ (.ref T) a i es.size ep)∧h.get? a=some (ie es ep t)∧h.get? T=some (da (ys.map fun (i:Nat)=>rawInt i).toArray n')) where
 sub:=fun b hb=>by rw[List.mem_singleton.mp hb];exact List.mem_cons_self
 frame:=fun _ _ _ st hk=>⟨hk I List.mem_cons_self _ st.1,hk a (List.mem_cons_of_mem _ List.mem_cons_self) _ st.2.1,hk T (List.mem_cons_of_mem _ (List.mem_cons_of_mem _ List.mem_cons_self)) _ st.2.2⟩
 item:=fun i s Q E hi st hQ=>by
  have hl:ys.length=es.size:=hp.length_eq.trans List.length_range
  obtain⟨y,e⟩:∃ y,ys[i]?=some y:=⟨_,List.getElem?_eq_getElem (hl.symm▸hi)⟩
  have hm:y<es.size:=List.mem_range.mp (hp.mem_iff.mp (List.mem_of_getElem? e))
  have e2:es[y]?=some (es[y]'hm):=getElem?_pos es y hm
  refine next_dr st.1 st.2.1 hf st.2.2 (by rw[List.getElem?_toArray,List.getElem?_map,e];rfl) e2 fun h' hit' hs'=>hQ _ h' s.toks ?_ ⟨hit',(hs'.2 a hne).trans st.2.1,(hs'.2 T hnT).trans st.2.2⟩ fun b o hb e=>(hs'.2 b fun q=>hb (q▸List.mem_cons_self)).trans e
  rw[List.getElem?_map,List.getElem?_map,e]
  show some (es.getD _ _).2=_
  rw[Array.getD_eq_getD_getElem?,e2];rfl
 done:=fun s Q E st hQ=>by
  have hl:ys.length=es.size:=hp.length_eq.trans List.length_range
  refine next_dr_end hh st.1 st.2.1 hf st.2.2 ?_ fun h' hk=>hQ h' s.toks fun b o hb e=>hk b o (fun q=>hb (q▸List.mem_cons_self)) e
  rw[List.getElem?_toArray];exact List.getElem?_eq_none (by rw[List.length_map,hl];exact Nat.le_refl _)
 self:=fun _ _ _ _ st hQ=>js st.1 hQ

theorem perm_get{es:Array (Int×Value)}{ys:List Nat}(hp:ys.Perm (List.range es.size)):((ys.map fun j=>es.getD j (0,.none)).map (·.2)).Perm (es.toList.map (·.2)):=by
 refine List.Perm.map _ ((hp.map _).trans (List.Perm.of_eq ?_))
 apply List.ext_getElem
 ·simp
 ·intro i h1 h2
  have hi:i<es.size:=by simpa using h2
  rw[List.getElem_map,List.getElem_range,Array.getD_eq_getD_getElem?,getElem?_pos es i hi,Array.getElem_toList];rfl

theorem iter_setI{a:Addr}{es:Array (Int×Value)}{Q:Value→Shared→Prop}(hS:jF (cT w) s.heap a es)(hz:es.size<scanBound)
  (h:∀ (h':Heap) (dw:Drawn) (I:Addr) (fp:List Addr) (xs:List Value) (St:Nat→Heap→Prop),(∀ b o,s.heap.get? b=some o→h'.get? b=some o)→s.heap.objs.size≤I→(∀ b∈fp,b=a∨s.heap.objs.size≤b)→xs.Perm (es.toList.map (·.2)) →
   (∀ A':Around,A'.handled=none→Walks prog w A' I fp [I] es.size (fun i v=>xs[i]?=some v) St)→St 0 h'→Q (.ref I) { s with heap:=h',drawn:=dw }):wpAny (model prog w) A (pyIter (.ref a)) Q E s:=by
 obtain⟨⟨ep,t,ho,hf,hT⟩,_,_⟩:=hS
 have hTy:s.TypeIs (.ref a) "set":=⟨_,ho,rfl⟩
 have hlt:a<s.heap.objs.size:=Heap.lt_size ho
 refine wpAny_pyIter_slot hTy F.slot_set_iter (wpAny_call_entry F.slot_set_iter hTy entry_set_iter ?_ (F.args_set_iter_1 _))
 unfold Builtin.«frozenset.__iter__» Builtin.Frozenset.slot0
 refine wpAny_bind (wpAny_bind (wpAny_pure (wpAny_pure ?_)))
 refine wpAny_bind ?_
 unfold Builtin.Frozenset.sizeOf
 refine wpAny_bind (wpAny_setEntries_of ho rfl hf (wpAny_pure ?_))
 refine wpAny_bind ?_
 unfold setDrawn
 refine wpAny_bind (wpAny_setState_of ho rfl hf (wpAny_bind (eJ (wpAny_pure ?_))))
 refine wpAny_ite_split (fun q=>?_) fun q=>?_
 ·replace q:(!cT w&&(!t.plain&&decide (es.size > 1)))=true:=q
  refine wpAny_bind (tx es.size (List.range es.size) s.drawn List.length_range fun ys dw hp=>wpAny_bind (wpAny_newTuple ?_ (by
   rw[List.length_map,hp.length_eq,List.length_range];exact fits_of_scanBound hz)))
  refine wpAny_bind (wpAny_setEpoch_of (o:=ie es ep t) (Heap.get?_push_of_some _ ho) rfl hf ?_)
  refine wpAny_bind ?_
  unfold newFields
  refine wpAny_newObj_type (wpAny_pure ⟨_,rfl,"set_iterator",_,⟨_,Heap.get?_push_size _ rfl,rfl⟩,cB.lookup,?_⟩)
  generalize hh1:s.heap.push { cls:=.type "tuple",data:=.seq (ys.map fun (i:Nat)=>rawInt i).toArray }=h₁
  have hT1:h₁.get? s.heap.objs.size=some (da (ys.map fun (i:Nat)=>rawInt i).toArray 0):=hh1▸Heap.get?_push_size _ rfl
  have hz1:h₁.objs.size=s.heap.objs.size+1:=hh1▸Heap.size_push ..
  have hk1:∀ b o,s.heap.get? b=some o→h₁.get? b=some o:=fun b o e=>hh1▸Heap.get?_push_of_some _ e
  refine h (h₁.push (dZ (.ref s.heap.objs.size) a 0 es.size ep)) dw h₁.objs.size [h₁.objs.size,a,s.heap.objs.size] _ _ (fun b o e=>Heap.get?_push_of_some _ (hk1 b o e)) (hz1.symm▸Nat.le_succ _) (fun b hb=>?_) (perm_get hp)
   (fun A' hA=>walks_dr (n':=0) (t:=t) (ep:=ep) hA (hz1.symm▸Nat.ne_of_lt (Nat.lt_succ_of_lt hlt)) (hz1.symm▸Nat.ne_of_lt (Nat.lt_succ_self _)) hp hf) ⟨Heap.get?_push_size _ rfl,Heap.get?_push_of_some _ (hk1 _ _ ho),Heap.get?_push_of_some _ hT1⟩
  rcases List.mem_cons.mp hb with rfl | hb
  ·exact .inr (hz1.symm▸Nat.le_succ _)
  ·rcases List.mem_cons.mp hb with rfl | hb
   ·exact .inl rfl
   ·rw[List.mem_singleton.mp hb];exact .inr (Nat.le_refl _)
 ·replace q:¬ (!cT w&&(!t.plain&&decide (es.size > 1)))=true:=q
  refine wpAny_bind (wpAny_pure (wpAny_bind (wpAny_setEpoch_of ho rfl hf ?_)))
  refine wpAny_bind ?_
  unfold newFields
  refine wpAny_newObj_type (wpAny_pure ⟨_,rfl,"set_iterator",_,⟨_,Heap.get?_push_size _ rfl,rfl⟩,cB.lookup,?_⟩)
  have hfp:∀ b∈[s.heap.objs.size,a],b=a∨s.heap.objs.size≤b:=fun b hb=>by
   rcases List.mem_cons.mp hb with rfl | hb
   ·exact .inr (Nat.le_refl _)
   ·exact .inl (List.mem_singleton.mp hb)
  have hne:a≠s.heap.objs.size:=Nat.ne_of_lt hlt
  have go:=fun xs St=>h (s.heap.push (dZ (.int 0 0) a 0 es.size ep)) s.drawn s.heap.objs.size [s.heap.objs.size,a] xs St (fun b o e=>Heap.get?_push_of_some _ e) (Nat.le_refl _) hfp
  cases hb:cT w with
  | true=>exact go _ _ ((kF (w.params.setOrder a ep) es).map _) (fun A' hA=>walks_text (t:=t) hA hne hb hf) ⟨Heap.get?_push_size _ rfl,Heap.get?_push_of_some _ ho⟩
  | false=>
   rw[hb] at q hT
   have hd:(!t.plain&&decide (es.size > 1))=false:=by simpa using q
   exact go _ _ (List.Perm.refl _) (fun A' hA=>walks_tab (t:=t) (ep:=ep) hA hne hb hd hf hT) ⟨Nat.zero_le _,Heap.get?_push_size _ rfl,Heap.get?_push_of_some _ ho⟩
end
end Mine
namespace Mine
open PySem

section
variable {prog:Program} {w:World} {A:Around} {E:Value→Shared→Prop} {s:Shared}
set_option maxRecDepth 100000 in
theorem hint_set{r:Addr}{Q:Bool→Shared→Prop}(hT:s.TypeIs (.ref r) "set")(h:Q false s):wpAny (model prog w) A (Builtin.List.listLengthHint (.ref r)) Q E s:=by
 unfold Builtin.List.listLengthHint
 refine wpAny_bind (wpAny_specialOf hT F.slot_set_len.lookup ?_)
 generalize hid:("set.__len__":String)=id0
 wp_delta
 rw[show splitId id0=some ("set","__len__") from by subst hid;decide +kernel]
 subst hid
 refine wpAny_bind (wpAny_isInstance (T:="set") (b:=true) hT (by rw[isSubtype_type];kernel_rfl) ?_)
 refine wpAny_ite_split (fun hab=>absurd hab (by decide)) (fun _=>?_)
 refine wpAny_ite_split (fun _=>?_) (fun hab=>absurd (by decide +kernel) hab)
 refine wpAny_bind (wpAny_typeOf hT ?_)
 exact wpAny_pure h

theorem items_list{xs:List Value}{acc:Array Value}(h:ItemsOf (fun i v=>xs[i]?=some v) acc xs.length):acc.toList=xs:=by
 apply List.ext_getElem?
 intro i
 rcases Nat.lt_or_ge i xs.length with hi | hi
 ·have hi':i<acc.size:=h.1.symm▸hi
  rw[Array.getElem?_toList,getElem?_pos acc i hi',h.2 i _ (getElem?_pos acc i hi')]
 ·rw[Array.getElem?_toList,Array.getElem?_eq_none (h.1.symm▸hi),List.getElem?_eq_none hi]

theorem extend_setI{R:Result→Shared→Prop}{a S:Addr}{es:Array (Int×Value)}(hh:A.handled=none)(hS:jF (cT w) s.heap a es)(hz:es.size<scanBound)(hSa:S≠a)(res:Value)(hL:s.heap.get? S=some (fC #[] 0))
  (hR:∀ h' tk dw acc' c',(∀ b o,b≠S→s.heap.get? b=some o→h'.get? b=some o)→h'.get? S=some (fC acc' c')→acc'.toList.Perm (es.toList.map (·.2))→R (.ok (.ret res)) { s with heap:=h',toks:=tk,drawn:=dw }) :
  wpAny (model prog w) A.in1 (Builtin.List.listExtendWith (.ref S) (.ref a) res)
   (fun fin s'=>match fin with | .done f=>R (.ok f) s' | .again c'=>c'.quiet=true∧codeAny (model prog w) A c' R s') (fun e s'=>R (.error e) s') s:=by
 have hT:s.TypeIs (.ref a) "set":=by obtain⟨ep,t,ho,_⟩:=hS.obj;exact⟨_,ho,rfl⟩
 have hSlt:S<s.heap.objs.size:=Heap.lt_size hL
 unfold Builtin.List.listExtendWith
 refine wpAny_bind (wpAny_typeOf hT ?_)
 have h1:Builtin.List.listSameRef (.ref S) (.ref a)=false:=by simp[Builtin.List.listSameRef,hSa]
 have h2:(Value.type "set" == Value.type "list")=false:=by decide
 have h3:(Value.type "set" == Value.type "tuple")=false:=by decide
 rw[h1,h2,h3]
 simp only[Bool.or_false,Bool.false_eq_true,if_false]
 refine wpAny_bind (iter_setI hS hz fun h₁ dw I fp xs St hk hI hfp hp W st=>?_)
 have hSI:S≠I:=Nat.ne_of_lt (Nat.lt_of_lt_of_le hSlt hI)
 have hSf:S ∉ fp:=fun q=>(hfp S q).elim hSa fun q=>Nat.lt_irrefl _ (Nat.lt_of_lt_of_le hSlt q)
 have hl:xs.length=es.size:=by rw[hp.length_eq,List.length_map,Array.length_toList]
 have key:∀ (h:Heap) (c₁ tk:Nat),St 0 h→(∀ b o,b≠S→s.heap.get? b=some o→h.get? b=some o)→h.get? S=some (fC #[] c₁) →
   codeAny (model prog w) A (.builtin "list.extend.loop" ⟨[.ref S,.ref I,res],[]⟩) R { s with heap:=h,toks:=tk,drawn:=dw }:=by
  intro h c₁ tk hst hk hS₁
  refine codeAny_extend_loopS (W A.in1 hh).toS (fits_of_scanBound hz) S hSf res es.size 0 _ #[] c₁ rfl (Nat.zero_le _) hst hS₁ (ItemsOf.nil _) fun s' acc' c' hm hS' hacc=>?_
  rw[Moved.eq_with hm]
  refine hR s'.heap s'.toks dw acc' c' (fun b o hb e=>hm.heap b o (fun hmem=>?_) (hk b o hb e)) hS' ?_
  ·rcases List.mem_cons.mp hmem with e' | hmem
   ·exact hb e'
   ·exact absurd (Heap.lt_size e) (by rw[List.mem_singleton.mp hmem];exact Nat.not_lt_of_le hI)
  ·rw[← hl] at hacc;rw[items_list hacc];exact hp
 have hS₁:=hk _ _ hL
 refine wpAny_bind (wpAny_holding (hint_set (s:={ s with heap:=h₁,drawn:=dw }) (by obtain⟨ep,t,ho,_⟩:=hS.obj;exact⟨_,hk _ _ ho,rfl⟩) ?_))
 refine wpAny_ite_split (fun _=>?_) (fun _=>wpAny_pure ⟨plainId_quiet PySem.F.plain_extend_loop _,key _ 0 _ st (fun b o _ e=>hk b o e) hS₁⟩)
 refine wpAny_bind (wpAny_rule (wpAny_bind ?_))
 show wpAny _ _ (updateSeq S (·.push .none) >>= fun _=>updateSeq S (·.pop)) _ _ _
 refine wpAny_bind (wpAny_updateSeq hS₁ rfl ?_)
 have hS₂:=Heap.get?_update_self (Obj.mapSeq (·.push Value.none)) hS₁ rfl
 refine wpAny_updateSeq (hz:=by seq_fits) hS₂ rfl ?_
 have hS₃:=Heap.get?_update_self (Obj.mapSeq (·.pop)) hS₂ rfl
 refine wpAny_pure ⟨plainId_quiet PySem.F.plain_extend_loop _,key _ _ _ ?_ (fun b o hb e=>?_) hS₃⟩
 ·refine (W A.in1 hh).frame 0 _ _ st fun b hb o e=>?_
  have hbS:b≠S:=fun h=>hSf (h▸hb)
  exact (Heap.get?_update_other _ _ (Ne.symm hbS)).trans ((Heap.get?_update_other _ _ (Ne.symm hbS)).trans e)
 ·exact (Heap.get?_update_other _ _ (Ne.symm hb)).trans ((Heap.get?_update_other _ _ (Ne.symm hb)).trans (hk b o e))

theorem collect_setI{a:Addr}{es:Array (Int×Value)}{Q:List Value→Shared→Prop}(hh:A.handled=none)(hS:jF (cT w) s.heap a es)(hz:es.size<scanBound)
  (h:∀ h' tk dw xs,(∀ b o,s.heap.get? b=some o→h'.get? b=some o)→xs.Perm (es.toList.map (·.2))→Q xs { s with heap:=h',toks:=tk,drawn:=dw }):wpAny (model prog w) A (collect (.ref a)) Q E s:=by
 have hlt:a<s.heap.objs.size:=by obtain⟨ep,t,ho,_⟩:=hS.obj;exact Heap.lt_size ho
 unfold collect
 refine wpAny_bind (wpAny_runValue (codeAny_builtin PyProof.Rows.entry_proto_collect' ?_))
 show wpAny _ _ (do again (.builtin "list.__iadd__" ⟨[← newList [],.ref a],[]⟩)) _ _ s
 refine wpAny_bind (wpAny_newList (wpAny_pure ⟨Code.quiet_builtin _ (by decide +kernel),codeAny_builtin PyProof.Rows.entry_list_iadd' ?_⟩))
 rw[Around.under_plainId (show plainId "list.__iadd__"=true by decide +kernel) _]
 show wpAny _ _ (Builtin.List.listExtendWith (.ref s.heap.objs.size) (.ref a) (.ref s.heap.objs.size)) _ _ _
 refine extend_setI (R:=fun r s'=>match r with
  | .ok (.ret v)=>wpAny (model prog w) A (match v with
   | .ref a=>do
    match (← load a).data with
    | .seq xs _=>pure xs.toList
    | _=>unsupported "internal:collect"
   | _=>unsupported "internal:collect") Q E s'
  | .ok _=>False
  | .error e=>E e s') (A:=A) (s:={ s with heap:=s.heap.push (fC #[] 0) }) hh (hS.move fun o e=>Heap.get?_push_of_some _ e) hz (Nat.ne_of_gt hlt) _ (Heap.get?_push_size _ rfl) fun h' tk dw acc' c' hk hL hp=>?_
 show wpAny (model prog w) A (do
   let o ← load s.heap.objs.size
   match o.data with
   | .seq xs _=>pure xs.toList
   | _=>unsupported "internal:collect") Q E { s with heap:=h',toks:=tk,drawn:=dw }
 refine wpAny_bind (wpAny_load hL (wpAny_pure (h h' tk dw _ (fun b o e=>hk b o (Nat.ne_of_lt (Heap.lt_size e)) (Heap.get?_push_of_some _ e)) hp)))
end
end Mine
namespace Mine
open PySem PyProof.Rows

section
variable {prog:Program} {w:World} {A:Around} {E:Value→Shared→Prop} {s:Shared}

theorem sorted_setI{a:Addr}{es:Array (Int×Value)}{Q:Value→Shared→Prop}(hh:A.handled=none)(hS:jF (cT w) s.heap a es)(hz:es.size<64)
  (h:∀ h' tk dw L c (out:Array Value) ns',(∀ b o,s.heap.get? b=some o→h'.get? b=some o)→(∀ b o,s.heap.get? b=some o→@LT.lt Nat _ b L)→h'.get? L=some (fC out c)→IntsAre out.toList ns'→ns'.Perm (bF es)→ns'.Pairwise (·≤·) →
   Q (.ref L) { s with heap:=h',toks:=tk,drawn:=dw }):wpAny (model prog w) A (call (.builtin "sorted") [.ref a]) Q E s:=by
 refine Calls.call_function_entry kind_sorted plain_sorted entry_sorted (args_sorted1 _) ?_
 unfold Builtin.«sorted»
 refine wpAny_bind (m:=checkCount "sorted" 1 1 _) (wpAny_pure ?_)
 refine wpAny_bind (collect_setI (A:=A.in1) hh hS (Nat.lt_trans hz (by decide)) fun h₁ tk dw xs hk hp=>?_)
 have hI:IntsAre xs (xs.map numOf):=intsAre_map xs fun v hv=>by
  obtain⟨e,he,rfl⟩:=List.mem_map.mp (hp.mem_iff.mp hv)
  obtain⟨k,tok,rfl⟩:=hS.el e he
  exact⟨k,tok,rfl⟩
 have hpn:(xs.map numOf).Perm (bF es):=by
  have:=hp.map numOf
  rwa [List.map_map] at this
 have hlen:xs.length<64:=by rw[hp.length_eq,List.length_map,Array.length_toList];exact hz
 refine wpAny_bind (wpAny_newList ?_ (by rw[sizeLine_eq];exact Nat.le_trans (Nat.le_of_lt hlen) (by decide)))
 have hoL:(h₁.push (seqObj "list" xs.toArray 0)).get? h₁.objs.size=some (seqObj "list" xs.toArray 0):=Heap.get?_push_size _ rfl
 refine wpAny_bind (wpAny_holding (wpAny_call_entry slot_list_sort ⟨_,hoL,rfl⟩ entry_list_sort (list_sort_tree hoL hI hlen fun out ns' a1 a2 a3=>⟨_,rfl,?_⟩) (args_list_sort _)))
 obtain⟨c,hc⟩:=sortedHeap_at (out:=out) (vs:=xs) hoL
 refine wpAny_pure ⟨_,rfl,h _ tk dw h₁.objs.size c out ns' (fun b o e=>?_) (fun b o e=>Heap.lt_size (hk b o e)) hc a1 (a2.trans hpn) a3⟩
 ·have hb:=Heap.lt_size (hk b o e)
  have hb':b<(h₁.push (seqObj "list" xs.toArray 0)).objs.size:=by rw[size_push'];exact Nat.lt_succ_of_lt hb
  rw[sortedHeap_old (Nat.ne_of_lt hb) hb']
  exact Heap.get?_push_of_some _ (hk b o e)
end
end Mine
namespace Mine
open PySem PySem.SeqAt

theorem mR(x z:Int):∀ l,z∈rT x l↔z=x∨z∈l
 | []=>List.mem_singleton.trans ⟨.inl,fun h=>h.elim id fun h=>nomatch h⟩
 | y::l=>by
  unfold rT
  split
  ·exact List.mem_cons
  ·split
   ·next h=>subst h;exact⟨.inr,fun h=>h.elim (fun h=>h▸List.mem_cons_self) id⟩
   ·rw[List.mem_cons,mR x z l,List.mem_cons]
    exact⟨fun h=>h.elim (fun h=>.inr (.inl h)) fun h=>h.elim .inl fun h=>.inr (.inr h),fun h=>h.elim (fun h=>.inr (.inl h)) fun h=>h.elim .inl fun h=>.inr (.inr h)⟩
theorem qP(x:Int):∀ {l:List Int},l.Pairwise (·<·)→(rT x l).Pairwise (·<·)
 | [],_=>List.pairwise_singleton _ _
 | y::l,h=>by
  have h':=List.pairwise_cons.mp h
  unfold rT
  split
  ·next hl=>exact List.pairwise_cons.mpr ⟨fun z hz=>(List.mem_cons.mp hz).elim (fun e=>e▸hl) fun hz=>Int.lt_trans hl (h'.1 z hz),h⟩
  ·split
   ·exact h
   ·next h1 h2=>exact List.pairwise_cons.mpr ⟨fun z hz=>((mR x z l).mp hz).elim (fun e=>e▸Int.lt_iff_le_and_ne.mpr ⟨Int.not_lt.mp h1,Ne.symm h2⟩) (h'.1 z),qP x h'.2⟩
theorem nR:∀ ns:List Int,(jN ns).Pairwise (·<·)
 | []=>.nil
 | x::ns=>qP x (nR ns)
theorem nS(z:Int):∀ ns:List Int,z∈jN ns↔z∈ns
 | []=>Iff.rfl
 | x::ns=>by
  show z∈rT x (jN ns)↔_
  rw[mR,nS z ns,List.mem_cons]
theorem uA:∀ {l m:List Int},l.Nodup→(∀ z∈l,z∈m)→l.length≤m.length
 | [],_,_,_=>Nat.zero_le _
 | x::l,m,hn,h=>by
  have hn':=List.nodup_cons.mp hn
  have hx:x∈m:=h x List.mem_cons_self
  have ih:=uA (m:=m.erase x) hn'.2 fun z hz=>(List.mem_erase_of_ne (fun e:z=x=>hn'.1 (e▸hz))).mpr (h z (List.mem_cons_of_mem _ hz))
  rw[List.length_erase_of_mem hx] at ih
  exact Nat.le_trans (Nat.succ_le_succ ih) (Nat.le_of_eq (Nat.sub_add_cancel (List.length_pos_of_mem hx)))
theorem qc:∀ {l m:List Int},l.Pairwise (·<·)→m.Pairwise (·<·)→(∀ z,z∈l↔z∈m)→l=m
 | [],[],_,_,_=>rfl
 | [],y::m,_,_,h=>absurd ((h y).mpr List.mem_cons_self) List.not_mem_nil
 | x::l,[],_,_,h=>absurd ((h x).mp List.mem_cons_self) List.not_mem_nil
 | x::l,y::m,hl,hm,h=>by
  have hl':=List.pairwise_cons.mp hl
  have hm':=List.pairwise_cons.mp hm
  have e:x=y:=by
   rcases List.mem_cons.mp ((h x).mp List.mem_cons_self) with e | h1
   ·exact e
   ·rcases List.mem_cons.mp ((h y).mpr List.mem_cons_self) with e | h2
    ·exact e.symm
    ·exact absurd (Int.lt_trans (hl'.1 y h2) (hm'.1 x h1)) (Int.lt_irrefl _)
  subst e
  rw[qc hl'.2 hm'.2 fun z=>?_]
  constructor
  ·intro hz
   rcases List.mem_cons.mp ((h z).mp (List.mem_cons_of_mem _ hz)) with e | hz'
   ·exact absurd (hl'.1 z hz) (e▸Int.lt_irrefl _)
   ·exact hz'
  ·intro hz
   rcases List.mem_cons.mp ((h z).mpr (List.mem_cons_of_mem _ hz)) with e | hz'
   ·exact absurd (hm'.1 z hz) (e▸Int.lt_irrefl _)
   ·exact hz'

section
variable {prog:Program} {w:World} {A:Around} {E:Value→Shared→Prop} {s:Shared} {H:Addr→Prop}
theorem intsD_at{ds:List D}{ns:List Int}{vs:List Value}(h:mQ ds=some ns)(hr:aq w.params s.heap H vs ds):vs.length=ns.length∧∀ (i:Nat) (v:Value),vs[i]?=some v→∃ (k:Int) (t:Tok),ns[i]?=some k∧v=Value.int k t:=by
 induction ds generalizing ns vs with
 | nil=>
  rw[show vs=[] from hr]
  cases h
  exact⟨rfl,fun i v e=>by rw[List.getElem?_nil] at e;cases e⟩
 | cons d ds ih=>
  cases d with
  | int k=>exact bB (o:=mQ ds) (f:=fun l=>k::l) h fun ns' h e=>e▸dg.rec (motive:=fun vs _=>vs.length=(k::ns').length∧∀ (i:Nat) (v:Value),vs[i]?=some v→∃ (k':Int) (t:Tok),(k::ns')[i]?=some k'∧v=Value.int k' t) (fun hv hr=>⟨congrArg Nat.succ (ih h hr).1,fun i v e=>by
    cases i with
    | zero=>exact Option.some.inj e▸hv.intE fun t=>⟨k,t,rfl,rfl⟩
    | succ i=>exact (ih h hr).2 i v e⟩) hr
  | _=>exact am h
theorem ints_reps{h:Heap}{P:Params}{vs:List Value}{ns:List Int}(r:PyProof.Rows.IntsAre vs ns):aq P h H vs (ns.map .int):=r.rec rfl fun n t _ _ _ ih=>.mk (.mk t) ih
theorem sset_snd{x:Value}{a d:D}(hh:A.handled=none)(hx:Rep w.params s.heap H x a)(hH:Ex s.heap H)(he:md a=some d) :
  wpAny (model prog w) A (call (.type "set") [x]) (fun v s'=>wpAny (model prog w) A (call (.builtin "sorted") [v]) (bX w s H d true) E s') E s:=by
 cases a with
 | list ds=>
  refine cz he fun hlen he=>bB he fun ns hns e=>e▸hx.listE fun l vs n ho hn hl hr=>?_
  have e12:=intsD_at hns hr
  have hvl:vs.size<63:=hr.size.symm▸hlen
  refine call_setI (ns:=ns) hh ho (fun i v e=>e12.2 i v (by rw[Array.getElem?_toList];exact e)) e12.1.symm (Nat.lt_trans (Nat.succ_lt_succ hvl) (by decide)) fun h' tk es hk hS hm=>?_
  have hes:es.size<64:=by
   have h1:(bF es).length≤ns.length:=uA hS.nod fun z hz=>(hm z).mp hz
   unfold bF at h1
   rw[List.length_map,Array.length_toList,← e12.1] at h1
   exact Nat.lt_of_le_of_lt h1 (Nat.lt_succ_of_lt hvl)
  refine sorted_setI (s:={ s with heap:=h',toks:=tk }) hh hS hes fun h₂ tk₂ dw L c out ns' hk₂ hL hoL hI hp hs=>?_
  have eN:ns'=jN ns:=qc ((hs.and (hp.nodup_iff.mpr hS.nod)).imp fun h=>Int.lt_iff_le_and_ne.mpr h) (nR ns) fun z=>by rw[hp.mem_iff,hm z,nS]
  subst eN
  have hlen':((jN ns).map D.int).length≤big:=by
   rw[List.length_map,hp.length_eq]
   unfold bF
   rw[List.length_map,Array.length_toList]
   exact Nat.le_trans (Nat.le_of_lt hes) (by decide)
  have hk':=Heap.gt_up hk
  have hL':∀ b o,gat h' b=some o→@LT.lt Nat _ b L:=fun b o e=>(Heap.gt_some e).elim fun _ q=>hL b _ q.1
  have own:gU w.params h₂ H L ((jN ns).map .int):=⟨hoL,hlen',ints_reps hI⟩
  have hnone:gat s.heap L=Option.none:=by
   cases e:gat s.heap L with
   | none=>rfl
   | some o=>exact absurd (hL' L o (hk' _ _ e)) (Nat.lt_irrefl _)
  exact⟨.mk h₂ tk₂ dw fun b o e=>Heap.gt_up hk₂ b o (hk' b o e),own.rep fun q=>(hH L q).elim fun b q=>q.elim fun o q=>absurd (hL' b o (hk' b o q.2)) (Nat.not_lt_of_le q.1),fun _=>⟨hnone,own⟩⟩
 | _=>exact am he
end
section
variable {prog:Program} {w:World} {A:Around} {s:Shared} {base:Heap} {mg mb:Str→Option Value} {cf:CF}
theorem sf_sset(G:GOk mg mb base)(hh:A.handled=none){a:ME}(ha:SE prog w A base cf a):SF prog w A base cf (.sset a):=fun s env e H ρ m d fr E hc c he=>
 eL he rfl fun he hf=>evi_sset he fun dx hx hd=>iR.rec (motive:=fun e _=>wpAny (model prog w) A (eval e env) (bX w s H d fr) E s) (fun {gp y pos} hg hy=>iR.rec (motive:=fun y _=>wpAny (model prog w) A (eval (.Call (.Name (Str.ofString "sorted") gp) [y] [] pos) env) (bX w s H d fr) E s) (fun {gp2 x p} hg2 h=>by
  have hc1:bW env.kindOf [.Call (.Name (Str.ofString "set") gp2) [x] [] p] [.blt "set" [a]]=true:=tT (show (Str.ofString "set" == Str.ofString "set"&&bY env.kindOf (Str.ofString "set")&&bW env.kindOf [x] [a])=true from by rw[hg2,tT h];decide)
  refine PyProof.Rows.Call_Name rfl (eu G (f:="sorted") (by decide) c.R c.hw hg (dO hc1 (Calls.spliced_cons ?_)))
  refine PyProof.Rows.Call_Name rfl (eu G (f:="set") (by decide) c.R c.hw hg2 (dO (tT h) (Calls.spliced_cons ?_)))
  refine ha.go h c hx fun v s₁ q₁=>Calls.spliced_nil (bj (sset_snd hh q₁.r (c.k q₁.k).x hd) fun u s₂ q₂=>Calls.spliced_nil (bj q₂ fun v s₃ q₃=>?_))
  exact hf▸q₃.tr q₁.k) hy) (qL hc)
end
end Mine
namespace Mine
open PySem PyProof.Rows PySem.SeqAt PySem.W

noncomputable def InT(n:Nat){α:Type}(R:α→Prop):KasT α→Prop
 | .ret a=>R a
 | .ask i j k=>i<n∧j<n∧∀ b,InT n R (k b)
theorem InT.bind{n:Nat}{α β:Type}{R:α→Prop}{T:β→Prop}{f:α→KasT β}(hf:∀ a,R a→InT n T (f a)):∀ {t:KasT α},InT n R t→InT n T (t.bind f)
 | .ret a,h=>hf a h
 | .ask _ _ _,h=>⟨h.1,h.2.1,fun b=>InT.bind hf (h.2.2 b)⟩
theorem InT.run{n:Nat}{α:Type}{R:α→Prop}(lt:Nat→Nat→Bool):∀ {t:KasT α},InT n R t→R (bU lt t)
 | .ret _,h=>h
 | .ask i j k,h=>InT.run (t:=k (lt i j)) lt (h.2.2 _)
theorem InT.wp{n:Nat}{α:Type}{R:α→Prop}{lt:Nat→Nat→Bool}{cmp:Nat→Nat→(Bool→Shared→Prop)→Shared→Prop}{s:Shared}{Q:α→Shared→Prop}(hc:∀ i j C,i<n→j<n→C (lt i j) s→cmp i j C s):∀ {t:KasT α},InT n R t→Q (bU lt t) s→t.kasWp cmp Q s
 | .ret _,_,h=>h
 | .ask i j _,k,h=>hc i j _ k.1 k.2.1 (InT.wp hc (k.2.2 _) h)
noncomputable def Pm(n:Nat)(p:Array Nat):Prop:=p.Perm (List.range n).toArray
section
variable {n:Nat}
theorem Pm.lt{p:Array Nat}(h:Pm n p)(h0:0<n)(k:Nat):p.getD k 0<n:=by
 unfold Array.getD
 split
 ·exact List.mem_range.mp (h.mem_iff.mp (Array.getElem_mem _) |> fun q=>by simpa using q)
 ·exact h0
theorem Pm.rev{p:Array Nat}(h:Pm n p)(i j:Nat):Pm n (kas_rev p i j):=(mirror_perm _ _ _ _).trans h
theorem rU{p:Array Nat}(hp:Pm n p)(h0:0<n):∀ f m,InT n (fun _=>True) (kas_asc p f m)
 | 0,_=>trivial
 | f+1,m=>⟨hp.lt h0 _,hp.lt h0 _,fun b=>by cases b;exact rU hp h0 f (m+1);exact trivial⟩
theorem lT(h0:0<n):∀ f (p:Array Nat) m q,Pm n p→InT n (fun r=>Pm n r.1) (kas_desc f p m q)
 | 0,_,_,_,hp=>hp
 | f+1,p,m,q,hp=>⟨hp.lt h0 _,hp.lt h0 _,fun b=>by
  cases b with
  | true=>
   show InT n _ (if q > 0 then _ else _)
   split
   ·exact lT h0 f _ _ _ (hp.rev _ _)
   ·exact lT h0 f _ _ _ hp
  | false=>exact⟨hp.lt h0 _,hp.lt h0 _,fun b=>by cases b;exact lT h0 f _ _ _ hp;exact hp⟩⟩
theorem qQ{p:Array Nat}(h0:0<n)(m k:Nat)(hp:Pm n p):InT n (fun r=>Pm n r.2) (kas_tail3 m k p):=InT.bind (n:=n) (T:=fun r:Nat×Array Nat=>Pm n r.2) (f:=fun k=>.ret (k,kas_rev p 0 m)) (fun _ _=>hp.rev 0 m) (rU (hp.rev 0 m) h0 _ _)
theorem lv{p:Array Nat}(h0:0<n)(m k:Nat)(hp:Pm n p):InT n (fun r=>Pm n r.2) (kas_descPart m k p):=(lT h0 _ _ _ _ hp).bind fun r hr=>by
 show InT n _ (if _ then _ else _)
 split
 ·exact qQ h0 _ _ (hr.rev _ _)
 ·exact qQ h0 _ _ hr
theorem in_count{p:Array Nat}(h0:0<n)(k:Nat)(hp:Pm n p):InT n (fun r=>Pm n r.2) (kas_count k p):=(rU hp h0 _ _).bind fun m _=>by
 show InT n _ (if _ then _ else _)
 split
 ·exact hp
 ·split
  ·exact⟨hp.lt h0 _,hp.lt h0 _,fun b=>by cases b;exact lv h0 _ _ (hp.rev _ _);exact hp⟩
  ·exact lv h0 _ _ hp
theorem mS{p:Array Nat}(hp:Pm n p)(h0:0<n)(k:Nat):∀ f l r,InT n (fun _=>True) (kas_place p k f l r)
 | 0,_,_=>trivial
 | f+1,l,r=>by
  show InT n _ (if _ then _ else _)
  split
  ·exact trivial
  ·exact⟨hp.lt h0 _,hp.lt h0 _,fun b=>by cases b;exact mS hp h0 k f _ _;exact mS hp h0 k f _ _⟩
theorem uJ(h0:0<n):∀ f (p:Array Nat) k,Pm n p→InT n (Pm n) (kas_bin f p k)
 | 0,_,_,hp=>hp
 | f+1,_,k,hp=>(mS hp h0 k _ _ _).bind fun _ _=>uJ h0 f _ _ ((bubble_perm _ _ _).trans hp)
theorem s9(h0:0<n):InT n (Pm n) (kas_sort n):=(in_count h0 n (Array.Perm.refl _)).bind fun r hr=>by
 show InT n _ (if _ then _ else _)
 split
 ·exact uJ h0 _ _ _ hr
 ·exact hr
end
theorem j5(ks:List D):(kix ks).Perm (List.range ks.length):=by
 unfold kix
 split
 ·exact List.Perm.refl _
 ·next h=>exact ((s9 (Nat.lt_of_lt_of_le Nat.two_pos (Nat.not_lt.mp h))).run _).toList

inductive dT(h:Heap):Value→D→Prop where
 | int {a:Addr} {i:Int} {t:Tok} {n:Nat} (e:h.get? a=some (da #[.bool false,.int i t] n)):dT h (.ref a) (.int i)
 | str {a:Addr} {x:Str} {t:Tok} {n:Nat} (e:h.get? a=some (da #[.bool true,.str x t] n)):dT h (.ref a) (.str x)
theorem dT.keeps{h h':Heap}{k:Value}{d:D}(q:dT h k d)(hk:∀ a xs n,h.get? a=some (da xs n)→h'.get? a=some (da xs n)):dT h' k d:=q.rec (fun e=>.int (hk _ _ _ e)) fun e=>.str (hk _ _ _ e)
theorem dT.first{h:Heap}{k:Value}{d:D}(q:dT h k d):∃ a b v n,k=.ref a∧h.get? a=some (da #[.bool b,v] n):=q.rec (fun e=>⟨_,_,_,_,rfl,e⟩) fun e=>⟨_,_,_,_,rfl,e⟩

section
variable {prog:Program} {w:World} {A:Around} {E:Value→Shared→Prop} {s:Shared}
theorem mr{a b:Bool}{Q:Bool→Shared→Prop}(h:Q (!a&&b) s):wpAny (model prog w) A (oneLt' true (.bool a) (.bool b)) Q E s:=by
 rw[oneLt'_eq,if_pos rfl]
 refine wpAny_bind (wpAny_cRoomFor_byValue rfl ?_)
 refine wpAny_bind (wpAny_callSpecialIfBound?_slot (typeIs_bool' s a) PySem.F.slot_bool_lt (wpAny_call_entry PySem.F.slot_bool_lt (typeIs_bool' s a) PySem.F.entry_int_lt ?_ (PySem.F.args_int_lt_2 _ _)))
 have e:Builtin.«int.__lt__» ⟨[.bool a,.bool b],[]⟩=ret (.bool (!a&&b)):=by cases a <;> cases b <;> rfl
 rw[e]
 exact wpAny_pure ⟨_,rfl,wpAny_truthy_bool h⟩
theorem sL{a b:Addr}{k:Bool}{v u:Value}{n m:Nat}{Q:Bool→Shared→Prop}{e c:Bool}(ha:s.heap.get? a=some (da #[.bool k,v] n))(hb:s.heap.get? b=some (da #[.bool k,u] m))(he:EqAt A s v u e)(h:Q c s)(h1:e=true→c=false)(h2:wpAny (model prog w) A (compareOp .Lt v u) (W.BoolBack Q) (fun _ _=>False) s) :
  wpAny (model prog w) A (keyLt' (tuples' true) (.ref a) (.ref b)) Q E s:=by
 refine kat_lt ha rfl hb rfl (kat_cons (EqAt.bool_bool _ _ prog w _ _ ?_))
 rw[beq_self_eq_true]
 refine kat_yes (kat_cons (he prog w _ _ ?_))
 cases e with
 | true=>exact kat_yes (kat_nil (show Q false s from h1 rfl▸h))
 | false=>exact kat_no (kat_one _ _ h2)
theorem key_lt{x y:Value}{c d:D}{Q:Bool→Shared→Prop}(hx:dT s.heap x c)(hy:dT s.heap y d)(h:Q (aI c d) s):wpAny (model prog w) A (keyLt' (tuples' true) x y) Q E s:=by
 cases hx with
 | int ha=>cases hy with
  | int hb=>exact sL ha hb (EqAt.int_int _ _ _ _) h (fun e=>decide_eq_false fun q=>absurd (eq_of_beq e) (Int.ne_of_lt q)) (PyProof.Rows.lt_int h)
  | str hb=>exact kat_lt ha rfl hb rfl (kat_cons (EqAt.bool_bool _ _ prog w _ _ (kat_no (mr h))))
 | str ha=>cases hy with
  | int hb=>exact kat_lt ha rfl hb rfl (kat_cons (EqAt.bool_bool _ _ prog w _ _ (kat_no (mr h))))
  | str hb=>exact sL ha hb (EqAt.str_str _ _ _ _) h (fun e=>decide_eq_false fun q=>absurd (congrArg (·.cps.toList) (eq_of_beq e)) fun r=>List.lt_irrefl _ (r▸q)) (PyProof.Rows.lt_str h)

noncomputable def dS(h:Heap)(keys:List Value)(ds:List D):Prop:=keys.length=ds.length∧∀ p∈keys.zip ds,dT h p.1 p.2
theorem dS.snoc{h:Heap}{keys:List Value}{ds:List D}{k:Value}{d:D}(K:dS h keys ds)(hk:dT h k d):dS h (keys++[k]) (ds++[d]):=
 ⟨by rw[List.length_append,List.length_append,K.1];rfl,fun p hp=>by
  rw[List.zip_append K.1] at hp
  exact (List.mem_append.mp hp).elim (K.2 p) fun q=>List.mem_singleton.mp q▸hk⟩
theorem dS.keeps{h h':Heap}{keys:List Value}{ds:List D}(K:dS h keys ds)(hk:∀ a xs n,h.get? a=some (da xs n)→h'.get? a=some (da xs n)):dS h' keys ds:=⟨K.1,fun p hp=>(K.2 p hp).keeps hk⟩
theorem dS.rev{h:Heap}{keys:List Value}{ds:List D}(K:dS h keys ds)(b:Bool):dS h (katRev b keys) (katRev b ds):=by
 cases b with
 | false=>exact K
 | true=>exact⟨by show keys.reverse.length=ds.reverse.length;rw[List.length_reverse,List.length_reverse,K.1],fun p hp=>K.2 p (List.mem_reverse.mp ((List.reverse_zipWith (f:=Prod.mk) K.1)▸hp))⟩
theorem dS.at{h:Heap}{keys:List Value}{ds:List D}(K:dS h keys ds){i:Nat}(hi:i<ds.length):dT h (keys.getD i .none) (dF ds i):=by
 have hi':i<keys.length:=K.1.symm▸hi
 unfold dF
 rw[List.getD_eq_getElem?_getD,List.getD_eq_getElem?_getD,List.getElem?_eq_getElem hi',List.getElem?_eq_getElem hi]
 have hz:i<(keys.zip ds).length:=by rw[List.length_zip,K.1,Nat.min_self];exact hi
 have q:=K.2 _ (List.getElem_mem hz)
 rw[List.getElem_zip] at q
 exact q
theorem keys_kind{keys:List Value}{ds:List D}{Q:SortKind→Shared→Prop}(K:dS s.heap keys ds)(h2:2≤ds.length)(h:Q (tuples' true) s):wpAny (model prog w) A (keyKind' keys.toArray) Q E s:=by
 have go:∀ (ks:List Value),(∀ k∈ks,∃ a b v n,k=.ref a∧s.heap.get? a=some (da #[.bool b,v] n))→∃ fs:List Value,KatTups s.heap ks fs∧fs.length=ks.length∧∀ v∈fs,∃ b,v=.bool b:=by
  intro ks
  induction ks with
  | nil=>exact fun _=>⟨[],.nil,rfl,fun _ q=>nomatch q⟩
  | cons k ks ih=>
   intro hk
   obtain⟨fs,h1,h2,h3⟩:=ih fun k' q=>hk k' (List.mem_cons_of_mem _ q)
   obtain⟨a,b,v,n,rfl,ho⟩:=hk k List.mem_cons_self
   exact⟨.bool b::fs,.cons ho rfl rfl rfl h1,congrArg Nat.succ h2,fun u q=>(List.mem_cons.mp q).elim (fun e=>⟨_,e⟩) (h3 u)⟩
 obtain⟨fs,h1,h3,h4⟩:=go keys fun k hk=>by
  obtain⟨i,hi,e⟩:=List.getElem_of_mem hk
  have q:=K.at (K.1▸hi)
  rw[List.getD_eq_getElem?_getD,List.getElem?_eq_getElem hi,Option.getD_some,e] at q
  exact q.first
 refine kat_kind (T:=.type "bool") h1 (by rw[h3,K.1];exact Nat.lt_of_lt_of_le Nat.two_pos h2) (fun v hv=>?_) rfl h
 obtain⟨b,rfl⟩:=h4 v hv
 exact .now
end
end Mine
namespace Mine
open PySem PyProof.Rows PySem.SeqAt PySem.W

section
variable {prog:Program} {w:World} {A:Around} {E:Value→Shared→Prop} {s:Shared} {a kS:Addr} {rev:Bool} {vs:List Value} {ds:List D} {keys:List Value} {f:Value} {e e1:Nat} {P:PySem.Fin→Shared→Prop}

theorem ff{n m:Nat}(h:n<64)(hm:n=m):m≤sizeLine:=by rw[← hm,sizeLine_eq];exact Nat.le_trans (Nat.le_of_lt h) (by decide)
noncomputable abbrev Kp2(a b:Addr)(h h':Heap):Prop:=∀ c o,c≠a→c≠b→gat h c=some o→gat h' c=some o
theorem key_tail{st:SortSt}{out:List Value}(hX:(arrOf st).map (·.2)=(katRev rev out).toArray)(hk:s.heap.get? kS=some (seqObj "list" keys.toArray e))(ha:s.heap.get? a=some (seqObj "list" #[] e1))(hka:kS≠a)(hz:keys.length<64)(hz2:out.length=keys.length)(hf:failedOf st=none)
  (h:∀ h' c,Kp2 a kS s.heap h'→h'.get? a=some (seqObj "list" out.toArray c)→P (.done (.ret .none)) { s with heap:=h' }) :
  wpAny (model prog w) A (ksk_tail a rev e1 (.ref kS) st) P E s:=by
 have s1:=Heap.SameBut.update s.heap kS (Obj.mapSeq fun _=>(#[]:Array Value))
 have na1:(s.heap.update kS (Obj.mapSeq fun _=>(#[]:Array Value))).get? a=some (seqObj "list" #[] e1):=(s1.2 a hka.symm).trans ha
 have s2:=Heap.SameBut.update (s.heap.update kS (Obj.mapSeq fun _=>(#[]:Array Value))) a (Obj.mapSeq fun _=>out.toArray)
 have hc2:=get?_update_seq na1 fun _=>out.toArray
 delta ksk_tail
 dsimp only
 rw[hX,kat_outs,show katRev rev (katRev rev out)=out from by cases rev;rfl;exact List.reverse_reverse _,hf]
 refine wpAny_bind (listUpdate_at hk rfl ?_ (ff hz rfl) (Nat.zero_le _))
 refine wpAny_bind (wpAny_letGo ?_)
 refine wpAny_bind (seqEpoch_at na1 rfl ?_)
 refine wpAny_bind (listUpdate_at na1 rfl ?_ (Nat.zero_le _) (Nat.le_succ_of_le (ff hz hz2.symm)))
 rw[bne_self_eq_false,if_neg Bool.false_ne_true]
 exact wpAny_pure (h _ _ (fun b o h1 h2 q=>g1 s2 (bH na1) b h1 (g1 s1 (bH hk) b h2 q)) hc2)

theorem qA{α:Type}{z:α}(l:List α):(List.range l.length).map (fun i=>l.getD i z)=l:=by
 apply List.ext_getElem
 ·rw[List.length_map,List.length_range]
 ·intro i h1 h2
  rw[List.getElem_map,List.getElem_range,List.getD_eq_getElem?_getD,List.getElem?_eq_getElem h2];rfl
theorem mf{α:Type}{z:α}{b:Bool}{ks:List D}{l:List α}:(fR z b ks l).length=ks.length:=by
 unfold fR;rw[kat_len,List.length_map,(j5 _).length_eq,List.length_range,kat_len]
theorem key_end(hk:s.heap.get? kS=some (seqObj "list" keys.toArray e))(ha:s.heap.get? a=some (seqObj "list" #[] e1))(hka:kS≠a)(K:dS s.heap keys ds)(hl:vs.length=ds.length)(hz:ds.length<64)
  (h:∀ h' c,Kp2 a kS s.heap h'→h'.get? a=some (seqObj "list" (fR .none rev ds vs).toArray c)→P (.done (.ret .none)) { s with heap:=h' }) :
  wpAny (model prog w) A (ksk_end a rev vs.toArray e1 (.ref kS) keys.toArray) P E s:=by
 have hkl:keys.length=vs.length:=K.1.trans hl.symm
 have hlr:(katRev rev keys).length=(katRev rev vs).length:=by rw[kat_len,kat_len,hkl]
 have tail:∀ (st:SortSt),failedOf st=none→(arrOf st).map (·.2)=((kix (katRev rev ds)).map fun i=>(katRev rev vs).getD i Value.none).toArray→wpAny (model prog w) A (ksk_tail a rev e1 (.ref kS) st) P E s:=fun st hf hX=>
  key_tail (out:=fR .none rev ds vs) (by rw[hX];unfold fR;cases rev;rfl;exact congrArg _ (List.reverse_reverse _).symm) hk ha hka (K.1.symm▸hz) (mf.trans K.1.symm) hf h
 have step:∀ t:Sem PySem.Fin,wpAny (model prog w) A t P E s→wpAny (model prog w) A (if rev=true then (do let _ ← rule "list.sort.reverse";t) else t) P E s:=by
  intro t ht
  split
  ·exact wpAny_bind (wpAny_rule ht)
  ·exact ht
 delta ksk_end
 dsimp only
 refine step _ ?_
 rw[kat_pairs rev hkl]
 by_cases h2:vs.toArray.size<2
 ·rw[if_pos h2,if_pos h2]
  refine wpAny_bind (wpAny_pure ?_)
  rw[StateT.run_pure]
  refine wpAny_bind (wpAny_pure (tail _ rfl ?_))
  unfold kix
  rw[if_pos (by rw[kat_len,← hl];exact h2),kat_len,← hl,← kat_len rev vs,qA]
  show Array.map (·.2) ((katRev rev keys).toArray.zip (katRev rev vs).toArray)=_
  apply Array.ext'
  rw[Array.toList_map,ksk_zip]
  exact List.map_snd_zip (Nat.le_of_eq hlr.symm)
 ·rw[if_neg h2,if_neg h2]
  have h2':2≤ds.length:=hl▸Nat.not_lt.mp h2
  refine wpAny_bind (keys_kind K h2' ?_)
  have hn:(katRev rev vs).length=(katRev rev ds).length:=by rw[kat_len,kat_len,hl]
  refine wpAny_bind (wpAny_mono (kat_run (Q:=fun st s'=>s'=s∧failedOf st=none∧(arrOf st).map (·.2)=((kix (katRev rev ds)).map fun i=>(katRev rev vs).getD i Value.none).toArray) (G:=fun p s'=>s'=s∧p.toList=kix (katRev rev ds)) hlr (by rw[hn,kat_len];exact h2') (by rw[hn,kat_len];exact hz)
   (fun p st s' _ h2 h3 h4=>⟨h4.1,h3,(kat_snds hlr h2).trans (h4.2▸rfl)⟩) ?_) (fun r s' q=>?_) fun _ _ x=>x)
  ·refine InT.wp (lt:=fun i j=>aI (dF (katRev rev ds) i) (dF (katRev rev ds) j)) (fun i j C hi hj hC=>?_) (s9 (by rw[hn,kat_len];exact Nat.lt_of_lt_of_le Nat.two_pos h2')) ⟨rfl,?_⟩
   ·rw[hn] at hi hj
    exact key_lt ((K.rev rev).at hi) ((K.rev rev).at hj) hC
   ·unfold kix
    rw[if_neg (by rw[kat_len];exact Nat.not_lt.mpr h2'),hn]
  ·obtain⟨⟨⟩,st⟩:=r
   obtain⟨rfl,hf,hX⟩:=q
   exact tail st hf hX

theorem key_rest(hk:s.heap.get? kS=some (seqObj "list" #[] 0))(ha:s.heap.get? a=some (seqObj "list" #[] e1))(hka:kS≠a)(hl:vs.length=ds.length)(hz:ds.length<64)
  (turn:∀ (i:Nat) (v:Value) (d:D),vs[i]?=some v→ds[i]?=some d→∀ h tk dw,Kp2 a kS s.heap h →
   wpAny (model prog w) A (call f [v]) (fun k s'=>bz { s with heap:=h,toks:=tk,drawn:=dw } s'∧dT s'.heap k d) (fun _ _=>False) { s with heap:=h,toks:=tk,drawn:=dw })
  (h:∀ h' tk dw c,Kp2 a kS s.heap h'→h'.get? a=some (seqObj "list" (fR .none rev ds vs).toArray c)→P (.done (.ret .none)) { s with heap:=h',toks:=tk,drawn:=dw }) :
  wpAny (model prog w) A (ksk_rest a f rev vs.toArray e1 (.ref kS)) P E s:=by
 delta ksk_rest
 refine wpAny_bind (wpAny_rule ?_)
 rw[List.forIn_toArray]
 refine wpAny_bind (ksk_fold (fun i s'=>∃ h' tk dw ks e,s'={ s with heap:=h',toks:=tk,drawn:=dw }∧Kp2 a kS s.heap h'∧h'.get? kS=some (seqObj "list" (List.toArray ks) e)∧h'.get? a=some (seqObj "list" #[] e1)∧dS h' ks (ds.take i)) vs 0 s
  ⟨s.heap,s.toks,s.drawn,[],0,rfl,fun _ _ _ _ q=>q,hk,ha,by rw[List.take_zero];exact⟨rfl,fun _ q=>nomatch q⟩⟩ ?step ?done)
 case step=>
  rintro j x s' hx ⟨h',tk,dw,ks,e,rfl,hkp,hk',ha',K⟩
  rw[Nat.zero_add] at K ⊢
  have hj:j<ds.length:=hl▸(List.getElem?_eq_some_iff.mp hx).1
  have hks:ks.length+1<64:=by rw[K.1,List.length_take,Nat.min_eq_left (Nat.le_of_lt hj)];exact Nat.lt_of_le_of_lt hj hz
  refine wpAny_bind (wpAny_attempt (wpAny_mono (turn j x ds[j] hx (List.getElem?_eq_getElem hj) h' tk dw hkp) (fun v s'' q=>?_) fun _ _ hF=>hF.elim))
  obtain⟨⟨g,tk2,dw2,hg⟩,hv⟩:=q
  have hk2:=Heap.of_gt (hg _ _ (Heap.gt_of hk'))
  have s1:=Heap.SameBut.update g kS (Obj.mapSeq (·.push v))
  have hc2:=get?_update_seq hk2 (·.push v)
  refine wpAny_bind (listUpdate_at hk2 rfl ?_ (ff (Nat.lt_of_succ_lt hks) rfl) (Nat.le_succ_of_le (ff hks (Array.size_push v).symm)))
  refine wpAny_pure ⟨rfl,_,tk2,dw2,ks++[v],_,rfl,fun b o h1 h2 q=>g1 s1 (bH hk2) b h2 (hg b o (hkp b o h1 h2 q)),by rw[← List.push_toArray];exact hc2,(s1.2 a hka.symm).trans (Heap.of_gt (hg _ _ (Heap.gt_of ha'))),?_⟩
  rw[List.take_add_one,List.getElem?_eq_getElem hj]
  refine ((K.keeps fun b xs n q=>Heap.of_gt (hg _ _ (Heap.gt_of q))).snoc hv).keeps fun b xs n q=>(s1.2 b fun r=>?_).trans q
  rw[r,hk2] at q
  exact absurd (congrArg Obj.cls (Option.some.inj q)) (show ¬ Value.type "list"=Value.type "tuple" by decide)
 case done=>
  rintro s' ⟨h',tk,dw,ks,e,rfl,hkp,hk',ha',K⟩
  rw[Nat.zero_add,hl,List.take_length] at K
  refine wpAny_bind (listItems_at hk' rfl ?_)
  exact key_end (s:={ s with heap:=h',toks:=tk,drawn:=dw }) hk' ha' hka K hl hz fun h'' c h1 h2=>h h'' tk dw c (fun b o n1 n2 q=>h1 b o n1 n2 (hkp b o n1 n2 q)) h2

theorem key_tree{n:Nat}(ho:s.heap.get? a=some (seqObj "list" vs.toArray n))(hl:vs.length=ds.length)(hz:ds.length<64)
  (turn:∀ (i:Nat) (v:Value) (d:D),vs[i]?=some v→ds[i]?=some d→∀ h tk dw,(∀ b o,b≠a→gat s.heap b=some o→gat h b=some o) →
   wpAny (model prog w) A (call f [v]) (fun k s'=>bz { s with heap:=h,toks:=tk,drawn:=dw } s'∧dT s'.heap k d) (fun _ _=>False) { s with heap:=h,toks:=tk,drawn:=dw })
  (h:∀ h' tk dw c,(∀ b o,b≠a→gat s.heap b=some o→gat h' b=some o)→h'.get? a=some (seqObj "list" (fR .none rev ds vs).toArray c)→P (.done (.ret .none)) { s with heap:=h',toks:=tk,drawn:=dw }) :
  wpAny (model prog w) A (ksk_tree a f rev) P E s:=by
 have ha:a<s.heap.objs.size:=Heap.lt_size ho
 have s1:=Heap.SameBut.update s.heap a (Obj.mapSeq fun _=>(#[]:Array Value))
 have ho1:=get?_update_seq ho fun _=>(#[]:Array Value)
 have hkS:((s.heap.update a (Obj.mapSeq fun _=>(#[]:Array Value))).push (seqObj "tuple" vs.toArray 0)).objs.size=s.heap.objs.size+1:=by rw[size_push',Heap.size_update]
 have hkp:∀ b o,b≠a→gat s.heap b=some o→(gat (((s.heap.update a (Obj.mapSeq fun _=>(#[]:Array Value))).push (seqObj "tuple" vs.toArray 0)).push (seqObj "list" #[] 0)) b=some o∧b≠s.heap.objs.size+1):=fun b o hb q=>
  ⟨Heap.gt_push_of_some _ (Heap.gt_push_of_some _ (g1 s1 (bH ho) b hb q)),Nat.ne_of_lt (Nat.lt_succ_of_lt (Heap.gt_lt q))⟩
 delta ksk_tree
 refine wpAny_bind (listItems_at ho rfl ?_)
 refine wpAny_bind (listUpdate_at ho rfl ?_ (ff hz hl.symm) (Nat.zero_le _))
 refine wpAny_bind (seqEpoch_at ho1 rfl ?_)
 refine wpAny_bind (wpAny_newTuple ?_ (ff hz hl.symm))
 refine wpAny_bind (wpAny_newList ?_ (Nat.zero_le _))
 refine wpAny_holding ?_
 exact key_rest (s:={ s with heap:=((s.heap.update a (Obj.mapSeq fun _=>(#[]:Array Value))).push (seqObj "tuple" vs.toArray 0)).push (seqObj "list" #[] 0) }) (kS:=((s.heap.update a (Obj.mapSeq fun _=>(#[]:Array Value))).push (seqObj "tuple" vs.toArray 0)).objs.size)
  (Heap.get?_push_size _ rfl) (Heap.get?_push_of_some _ (Heap.get?_push_of_some _ ho1)) (by rw[hkS];exact Nat.ne_of_gt (Nat.lt_succ_of_lt ha)) hl hz
  (fun i v d hv hd h tk dw hk=>turn i v d hv hd h tk dw fun b o hb q=>hk b o hb (by rw[hkS];exact (hkp b o hb q).2) (hkp b o hb q).1)
  fun h' tk dw c hk h2=>h h' tk dw c (fun b o hb q=>hk b o hb (by rw[hkS];exact (hkp b o hb q).2) (hkp b o hb q).1) h2
end
section
variable {prog:Program} {w:World} {A:Around} {E:Value→Shared→Prop} {s:Shared} {l:Addr} {rev:Bool} {vs:List Value} {ds:List D} {f:Value} {Q:Value→Shared→Prop}
theorem sorted_key{kw:List (Str×Value)}(hl:s.heap.IsList l vs.toArray)(hlen:vs.length=ds.length)(hz:ds.length<64)
  (ha1:argsOk "sorted" ⟨[.ref l],kw⟩) (ha2:∀ x,argsOk "list.sort" ⟨[.ref x],kw⟩) (ht:∀ x,Builtin.«list.sort» ⟨[.ref x],kw⟩=ksk_tree x f rev)
  (turn:∀ (i:Nat) (v:Value) (d:D),vs[i]?=some v→ds[i]?=some d→∀ h tk dw,KH s.heap h →
   wpAny (model prog w) A.in1.in1 (call f [v]) (fun k s'=>bz { s with heap:=h,toks:=tk,drawn:=dw } s'∧dT s'.heap k d) (fun _ _=>False) { s with heap:=h,toks:=tk,drawn:=dw })
  (h:∀ h' tk dw S c,KH s.heap h'→gat s.heap S=none→(∀ b o,gat s.heap b=some o→@LT.lt Nat _ b S)→h'.get? S=some (fC (fR .none rev ds vs).toArray c)→Q (.ref S) { s with heap:=h',toks:=tk,drawn:=dw }) :
  wpAny (model prog w) A (call (.builtin "sorted") [.ref l] kw) Q E s:=by
 refine call_function_entry_kw kind_sorted plain_sorted entry_sorted ha1 ?_
 unfold Builtin.«sorted»
 refine wpAny_bind (m:=checkCount "sorted" 1 1 _) (wpAny_pure ?_)
 refine wpAny_bind (collect_list hl ?_ (ff hz hlen.symm))
 refine wpAny_bind (wpAny_newList ?_ (ff hz hlen.symm))
 have hsz:((s.heap.push (seqObj "list" #[] 0)).update s.heap.objs.size (Obj.mapSeq (·++vs.toArray))).objs.size=s.heap.objs.size+1:=by
  rw[Heap.size_update,size_push']
 have hoL:(((s.heap.push (seqObj "list" #[] 0)).update s.heap.objs.size (Obj.mapSeq (·++vs.toArray))).push (seqObj "list" vs.toArray 0)).get? (s.heap.objs.size+1)=some (seqObj "list" vs.toArray 0):=by
  rw[← hsz];exact Heap.get?_push_size _ rfl
 have keep:∀ b o,gat s.heap b=some o→gat (((s.heap.push (seqObj "list" #[] 0)).update s.heap.objs.size (Obj.mapSeq (·++vs.toArray))).push (seqObj "list" vs.toArray 0)) b=some o∧b<s.heap.objs.size+1:=fun b o q=>
  have hlt:b<s.heap.objs.size:=Heap.gt_lt q
  ⟨Heap.gt_push_of_some _ (g1 (Heap.SameBut.update ..) (bH (Heap.get?_push_size _ rfl)) b (Nat.ne_of_lt hlt) (Heap.gt_push_of_some _ q)),Nat.lt_succ_of_lt hlt⟩
 show wpAny _ _ _ _ _ { s with heap:=((s.heap.push (seqObj "list" #[] 0)).update s.heap.objs.size (Obj.mapSeq (·++vs.toArray))).push (seqObj "list" vs.toArray 0) }
 rw[hsz]
 refine wpAny_bind (wpAny_holding (wpAny_call_entry_kw slot_list_sort ⟨_,hoL,rfl⟩ entry_list_sort ?body (ha2 _)))
 show wpAny (model prog w) A.in1.in1 (Builtin.«list.sort» ⟨[.ref (s.heap.objs.size+1)],kw⟩) _ _ _
 rw[ht (s.heap.objs.size+1)]
 refine key_tree (s:={ s with heap:=((s.heap.push (seqObj "list" #[] 0)).update s.heap.objs.size (Obj.mapSeq (·++vs.toArray))).push (seqObj "list" vs.toArray 0) }) (ds:=ds) hoL hlen hz
  (fun i v d hv hd h tk dw hk=>turn i v d hv hd h tk dw fun b o q=>hk b o (Nat.ne_of_lt (keep b o q).2) (keep b o q).1) fun h' tk dw c hk h2=>⟨_,rfl,?_⟩
 refine wpAny_pure ⟨_,rfl,h h' tk dw _ c (fun b o q=>hk b o (Nat.ne_of_lt (keep b o q).2) (keep b o q).1) ?_ (fun b o q=>(keep b o q).2) h2⟩
 cases q:gat s.heap (s.heap.objs.size+1) with
 | none=>rfl
 | some o=>exact absurd (keep _ o q).2 (Nat.lt_irrefl _)
end
end Mine
namespace Mine
open PySem

theorem lookup_zip_mem{α:Type}{ns:List Str}{vs:List α}(h:ns.length=vs.length){x:Str}(hx:x∈ns):∃ v,(ns.zip vs).lookup x=some v:=by
 induction ns generalizing vs with
 | nil=>nomatch hx
 | cons n ns ih=>cases vs with
  | nil=>cases h
  | cons v vs=>
   rw[List.zip_cons_cons,aQ]
   by_cases e:x=n
   ·exact⟨v,if_pos e⟩
   ·rw[if_neg e]
    exact ih (Nat.succ.inj h) ((List.mem_cons.mp hx).resolve_left e)
theorem fm_congr{α β:Type}{f g:α→Option β}{l:List α}(h:∀ x∈l,f x=g x):l.filterMap f=l.filterMap g:=by
 induction l with
 | nil=>rfl
 | cons a l ih=>rw[List.filterMap_cons,List.filterMap_cons,h a (.head _),ih fun x hx=>h x (.tail _ hx)]
theorem filterMap_zip{α:Type}{ns:List Str}{vs:List α}(hn:ns.Nodup)(h:ns.length=vs.length):ns.filterMap (fun n=>((ns.zip vs).lookup n).map (n,·))=ns.zip vs:=by
 induction ns generalizing vs with
 | nil=>rfl
 | cons n ns ih=>cases vs with
  | nil=>cases h
  | cons v vs=>
   have hn:=List.nodup_cons.mp hn
   rw[List.zip_cons_cons,List.filterMap_cons,aQ,if_pos rfl]
   refine congrArg ((n,v)::·) ((fm_congr fun x hx=>?_).trans (ih hn.2 (Nat.succ.inj h)))
   rw[aQ,if_neg (show ¬ x=n from fun e=>hn.1 (e▸hx))]

theorem iP{fd:FuncData}{vals:List Value}(h1:fd.params.posonlyargs=[])(h2:fd.params.kwonlyargs=[])(h3:fd.params.vararg=none)(h4:fd.params.kwarg=none)(h5:fd.defaults=.none)
  (hnd:(fd.params.args.map (·.arg)).Nodup) (hl:(fd.params.args.map (·.arg)).length=vals.length):bindArgs fd ⟨vals,[]⟩=pure ((fd.params.args.map (·.arg)).zip vals):=by
 obtain⟨nm,qn,⟨po,ar,va,ko,kd,kw,df⟩,bd,sc,gl,cl,dfl,kwd,dc,pm,an,co,ct,bu⟩:=fd
 dsimp only at h1 h2 h3 h4 h5 hnd hl
 subst h1 h2 h3 h4 h5
 have hm:(ar.map (·.arg)).filter (fun n=>(List.lookup n ((ar.map (·.arg)).zip vals)).isNone)=[]:=List.filter_eq_nil_iff.mpr fun x hx e=>
  (lookup_zip_mem hl hx).elim fun v q=>by rw[q] at e;cases e
 refine (if_neg (fun e=>Nat.not_lt_of_le (Nat.le_of_eq hl.symm) (of_decide_eq_true (Bool.and_eq_true_iff.mp e).1))).trans ?_
 have hd:∀ k,List.drop k ((none:Option (Array Value)).getD #[]).toList=[]:=fun k=>List.drop_nil
 refine (if_neg fun e=>?_).trans ?_
 ·rw[hd] at e
  have e':(!(((ar.map (·.arg)).take (ar.map (·.arg)).length).filter (fun n=>(List.lookup n ((ar.map (·.arg)).zip vals)).isNone)).isEmpty)=true:=e
  rw[List.take_length,hm] at e'
  cases e'
 ·rw[hd,List.zip_nil_right]
  exact congrArg (pure (f:=Sem)) ((congrArg (fun l=>l.filterMap fun n=>(((ar.map (·.arg)).zip vals).lookup n).map (n,·)) (List.append_nil (ar.map (·.arg)))).trans (filterMap_zip hnd hl))
end Mine
namespace Mine
open PySem PySem.SeqAt PySem.W PyProof.Rows

section
variable {M:Model} {A:Around} {E:Value→Shared→Prop} {s:Shared}

theorem lam_tail{params:Arguments}{body:Expr}{scope:Scope}{env:Env}{ps:Array Value}{pos:Pos}{firstLine:Nat}{mg:Str→Option Value}{clos:List (Str×Addr)}{name:Str}{Q:Value→Shared→Prop}
  (hcl:closureFor scope env=pure clos) (hne:clos.isEmpty=false) (hge0:env.globals=mainGlobals) (hg:s.heap.Ns mainGlobals mg) (hcode:env.code=.ref oc) (C:CodeHd s.heap oc tb) (hP:s.heap.get? tb=some (tabObj ps)) (ht:ii s.heap ps.toList)
  (hnf:codeAmong pos ps.toList=none) (hb:s.heap.BuiltinsAt mg tb)
  (h:∀ c' ctv h' tk,KH s.heap h'→gB h' c' →
   Q (.ref h'.objs.size) { s with heap:=h'.push (kla_obj name mH params body scope clos ((mg "__name__").getD .none) c' ctv),toks:=tk }) :
  wpAny M A (makeTail name mH params (.expr body) scope env .none .none none pos firstLine) Q E s:=by
 have hgP:mainGlobals≠tb:=fun q=>by
  have e:=eO hg (tabObj ps) (q▸hP)
  cases e
 refine Classical.byContradiction fun hG=>?_
 obtain⟨bm,ob,hbm,hne0,_,hneP,hbo,hcls,hdict,hdata⟩:=hb
 refine hG ?_
 clear hG
 unfold makeTail
 rw[hcl,hge0]
 refine wpAny_bind (wpAny_pure ?_)
 rw[hne]
 simp only[Bool.false_eq_true,if_false]
 refine wpAny_bind (wpAny_newTextTuple ?_)
 refine wpAny_bind (wpAny_functionCodeX hcode ((C.keeps fun b o e=>Heap.get?_push_of_some _ e).code (Heap.get?_push_of_some _ hP) ht.triples) ((C.keeps fun b o e=>Heap.get?_push_of_some _ e).tab (Heap.get?_push_of_some _ hP)) hnf fun c' h' tk hx hge hlt _ hrec htb hnew=>?_)
 have hg':=(hg.push _).extBut hx hgP
 have hx':Heap.ExtBut tb s.heap h':=fun b o hb' e=>hx b o hb' (Heap.get?_push_of_some _ e)
 have hlam:gB h' c':=by
  obtain⟨_,_,_,⟨o1,v1,r1,r2,r3,_⟩,_⟩:=hnew
  obtain⟨c2,o2,vs,t,e2,hoc,hd,hv⟩:=hrec
  cases e2
  exact⟨o1,vs,t,r1,r2,Option.some.inj (hoc.symm.trans r1)▸hd,hv⟩
 have keep:KH s.heap h':=fun b o e=>(Classical.em (b=tb)).elim (fun q=>by
   subst q
   rw[Heap.gt_good hP ⟨ps,rfl,ht⟩] at e
   cases e
   refine Heap.gt_good htb.2 ⟨_,rfl,?_⟩
   rw[Array.toList_append]
   exact ii.snoc _ _ hlam (ht.mono fun b o e _ hc=>hx' b o (fun q=>by rw[q,hP] at e;cases e;exact hc rfl) e)) fun hb=>by
   rw[Heap.gt_ne hb] at e ⊢
   exact hx' b o hb e
 refine wpAny_bind (wpAny_builtinsFor hg' hbm hne0 (hx' _ _ hneP hbo) hcls hdict hdata ?_)
 refine wpAny_bind (wpAny_nsGet hg' ?_)
 exact wpAny_bind (wpAny_pure (wpAny_newObj_type (h c' _ h' tk keep hlam) (by size_fits)))

theorem lam_make{params:Arguments}{body:Expr}{scope:Scope}{env:Env}{ps:Array Value}{pos:Pos}{firstLine:Nat}{mg:Str→Option Value}{clos:List (Str×Addr)}{name:Str}{Q:Value→Shared→Prop}
  (hcl:closureFor scope env=pure clos) (hne:clos.isEmpty=false) (hge0:env.globals=mainGlobals) (hg:s.heap.Ns mainGlobals mg) (hcode:env.code=.ref oc) (C:CodeHd s.heap oc tb) (hP:s.heap.get? tb=some (tabObj ps)) (ht:ii s.heap ps.toList)
  (hb:s.heap.BuiltinsAt mg tb)
  (h:∀ c' ctv h' tk,KH s.heap h'→gB h' c' →
   Q (.ref h'.objs.size) { s with heap:=h'.push (kla_obj name mH params body scope clos ((mg "__name__").getD .none) c' ctv),toks:=tk }) :
  wpAny M A (makeFunction name mH params (.expr body) scope env [] [] [] pos firstLine) Q E s:=by
 cases hf:codeAmong pos ps.toList with
 | none=>
  rw[makeFunction_eq]
  simp only[List.zip_nil_right,List.filterMap_nil,List.isEmpty_nil,if_true,pure_bind]
  exact lam_tail hcl hne hge0 hg hcode C hP ht hf hb h
 | some cv=>
  obtain⟨c',rfl,hl⟩:=ht.among hf
  exact kla_makeFunctionHit hcl hge0 hg hcode C hP ht.triples hf hb fun ctv h' tk hk _=>h c' ctv h' tk (Heap.gt_up hk) (hl.mono fun b o e _ _=>hk b o e)
end
end Mine
namespace Mine
open PySem PySem.SeqAt PySem.W PyProof.Rows

section
variable {prog:Program} {w:World} {A:Around} {s:Shared}

noncomputable abbrev mI(scope:Scope)(L:Addr)(clos:List (Str×Addr))(f c':Addr):Env:=newEnv scope L mainGlobals clos (mH++".<locals>.") (some f) (.ref c') none builtinsNs

theorem lam_call{f c':Addr}{params:Arguments}{body:Expr}{scope:Scope}{clos:List (Str×Addr)}{pm ctv v:Value}{x name:Str}{Q:Value→Shared→Prop}{E:Value→Shared→Prop}
  (ho:s.heap.get? f=some (kla_obj name mH params body scope clos pm c' ctv)) (hl:gB s.heap c') (hlim:s.heap.NoLimit) (hroom:A.depth<recursionLimit)
  (h1:params.posonlyargs=[]) (h2:params.kwonlyargs=[]) (h3:params.vararg=none) (h4:params.kwarg=none) (h5:params.args.map (·.arg)=[x])
  (hk:scope.kind=.function) (hco:scope.isCoroutine=false) (hgen:scope.isGenerator=false) (hcell:∀ p∈scope.names,p.2≠.cell) (hx:scope.names.lookup x=some .local)
  (h:∀ h₁ tk,h₁.Ns s.heap.objs.size (fun y=>[(x,v)].lookup y)→(KH s.heap h₁) →
   wpAny (model prog w) (A.deeper (mI scope s.heap.objs.size clos f c')) (eval body (mI scope s.heap.objs.size clos f c')) Q (fun _ _=>False) { s with heap:=h₁,toks:=tk }) :
  wpAny (model prog w) A (call (.ref f) [v]) Q E s:=by
 obtain⟨oc',vs,t,e1,e2,e3,e4⟩:=hl
 refine wpAny_call (kla_callFunE hroom ho rfl hco hgen rfl ⟨c',oc',vs,t,rfl,e1,e3,e4⟩ ?_)
 have hbind:bindArgs (kla_fn name mH params body scope clos pm (.ref c') ctv) ⟨[v],[]⟩=pure [(x,v)]:=by
  have q:=iP (fd:=kla_fn name mH params body scope clos pm (.ref c') ctv) (vals:=[v]) h1 h2 h3 h4 rfl (by show (params.args.map (·.arg)).Nodup;rw[h5];exact List.nodup_cons.mpr ⟨nofun,List.nodup_nil⟩) (by show (params.args.map (·.arg)).length=_;rw[h5];rfl)
  have q2:bindArgs (kla_fn name mH params body scope clos pm (.ref c') ctv) ⟨[v],[]⟩=pure ((params.args.map (·.arg)).zip [v]):=q
  rw[h5] at q2;exact q2
 rw[hbind]
 refine wpAny_pure (wpAny_newFunctionEnv hcell (fun y hy=>?_) (fun h₁ hns hsb=>⟨hlim.fresh _ hsb,?_⟩) hk)
 ·simp only[List.mem_cons,List.not_mem_nil,or_false] at hy
  subst hy;exact hx
 ·refine kla_codeExpr (wpAny_mono (h h₁ _ hns fun b o e=>?_) (fun v s' q=>q) fun _ _ q=>q.elim)
  have hat:(s.heap.push { cls:=.type "frame",data:=.dict #[] }).get? s.heap.objs.size=some { cls:=.type "frame",data:=.dict #[] }:=Heap.get?_push_size _ rfl
  exact g1 hsb (bH hat) b (Nat.ne_of_lt (Heap.gt_lt e)) (Heap.gt_push_of_some _ e)

theorem lam_env{h h₁:Heap}{env:Env}{m:Str→Option Value}{scope:Scope}{x:Str}{v:Value}{f c':Addr}(R:bp h env m)(hns:h₁.Ns h.objs.size (fun y=>[(x,v)].lookup y))(keep:KH h h₁)
  (hk:scope.kind=.function) (hcell:∀ p∈scope.names,p.2≠.cell) (hfree:∀ p∈scope.names,p.2=.free→env.kindOf p.1=some .cell∨env.kindOf p.1=some .free) (hord:kG (fun y=>scope.names.lookup y)=false) :
  bp h₁ (mI scope h.objs.size (e8 env.cells scope.names []) f c') (fun y=>if scope.names.lookup y=some .free then m y else [(x,v)].lookup y):=by
 have sound:∀ y c,(e8 env.cells scope.names []).lookup y=some c→env.cells.lookup y=some c:=e5 _ _ (fun _ _ e=>by simp at e)
 refine⟨hk,rfl,rfl,⟨_,hns,fun y hy=>?_⟩,fun y hy=>?_,fun y z c e1 e2=>R.inj y z c (sound y c e1) (sound z c e2),fun y c e q=>?_,fun y c e=>?_,fun ho=>?_⟩
 ·have hy:scope.names.lookup y=some .local:=hy
  rw[hy,if_neg (by nofun)]
 ·have hy:scope.names.lookup y=some .cell∨scope.names.lookup y=some .free:=hy
  rcases hy with hy | hy
  ·exact absurd rfl (hcell _ (mem_of_lookup hy))
  ·obtain⟨c,q1,q2⟩:=R.cell y (hfree _ (mem_of_lookup hy) rfl)
   exact⟨c,gf q1 _ _ (.inl (mem_of_lookup hy)),by rw[if_pos hy];exact Cell.keepAt q2 (keep _)⟩
 ·obtain⟨o,ho⟩:=R.ex y c (sound y c e)
  have h1:=Heap.gt_lt ho
  have q:@Eq Nat c h.objs.size:=q
  omega
 ·obtain⟨o,ho⟩:=R.ex y c (sound y c e)
  exact⟨o,keep _ _ ho⟩
 ·have ho:kG (fun y=>scope.names.lookup y)=true:=ho
  rw[hord] at ho;cases ho
end

theorem keysD_inv{g:D→Option D}{d:D}{r ks:List D}{C:Prop}(h:gY g (d::r)=some ks)(k:∀ k c ks',g d=some k→qF k=some c→gY g r=some ks'→c::ks'=ks→C):C:=
 bk (a:=g d) (f:=fun k=>oE (qF k) fun c=>(gY g r).map fun l=>c::l) h fun x hx h=>bk h fun c hc h=>bB h fun ks' hk e=>k x c ks' hx hc hk e
theorem keysD_at{g:D→Option D}{ds ks:List D}(h:gY g ds=some ks):ks.length=ds.length∧∀ (i:Nat) c,ks[i]?=some c→∃ d k,ds[i]?=some d∧g d=some k∧qF k=some c:=by
 induction ds generalizing ks with
 | nil=>cases h;exact⟨rfl,fun i c e=>by rw[List.getElem?_nil] at e;cases e⟩
 | cons d r ih=>exact keysD_inv h fun k c ks' h1 h2 h3 e=>e▸⟨congrArg Nat.succ (ih h3).1,fun i c' e'=>by
   cases i with
   | zero=>exact⟨d,k,rfl,h1,Option.some.inj e'▸h2⟩
   | succ i=>exact (ih h3).2 i c' e'⟩
theorem keyD_inv{k c:D}(h:qF k=some c):k=.tup [.bool (cR c),c]∧c.isCell=true:=by
 unfold qF at h
 split at h
 ·exact cz h fun hc e=>Option.some.inj e▸bG hc fun h1 h2=>⟨by rw[eq_of_beq h2],h1⟩
 ·cases h
theorem aq.rev{P:Params}{h:Heap}{H:Addr→Prop}{vs:List Value}{ds:List D}(r:aq P h H vs ds):aq P h H vs.reverse ds.reverse:=
 List.rec (motive:=fun ds=>∀ l,aq P h H l ds→aq P h H l.reverse ds.reverse) (fun l r=>by rw[show l=[] from r];rfl) (fun _ _ ih _ r=>dg.rec (fun h1 h2=>by rw[List.reverse_cons,List.reverse_cons];exact (ih _ h2).append (.cons h1 .nil)) r) ds vs r
theorem aq.kat{P:Params}{h:Heap}{H:Addr→Prop}{vs:List Value}{ds:List D}(r:aq P h H vs ds)(b:Bool):aq P h H (katRev b vs) (katRev b ds):=by
 cases b with
 | false=>exact r
 | true=>exact r.rev
theorem repAll_of{P:Params}{h:Heap}{H:Addr→Prop}{vs:List Value}{ds:List D}(r:aq P h H vs ds)(L:List Nat)(hL:∀ j∈L,j<ds.length):aq P h H (L.map fun p=>vs.getD p .none) (L.map fun j=>ds.getD j .none):=by
 induction L with
 | nil=>rfl
 | cons j L ih=>
  have hj:=hL j (.head _)
  refine .cons ?_ (ih fun k hk=>hL k (.tail _ hk))
  obtain⟨v',q1,q2⟩:=r.get j (List.getElem?_eq_getElem hj)
  show Rep P h H (vs.getD j .none) (ds.getD j .none)
  rw[List.getD_eq_getElem?_getD,List.getD_eq_getElem?_getD,q1,List.getElem?_eq_getElem hj]
  exact q2
theorem repAll_srt{P:Params}{h:Heap}{H:Addr→Prop}{vs:List Value}{ds ks:List D}(r:aq P h H vs ds)(hl:ks.length=ds.length)(b:Bool):aq P h H (fR .none b ks vs) (fR .none b ks ds):=
 (repAll_of (r.kat b) _ fun j hj=>by rw[kat_len,← hl,← kat_len b ks];exact List.mem_range.mp ((j5 _).mem_iff.mp hj)).kat b
theorem key_of{h:Heap}{P:Params}{H:Addr→Prop}{k:Value}{c:D}(r:Rep P h H k (.tup [.bool (cR c),c]))(hc:c.isCell=true):dT h k c:=by
 refine r.tupE fun a vs n ho _ _ hr=>?_
 obtain⟨vs⟩:=vs
 cases hr with
 | mk h1 h2=>cases h2 with
  | mk h2 h3=>
   have h3:_=[]:=h3
   subst h3
   have h1:_=Value.bool _:=h1
   subst h1
   cases c with
   | int i=>
    refine u9.casesOn (motive:=fun v _=>h.get? a=some (da #[.bool false,v] n)→dT h (.ref a) (.int i)) h2 (fun t ho=>.int ho) ho
   | str x=>
    refine u8.casesOn (motive:=fun v _=>h.get? a=some (da #[.bool true,v] n)→dT h (.ref a) (.str x)) h2 (fun t ho=>.str ho) ho
   | _=>cases hc

section
variable {prog:Program} {w:World} {A:Around} {s:Shared} {base:Heap} {mg mb:Str→Option Value} {cf:CF}

theorem oz{h:Heap}{H:Addr→Prop}(G:GOk mg mb base)(hw:HOk base h H):CodeHd h oc tb∧h.BuiltinsAt mg tb∧∃ ps,h.get? tb=some (tabObj ps)∧ii h ps.toList:=by
 obtain⟨c1,c2,bm,ob,b1,b2,b3,b4,b5,b6,b7,b8⟩:=G.lam
 refine⟨?_,⟨bm,ob,b1,b2,b3,b4,Heap.of_gt (hw.keep _ _ (Heap.gt_of b5 (bZ (by rw[b8];nofun)))) (bZ (by rw[b8];nofun)),b6,b7,b8⟩,?_⟩
 ·obtain⟨o,vs,file,tf,flags,tg,inF,text,tt,e1,e2,r⟩:=CodeHd.of c1 c2
  have hne:oc≠tb:=r.2.2.2.2.2.2.2
  have e1':gat base oc=some o:=by rw[Heap.gt_ne hne];exact e1
  have e3:=hw.keep _ _ e1'
  rw[Heap.gt_ne hne] at e3
  exact⟨o,vs,file,tf,flags,tg,inF,text,tt,e3,e2,r⟩
 ·obtain⟨o',e',⟨_,q⟩ | ⟨_,_,xs,q,q2⟩⟩:=Heap.gt_some (hw.keep _ _ (Heap.gt_good c2.2 hY.empty))
  ·cases q rfl
  ·subst q;exact⟨xs,e',q2⟩

theorem lamVar{k k':KD}{b:Expr}{f x p:String}(h:aG k' b (.call f [.sub (.var x) (.var p)])=true)(hp:k (Str.ofString p)=some .cell∨k (Str.ofString p)=some .free):fg k (Str.ofString p)=true:=
 oK.rec (motive:=fun _ _=>fg k (Str.ofString p)=true) (fun {gp as pos} _ h=>by
  cases as with
  | nil=>cases h
  | cons e es=>exact bG h fun h _=>ISub.rec (motive:=fun _ _=>fg k (Str.ofString p)=true) (fun _ _ h=>rD.rec (motive:=fun _ _=>fg k (Str.ofString p)=true) (fun hv=>nL hv fun _ r1 r2 r3=>Bool.and_eq_true_iff.mpr ⟨Bool.and_eq_true_iff.mpr ⟨Bool.and_eq_true_iff.mpr ⟨hp.elim (fun e=>by rw[e];rfl) fun e=>by rw[e];rfl,r1⟩,r2⟩,r3⟩) (gL h)) (lS h)) (j9 h)
theorem lamAt_keepG{h h':Heap}{c:Addr}(x:gB h c)(hne:c≠tb)(hk:KH h h'):gB h' c:=
 x.elim fun o x=>x.elim fun vs x=>x.elim fun t x=>⟨o,vs,t,(Heap.gt_ne hne).symm.trans (hk _ _ ((Heap.gt_ne hne).trans x.1)),x.2⟩
structure KwOk(fa:Addr)(rev:Bool)(kw:List (Str×Value)):Prop where
 a1:∀ la,argsOk "sorted" ⟨[.ref la],kw⟩
 a2:∀ x,argsOk "list.sort" ⟨[.ref x],kw⟩
 t:∀ x,Builtin.«list.sort» ⟨[.ref x],kw⟩=ksk_tree x (.ref fa) rev
inductive oI(mg:Str→Option Value)(ps:Arguments)(b:Expr)(sc:Scope)(env:Env)(fa:Addr)(h:Heap):Prop
 | mk {c' ctv} (ho:h.get? fa=some (kla_obj "<lambda>" mH ps b sc (e8 env.cells sc.names []) ((mg "__name__").getD .none) c' ctv)) (hl:gB h c'):oI mg ps b sc env fa h
structure rC(k:KD)(ps:Arguments)(sc:Scope)(x p:Str):Prop where
 o1:ps.posonlyargs=[]
 o2:ps.kwonlyargs=[]
 o3:ps.vararg=none
 o4:ps.kwarg=none
 o5:ps.defaults=[]
 o6:ps.kw_defaults=[]
 o7:ps.args.map (·.arg)=[x]
 o8:sc.kind=.function
 o9:sc.isCoroutine=false
 o10:sc.isGenerator=false
 o12:sc.names.lookup x=some .local
 cell:∀ p∈sc.names,p.2≠.cell
 free:∀ p∈sc.names,p.2=.free→k p.1=some .cell∨k p.1=some .free
 o14:kG k=true
 o15:kG (fun y=>sc.names.lookup y)=false
 o16:sc.names.lookup p=some .free
theorem notB{b:Bool}(h:(!b)=true):b=false:=by
 cases b with
 | false=>rfl
 | true=>cases h
theorem qE{k:KD}{ps:Arguments}{sc:Scope}{x p:Str}(h:qv k ps sc x p=true):rC k ps sc x p:=
 gT h fun h1 h2 h3=>and6 h1 fun a1 a2 a3 a4 a5 a6=>nK h2 fun b1 b2 b3 b4 b5=>nL h3 fun c1 c2 c3 c4=>
  have c1':∀ p∈sc.names,p.2≠.cell∧(p.2=.free→k p.1=some .cell∨k p.1=some .free):=fun p hp=>bG (List.all_eq_true.mp c1 p hp) fun d1 d2=>⟨bne_iff_ne.mp d1,fun e=>(Bool.or_eq_true_iff.mp d2).elim (fun d2=>(Bool.or_eq_true_iff.mp d2).elim (fun q=>absurd e (bne_iff_ne.mp q)) fun q=>.inl (eq_of_beq q)) fun q=>.inr (eq_of_beq q)⟩
  ⟨List.isEmpty_iff.mp a1,List.isEmpty_iff.mp a2,Option.isNone_iff_eq_none.mp a3,Option.isNone_iff_eq_none.mp a4,List.isEmpty_iff.mp a5,List.isEmpty_iff.mp a6,eq_of_beq b1,eq_of_beq b2,notB b3,notB b4,eq_of_beq b5,fun p hp=>(c1' p hp).1,fun p hp=>(c1' p hp).2,c2,notB c3,eq_of_beq c4⟩
section
variable {env:Env} {m:Str→Option Value} {H:Addr→Prop} {ρ:List (String×D)} {ns:List String} {E:Value→Shared→Prop} {ps:Arguments} {b:Expr} {sc:Scope} {x p f:String} {lp:Pos}
theorem lam_eval(G:GOk mg mb base){Q:Value→Shared→Prop}(O:rC env.kindOf ps sc (Str.ofString x) (Str.ofString p))(c:Cc w base s env H ρ m ns)(k:∀ s₂ fa,bz s s₂→oI mg ps b sc env fa s₂.heap→Q (.ref fa) s₂):wpAny (model prog w) A (eval (.Lambda ps b sc lp) env) Q E s:=by
 obtain⟨hc1,hb1,tp,ht1,ht2⟩:=oz G c.hw
 obtain⟨hcode,hqual⟩:=c.R.lam O.o14
 have hdef:defaultsOf ps env=([],[]):=by
  obtain⟨q1,q2,q3,q4,q5,q6,q7⟩:=ps
  have o5:q7=[]:=O.o5
  have o6:q5=[]:=O.o6
  rw[o5,o6];rfl
 refine kla_eval hdef ?_
 rw[hqual]
 refine lam_make (name:="<lambda>") (jn fun q hq e=>(c.R.cell q.1 (O.free q hq e)).elim fun a r=>⟨a,r.1⟩) ?_ c.R.glob (Ns.keepAt G.g (c.hw.keep _)) hcode hc1 ht1 ht2 hb1 fun c' ctv h' tk hk' hl=>k _ _ (.mk _ _ s.drawn fun b o e=>Heap.gt_push_of_some _ (hk' b o e)) ⟨Heap.get?_push_size _ rfl,hl.mono fun b o e _ _=>Heap.get?_push_of_some _ e⟩
 obtain⟨a,q,_⟩:=c.R.cell (Str.ofString p) (O.free _ (mem_of_lookup O.o16) rfl)
 have q2:=gf q sc.names [] (.inl (mem_of_lookup O.o16))
 cases q3:e8 env.cells sc.names [] with
 | nil=>rw[q3] at q2;cases q2
 | cons _ _=>rfl
theorem lam_key(G:GOk mg mb base)(C:dU prog w base mg cf A)(hu:nD A)(O:rC env.kindOf ps sc (Str.ofString x) (Str.ofString p))(hb:aG (fun y=>sc.names.lookup y) b (.call f [.sub (.var x) (.var p)])=true){i cd c d:D}{v vp:Value}{fa:Addr}(hcd:a9 d i=some cd){fr:Bool}(hcl:cf.call f [cd]=some (.tup [.bool (cR c),c],fr))(hcc:c.isCell=true)
  (R:bp s.heap env m) (hw:HOk base s.heap H) (hmp:m (Str.ofString p)=some vp) (rp:Rep w.params s.heap H vp i) (rv:Rep w.params s.heap H v d) (L:oI mg ps b sc env fa s.heap) :
  wpAny (model prog w) A.in1.in1 (call (.ref fa) [v]) (fun k s'=>bz s s'∧dT s'.heap k c) (fun _ _=>False) s:=L.rec fun {c' ctv} ho hl=>by
 refine lam_call ho hl (NoLimit.keepG G.lim hw.keep) (Nat.lt_of_le_of_lt (Nat.le_add_right _ _) hu.depth) O.o1 O.o2 O.o3 O.o4 O.o7 O.o8 O.o9 O.o10 O.cell O.o12 fun h₁ tk₁ hns keep=>?_
 have R₁:=lam_env (f:=fa) (c':=c') R hns keep O.o8 O.cell O.free O.o15
 have hN:rB A (A.in1.in1.deeper (mI sc s.heap.objs.size (e8 env.cells sc.names []) fa c')):=⟨rfl,Nat.le_refl _,Nat.add_le_add_left (by decide:5≤10) A.units⟩
 have hu':(A.in1.in1.deeper (mI sc s.heap.objs.size (e8 env.cells sc.names []) fa c')).units+1<cLine:=Nat.lt_of_le_of_lt (Nat.add_le_add_left (by decide:6≤20) A.units) hu.units
 have hxp:(p == x)=false:=beq_false_of_ne fun q=>nomatch (q▸O.o12).symm.trans O.o16
 have l1:[(x,d),(p,i)].lookup x=some d:=by rw[List.lookup_cons,beq_self_eq_true]
 have l2:[(x,d),(p,i)].lookup p=some i:=by rw[List.lookup_cons,hxp,List.lookup_cons,beq_self_eq_true]
 have hev:evF cf [(x,d),(p,i)] (.call f [.sub (.var x) (.var p)])=some (.tup [.bool (cR c),c],fr):=by
  rw[kj,m4,uQ,fK,fK,l1,l2]
  dsimp only
  rw[hcd];exact hcl
 refine bj (sh G (C.at hN) (qh (ue hu' (rN x) (rN p)) si) { s with heap:=h₁,toks:=tk₁ } _ b H [(x,d),(p,i)] _ _ fr (fun _ _=>False) hb ⟨R₁,hw.keeps keep,fun z hz hvz dz hdz=>?_⟩ hev) fun kv s' q=>⟨Kp.trans (.mk h₁ tk₁ _ keep) q.post.k,key_of q.post.r hcc⟩
 refine eK (show z∈[x,p] from hz) (fun e=>?_) fun e=>?_
 ·subst e
  rw[l1] at hdz
  exact⟨v,(if_neg (by rw[O.o12];nofun)).trans (by rw[List.lookup_cons,beq_self_eq_true]),Option.some.inj hdz▸rv.keeps keep⟩
 ·subst e
  rw[l2] at hdz
  exact⟨vp,(if_pos O.o16).trans hmp,Option.some.inj hdz▸rp.keeps keep⟩
theorem rowKey_inv{i d k:D}{C:Prop}(h:fA cf f i d=some k)(K:∀ c fr,a9 d i=some c→cf.call f [c]=some (k,fr)→C):C:=
 bk (a:=a9 d i) (f:=fun c=>(cf.call f [c]).map fun (r:D×Bool)=>r.1) h fun c hc h=>bB h fun r hr e=>K c r.2 hc (hr.trans (congrArg some (Prod.ext e rfl)))
theorem lam_ct{fa:Addr}{h h':Heap}{base:Heap}{mg mb:Str→Option Value}(G:GOk mg mb base)(hw:HOk base h H)(L:oI mg ps b sc env fa h)(hk:KH h h'):oI mg ps b sc env fa h':=L.rec fun {c' ctv} ho hl=>
 ⟨Heap.of_gt (hk _ _ (Heap.gt_of ho (bZ nofun))) (bZ nofun),lamAt_keepG hl (fun q=>by
  obtain⟨_,_,ps',e,_⟩:=oz G hw
  obtain⟨_,_,_,e2,e3,_⟩:=hl
  rw[q,e] at e2;cases e2;cases e3) hk⟩
theorem srt_call(G:GOk mg mb base)(C:dU prog w base mg cf A)(hu:nD A)(O:rC env.kindOf ps sc (Str.ofString x) (Str.ofString p))(hb:aG (fun y=>sc.names.lookup y) b (.call f [.sub (.var x) (.var p)])=true){i:D}{vp v:Value}{fa:Addr}{rev:Bool}{kw:List (Str×Value)}{ds:List D}(hz:ds.length<64){kds:List D}(hkeys:gY (fA cf f i) ds=some kds)
  (R:bp s.heap env m) (hw:HOk base s.heap H) (hmp:m (Str.ofString p)=some vp) (rp:Rep w.params s.heap H vp i) (r:Rep w.params s.heap H v (.list ds)) (L:oI mg ps b sc env fa s.heap) (K:KwOk fa rev kw) :
  wpAny (model prog w) A (call (.builtin "sorted") [v] kw) (bX w s H (.list (fR .none rev kds ds)) true) E s:=r.listE fun la vs n hla hn hl hvs=>by
 have hkl:=keysD_at hkeys
 refine sorted_key (vs:=vs.toList) (ds:=kds) (f:=.ref fa) (rev:=rev) (aW hla) (hvs.length.trans hkl.1.symm) (hkl.1.symm▸hz) (K.a1 la) K.a2 K.t (fun j v c hv hc h tk dw hk'=>?_) fun h' tk dw S cc hk' hnone hlt hS=>?_
 ·obtain⟨dj,k,hd,hg,hkd⟩:=hkl.2 j c hc
  have e:=keyD_inv hkd
  rw[e.1] at hg
  obtain⟨v',q1,q2⟩:=hvs.get j hd
  refine rowKey_inv hg fun cd fr h1 h2=>lam_key (s:={ s with heap:=h,toks:=tk,drawn:=dw }) G C hu O hb h1 h2 e.2 (R.keeps hk') (hw.keeps hk') hmp (rp.keeps hk') (Option.some.inj (q1.symm.trans hv)▸q2.keeps hk') (lam_ct G hw L hk')
 ·have hS':∀ q:H S,False:=fun q=>(hw.ex S q).elim fun b z=>z.elim fun o z=>Nat.lt_irrefl _ (Nat.lt_of_le_of_lt z.1 (hlt b o z.2))
  have own:gU w.params h' H S (fR .none rev kds ds):=⟨hS,by rw[mf,hkl.1];exact hl,(repAll_srt hvs hkl.1 rev).mono (fun a o _ e=>hk' a o e) fun b o e q=>q.elim id fun q=>bR e (q▸hnone)⟩
  exact⟨.mk h' tk dw hk',own.rep hS',fun _=>⟨hnone,own⟩⟩
theorem evi_srt{a:ME}{rev:Bool}{d:D}{C:Prop}(h:evE cf ρ (.srt a f x p rev)=some d)(k:∀ ds i kds,evE cf ρ a=some (.list ds)→ρ.lookup p=some i→ds.length<64→gY (fA cf f i) ds=some kds→.list (fR .none rev kds ds)=d→C):C:=
 bk (a:=evE cf ρ a) (f:=fun x=>oE (ρ.lookup p) fun i=>srtD (fA cf f i) rev x) h fun xd hx h=>bk h fun i hi h=>by
  cases xd with
  | list ds=>exact cz h fun hz h=>bB h fun kds hk e=>k ds i kds hx hi hz hk e
  | _=>exact am h
theorem kw_inv{ks:List Keyword}{rev:Bool}{C:Prop}(h:IKw env.kindOf f x p rev ks)(k:∀ ps b sc lp,rC env.kindOf ps sc (Str.ofString x) (Str.ofString p)→aG (fun y=>sc.names.lookup y) b (.call f [.sub (.var x) (.var p)])=true →
  (∀ (pos:Pos) (M:Model) (A:Around) (s:Shared) (E:Value→Shared→Prop) (Q:List Value→Shared→Prop),wpAny M A (eval (.Lambda ps b sc lp) env) (fun v s'=>∃ fa,v=.ref fa∧∀ kvs,KwOk fa rev (((backToKw pos (keywordEach ks env)).filterMap (·.1)).zip kvs)→Q kvs s') E s→wpAny M A (evalAll ((backToKw pos (keywordEach ks env)).map (·.2))) Q E s) →
  (∀ pos,(backToKw pos (keywordEach ks env)).all (·.1.isSome)=true∧(backToKw pos (keywordEach ks env)).any (·.1.isNone)=false)→C):C:=by
 cases h with
 | up h1 h2=>exact k _ _ _ _ (qE h1) (ri h2) (fun pos M A s E Q h=>kws_cons (bj h fun v s' q=>q.elim fun fa q=>kws_nil (q.1▸q.2 _ ⟨fun _=>ksk_s1 _ _,fun _=>ksk_l1 _ _,fun _=>ksk_t1 _ _⟩))) fun pos=>⟨rfl,rfl⟩
 | down h1 h2=>exact k _ _ _ _ (qE h1) (ri h2) (fun pos M A s E Q h=>kws_cons (bj h fun v s' q=>q.elim fun fa q=>kws_cons (Constant_bool (kws_nil (q.1▸q.2 _ ⟨fun _=>ksk_s2 _ _ _,fun _=>ksk_l2 _ _ _,fun _=>ksk_t2 _ _ _⟩))))) fun pos=>⟨rfl,rfl⟩
end
theorem sf_srt(G:GOk mg mb base)(C:dU prog w base mg cf A)(hu:nD A){a:ME}{f x p:String}{rev:Bool}(ha:SE prog w A base cf a):SF prog w A base cf (.srt a f x p rev):=fun s env e H ρ m d fr E hc c he=>
 eL he rfl fun he hf=>evi_srt he fun ds i kds hx hi hz hkeys hd=>ISrt.rec (motive:=fun e _=>wpAny (model prog w) A (eval e env) (bX w s H d fr) E s) (fun {gp y ks pos} hg hy hk=>kw_inv hk fun ps b sc lp O hb kw hall=>by
  have hst:backTo pos (starEach [y] env)=[(false,eval y env)]:=by rw[eR (tT hy),gv];rfl
  obtain⟨vp,hmp,rp⟩:=c.hn p (by rw[ur];exact List.mem_append_right _ (.head _)) (lamVar hb (O.free _ (mem_of_lookup O.o16) rfl)) i hi
  refine wpAny_bind (m:=eval (.Name (Str.ofString "sorted") gp) env) (eu G (f:="sorted") (by decide) c.R c.hw hg ?_)
  refine callWith_kw (id:="sorted") ?_ (he:=by rw[hst];rfl) (hplain:=by rw[hst];rfl) (hall:=(hall pos).1) (hkw:=(hall pos).2)
  rw[hst]
  refine Calls.spliced_cons (ha.go hy (c.sub fun _ hz=>by rw[ur];exact List.mem_append_left _ hz) hx fun l s₁ q₁=>Calls.spliced_nil (kw pos _ _ _ _ _ (lam_eval G O (c.k q₁.k) fun s₂ fa k2 L=>⟨fa,rfl,fun kvs K=>?_⟩)))
  have c2:=(c.k q₁.k).k k2
  exact bj (srt_call G C hu O hb hz hkeys c2.R c2.hw hmp ((rp.keeps (Kp.heap q₁.k)).keeps (Kp.heap k2)) (q₁.r.keeps (Kp.heap k2)) L K) fun v s₃ q₃=>hd▸hf▸q₃.tr (Kp.trans q₁.k k2)) (sU hc)
end
end Mine
namespace Mine
open PySem PySem.SeqAt

section
variable {prog:Program} {w:World} {A:Around} {s:Shared} {base:Heap} {mg mb:Str→Option Value} {cf:CF}

theorem p8{me:ME}(h:SE prog w A base cf me)(hp:∀ e k env whole,aG k e me=true→isTrue e env whole=(do let v ← whole;standAt e.pos;holding [v] (truthy v))):ST prog w A base cf me:=fun s env e H ρ m d t E hc c he ht=>
 PyProof.Rows.isTrue_plain (h.go hc c he fun v s₁ q₁=>bj (fP q₁.r ht) fun b s₂ q₂=>q₂.tr q₁.k) (hp e _ env _ hc)
theorem sb_nil:SB prog w A base cf []:=fun s env es op pos H ρ m d E hc c he=>am he
theorem sb_one{a:ME}(ha:SE prog w A base cf a)(ta:ST prog w A base cf a):SB prog w A base cf [a]:=fun s env es op pos H ρ m d E hc c he=>
 gg (C:=fun es=>wpAny (model prog w) A (eval (.BoolOp op es pos) env) (bh w s H d) E s∧∀ t whole,bE d=some t→wpAny (model prog w) A (isTrue (.BoolOp op es pos) env whole) (dR s t) E s) hc fun e es h1 h2=>by
  have hz:es=[]:=List.isEmpty_iff.mp h2
  subst hz
  refine⟨PyProof.Rows.BoolOp_one (ha s env e H ρ m d E h1 c.l he),fun t whole ht=>?_⟩
  cases op with
  | And=>exact PyProof.Rows.isTrue_and (bj (ta s env e H ρ m d t E h1 c.l he ht) fun b s₁ q₁=>by
    cases b with
    | true=>exact PyProof.Rows.isTrue_and_nil q₁
    | false=>exact q₁)
  | Or=>exact PyProof.Rows.isTrue_or (bj (ta s env e H ρ m d t E h1 c.l he ht) fun b s₁ q₁=>by
    cases b with
    | true=>exact q₁
    | false=>exact PyProof.Rows.isTrue_or_nil q₁)
theorem sb_cons{a b:ME}{r:List ME}(ha:SE prog w A base cf a)(ta:ST prog w A base cf a)(hr:SB prog w A base cf (b::r)):SB prog w A base cf (a::b::r):=fun s env es op pos H ρ m d E hc c he=>
 evi_bop he fun x t1 hx ht1 hd=>gg (C:=fun es=>wpAny (model prog w) A (eval (.BoolOp op es pos) env) (bh w s H d) E s∧∀ t whole,bE d=some t→wpAny (model prog w) A (isTrue (.BoolOp op es pos) env whole) (dR s t) E s) hc fun e es h1 h2=>by
  have rest:∀ s₁,bz s s₁→fh cf ρ op (b::r)=some d→_:=fun s₁ (k:bz s s₁) (h:fh cf ρ op (b::r)=some d)=>hr s₁ env es op pos H ρ m d E h2 (c.r.k k) h
  have hne:∃ e2 es',es=e2::es':=gg (C:=fun es=>∃ e2 es',es=e2::es') h2 fun e2 es' _ _=>⟨e2,es',rfl⟩
  obtain⟨e2,es',rfl⟩:=hne
  have go:∀ {v:Value} {s₁ s₂:Shared} {c:Bool},bh w s H x v s₁→dR s₁ t1 c s₂→c=pX op→bh w s H d v s₂:=fun q₁ q₂ e=>⟨Kp.trans q₁.k q₂.k,(Option.some.inj ((if_pos (q₂.e.symm.trans e)).symm.trans hd))▸q₁.r.keeps (Kp.heap q₂.k)⟩
  have stay:∀ {c:Bool},c=t1→c≠pX op→fh cf ρ op (b::r)=some d:=fun e n=>(if_neg (e▸n)).symm.trans hd
  have stop:∀ {c t:Bool},c=t1→c=pX op→bE d=some t→c=t:=fun e n ht=>e.trans (Option.some.inj (ht1.symm.trans ((congrArg bE (Option.some.inj ((if_pos (e.symm.trans n)).symm.trans hd))).trans ht)))
  refine⟨?_,fun t whole ht=>?_⟩
  ·cases op with
   | And=>exact PyProof.Rows.BoolOp_and (ha.go h1 c.l hx fun v s₁ q₁=>bj (fP q₁.r ht1) fun c s₂ q₂=>by
     cases c with
     | true=>exact bj (rest s₂ (Kp.trans q₁.k q₂.k) (stay q₂.e nofun)).1 fun _ _ q=>q.tr (Kp.trans q₁.k q₂.k)
     | false=>exact go q₁ q₂ rfl)
   | Or=>exact PyProof.Rows.BoolOp_or (ha.go h1 c.l hx fun v s₁ q₁=>bj (fP q₁.r ht1) fun c s₂ q₂=>by
     cases c with
     | false=>exact bj (rest s₂ (Kp.trans q₁.k q₂.k) (stay q₂.e nofun)).1 fun _ _ q=>q.tr (Kp.trans q₁.k q₂.k)
     | true=>exact go q₁ q₂ rfl)
  ·cases op with
   | And=>exact PyProof.Rows.isTrue_and (bj (ta s env e H ρ m x t1 E h1 c.l hx ht1) fun c s₁ q₁=>by
     cases c with
     | true=>exact bj ((rest s₁ q₁.k (stay q₁.e nofun)).2 t whole ht) fun _ _ q=>q.tr q₁.k
     | false=>exact⟨q₁.k,stop q₁.e rfl ht⟩)
   | Or=>exact PyProof.Rows.isTrue_or (bj (ta s env e H ρ m x t1 E h1 c.l hx ht1) fun c s₁ q₁=>by
     cases c with
     | false=>exact bj ((rest s₁ q₁.k (stay q₁.e nofun)).2 t whole ht) fun _ _ q=>q.tr q₁.k
     | true=>exact⟨q₁.k,stop q₁.e rfl ht⟩)
theorem uh{op:BoolOp}{ms:List ME}(h:SB prog w A base cf ms):SE prog w A base cf (.bop op ms):=fun s env e H ρ m d E hc c he=>
 IBop.rec (motive:=fun e _=>wpAny (model prog w) A (eval e env) (bh w s H d) E s) (fun hc=>(h s env _ op _ H ρ m d E hc c he).1) (pu hc)
theorem st_bop{op:BoolOp}{ms:List ME}(h:SB prog w A base cf ms):ST prog w A base cf (.bop op ms):=fun s env e H ρ m d t E hc c he ht=>
 IBop.rec (motive:=fun e _=>wpAny (model prog w) A (isTrue e env (eval e env)) (dR s t) E s) (fun hc=>(h s env _ op _ H ρ m d E hc c he).2 t _ ht) (pu hc)

theorem forIn_false{env:Env}{E:Value→Shared→Prop}{Q:Bool→Shared→Prop}(es:List Expr)(h:Q false s) :
  wpAny (model prog w) A (forIn es false fun c r=>if r=true then do let ok ← isTrue c env (eval c env);pure (ForInStep.yield ok) else pure (ForInStep.yield r)) Q E s:=by
 induction es with
 | nil=>rw[List.forIn_nil];exact wpAny_pure h
 | cons c es ih=>
  rw[List.forIn_cons]
  simp only[Bool.false_eq_true,if_false,pure_bind]
  exact ih
theorem ui:SC prog w A base cf []:=fun s env es H ρ m t E hc c he=>
 nj (C:=fun es=>wpAny (model prog w) A (forIn es true _) (dR s t) E s) hc (by rw[List.forIn_nil];exact wpAny_pure ⟨Kp.refl _,Option.some.inj he⟩)
theorem sk{a:ME}{r:List ME}(ta:ST prog w A base cf a)(hr:SC prog w A base cf r):SC prog w A base cf (a::r):=fun s env es H ρ m t E hc c he=>
 evi_cs he fun x u hx hu hd=>gg (C:=fun es=>wpAny (model prog w) A (forIn es true _) (dR s t) E s) hc fun e es h1 h2=>by
  rw[List.forIn_cons]
  simp only[if_true,bind_assoc,pure_bind]
  refine wpAny_bind (bj (ta s env e H ρ m x u E h1 c.l hx hu) fun b s₁ q₁=>?_)
  have e1:=q₁.e
  subst e1
  cases b with
  | true=>exact bj (hr s₁ env es H ρ m t E h2 (c.r.k q₁.k) hd) fun _ _ q=>q.tr q₁.k
  | false=>exact forIn_false es ⟨q₁.k,Option.some.inj hd⟩

theorem comp_inner{env cenv:Env}{m mC:Str→Option Value}{scope:Scope}{x:String}{ns:List String}{ρ:List (String×D)}{s₂:Shared}{H H₂:Addr→Prop}{v:Value}{dv:D}(hok:gF env.kindOf scope (Str.ofString x)=true)
  (hk:cenv.kindOf=dN env.kindOf scope) (hv:mC (Str.ofString x)=some v) (rv:Rep w.params s₂.heap H₂ v dv) (hfv:∀ z,scope.names.lookup z=some .free→mC z=m z) (kp:bz s s₂) (hsub:pQ s.heap H H₂) (RC:bp s₂.heap cenv mC) (hx:Ex s₂.heap H₂)
  (c:Cc w base s env H ρ m (ns.filter (· != x))):Cc w base s₂ cenv H₂ ((x,dv)::ρ) mC ns:=by
 refine⟨RC,⟨fun b o e=>Kp.heap kp b o (c.hw.keep b o e),hx,fun b o e q=>c.hw.off b o e (hsub b o (c.hw.keep b o e) q)⟩,fun z hz hvar d hd=>?_⟩
 rw[List.lookup_cons] at hd
 by_cases hzx:z=x
 ·subst hzx
  rw[beq_self_eq_true] at hd
  exact⟨v,hv,Option.some.inj hd▸rv⟩
 ·rw[show (z == x)=false from beq_eq_false_iff_ne.mpr hzx] at hd
  refine iq hok fun _ hnodup _ hfree hall _=>nL hvar fun h1 h2 h3 h4=>?_
  have hfr:scope.names.lookup (Str.ofString z)=some .free:=by
   rw[hk,j6] at h1
   cases hq:scope.names.lookup (Str.ofString z) with
   | none=>rw[hq] at h1;cases h1
   | some k=>exact (hall _ (mem_of_lookup hq)).elim (fun q=>q.elim (fun q=>q.elim (congrArg some) fun e=>by rw[hq,show k=.globalImplicit from e] at h1;cases h1) fun e=>absurd (cW e) hzx) fun e=>by rw[show Str.ofString z=_ from e] at h4;cases h4
  exact (c.hn z (List.mem_filter.mpr ⟨hz,bne_iff_ne.mpr hzx⟩) (by
   unfold fg
   rw[h2,h3,h4]
   rcases hfree _ (mem_of_lookup hfr) rfl with e | e <;> rw[e] <;> rfl) d hd).elim fun v' q=>⟨v',(hfv _ hfr).trans q.1,q.2.mono (fun a o _ e=>Kp.heap kp a o e) hsub⟩
noncomputable def compG(cf:CF)(ρ:List (String×D))(elt:ME)(x:String)(cs:List ME)(it:D):Option (Option D):=oT (lG cf ((x,it)::ρ) cs) fun t=>if t=true then oE (evE cf ((x,it)::ρ) elt) fun y=>some (some y) else some Option.none
theorem compM_congr{f g:D→Option (Option D)}(h:∀ d,f d=g d)(l:List D):bO f l=bO g l:=congrArg (fun f=>bO f l) (funext h)
theorem evi_comp{ρ:List (String×D)}{elt src:ME}{x:String}{cs:List ME}{d:D}{C:Prop}(h:evE cf ρ (.comp elt x src cs)=some d)(k:∀ y its out,evE cf ρ src=some y→y.items=some its→its.length≤big→bO (compG cf ρ elt x cs) its=some out→.list out=d→C):C:=by
 rw[ev_comp] at h
 refine bk (a:=evE cf ρ src) h fun y hy h=>ed (a:=y.items) h fun its hi h=>cz h fun hl h=>bB h fun out ho e=>k y its out hy hi hl ((compM_congr (fun it=>?_) its).trans ho) e
 unfold compG
 cases lG cf ((x,it)::ρ) cs with
 | none=>rfl
 | some t=>cases t <;> rfl
theorem rg{elt src:ME}{x:String}{cs:List ME}(hh:A.handled=none)(he:SE prog w A base cf elt)(hs:SE prog w A base cf src)(hcs:SC prog w A base cf cs)
  {s:Shared} {env:Env} {H:Addr→Prop} {ρ:List (String×D)} {m:Str→Option Value} {d:D} {E:Value→Shared→Prop} {t it:Expr} {py pos ppos:Pos} {ifs:List Expr} {scope:Scope} {use:Option (Value→Sem Unit)} {Q:Value→Shared→Prop}
  (hset:d3 it=true) (hok:gF env.kindOf scope (Str.ofString x)=true) (hcsrc:aG env.kindOf it src=true) (hcelt:aG (dN env.kindOf scope) t elt=true) (hcifs:bW (dN env.kindOf scope) ifs cs=true) (c:Cc w base s env H ρ m (ME.comp elt x src cs).names)
  (hev:evE cf ρ (.comp elt x src cs)=some d)
  (hQ:∀ L C h' tk dw m' out,d=.list out→(∀ b o,gat s.heap b=some o→@LT.lt Nat _ b L)→gat s.heap C=none→L≠C→h'.Ns C m'→gU w.params h' (fun b=>H b∨b=C) L out→(KH s.heap h') →
   compPost (model prog w) A E use Q (.ref L) C (.ok .next) { s with heap:=h',toks:=tk,drawn:=dw }) :
  wpAny (model prog w) A (comprehension (.ListComp t [⟨.Name (Str.ofString x) py,it,ifs,0⟩] scope pos) scope env ppos (newList []) false (eval it env) use) Q E s:=by
 refine evi_comp hev fun y its out hy hi hl ho e=>comp_core c.R hok hset hh c.x (hs s env it H ρ m y E hcsrc c.l hy) hi hl ho (fun cenv hk s₂ mC H₂ v dv r hm hf RC hv rv hfv hx kp hsub E'=>?_) fun L C h' tk dw m' h1 h2 h3 h4 h5 h6=>hQ L C h' tk dw m' out e.symm h1 h2 h3 h4 h5 h6
 have ci:Cc w base s₂ cenv H₂ ((x,dv)::ρ) mC (elt.names++gG cs):=comp_inner hok hk hv rv hfv kp hsub RC hx c.r
 rw[← hk] at hcelt hcifs
 refine rO hf fun b hb hf=>bj (hcs s₂ cenv ifs H₂ _ mC b E' hcifs ci.r hb) fun ok s₃ q=>⟨q.k,?_⟩
 cases b with
 | true=>exact bk hf fun y hy e=>Option.some.inj e▸⟨q.e,fun dr e=>Option.some.inj e▸he s₃ cenv t H₂ _ mC y E' hcelt (ci.l.k q.k) hy⟩
 | false=>exact Option.some.inj hf▸⟨q.e,fun dr e=>nomatch e⟩
end
end Mine
namespace Mine
open PySem PySem.SeqAt
theorem dput_len(k d:D)(ks vs:List D):(dK ks vs k d).1.length≤ks.length+1:=by
 induction ks generalizing vs with
 | nil=>exact Nat.le_refl _
 | cons k' ks ih=>cases vs with
  | nil=>exact Nat.succ_le_succ (Nat.zero_le _)
  | cons v vs=>
   rw[lV]
   split
   ·exact Nat.le_succ _
   ·exact Nat.succ_le_succ (ih vs)
section
variable {prog:Program} {w:World} {A:Around} {s:Shared} {base:Heap} {mg mb:Str→Option Value} {cf:CF}
theorem ly{ρ:List (String×D)}{ms:List ME}{k:KD}{es:List Expr}(h:bV cf ρ ms=some [])(hc:bW k es ms=true):es=[]:=by
 cases ms with
 | nil=>exact List.isEmpty_iff.mp hc
 | cons a r=>exact qY h fun _ _ _ _ e=>nomatch e
theorem sB(G:GOk mg mb base){h:Heap}(hk:KH base h):(h.objs.size == sysModules)=false:=(qT G.g).elim fun o e=>beq_eq_false_iff_ne.mpr fun q=>absurd (q▸Heap.gt_lt (hk _ _ e)) (by decide)
theorem evi_dct{ρ:List (String×D)}{ks vs:List ME}{d:D}{C:Prop}(h:evE cf ρ (.dct ks vs)=some d)(k:bV cf ρ ks=some []→bV cf ρ vs=some []→.dict [] []=d→C):C:=
 ed (a:=bV cf ρ ks) (f:=fun ds=>oEs (bV cf ρ vs) fun es=>if (ds.isEmpty&&es.isEmpty)=true then some (D.dict [] []) else Option.none) h fun ds h1 h=>ed h fun es h2 h=>aZ h fun hc e=>bG hc fun a b=>k (List.isEmpty_iff.mp a▸h1) (List.isEmpty_iff.mp b▸h2) e
theorem sf_dct(G:GOk mg mb base){ks vs:List ME}(hsk:∀ e∈ks,SE prog w A base cf e)(hsv:∀ e∈vs,SE prog w A base cf e):SF prog w A base cf (.dct ks vs):=fun s env e H ρ m d fr E hc c he=>
 eL he rfl fun he hf=>evi_dct he fun h1 h2 hd=>IDct.rec (motive:=fun e _=>wpAny (model prog w) A (eval e env) (bX w s H d fr) E s) (fun {kes ves pos} hk hv=>by
  have e1:=ly h1 hk
  have e2:=ly h2 hv
  subst e1 e2
  have own:cN w.params (s.heap.push { cls:=.type "dict",data:=.dict #[] }) H s.heap.objs.size (.dict [] []):=lJ.mk (es:=#[]) (n:=0) (Heap.get?_push_size _ rfl) (Nat.zero_le _) rfl rfl rfl rfl .nil (sB G c.hw.keep)
  exact wpAny_Dict_empty (hd▸hf▸⟨Kp.push _ _,own.rep c.x.fresh,fun _=>⟨cA _,own⟩⟩)) (s5 hc)
end
end Mine
namespace Mine
open PySem PySem.SeqAt
section
variable {prog:Program} {w:World} {A:Around} {s:Shared} {base:Heap} {mg mb:Str→Option Value} {cf:CF}
theorem inn_at(x:Str)(t1 t2 t3:Tok):∃ t,(valueAt (merged ([]:List (Str×Value)) [(Str.ofString "group",.int 3 t1),(Str.ofString "once",.int 1 t2)]) x).getD (.int 2 t3)=.int (pv x) t:=by
 have e:merged ([]:List (Str×Value)) [(Str.ofString "group",.int 3 t1),(Str.ofString "once",.int 1 t2)]=[(Str.ofString "group",.int 3 t1),(Str.ofString "once",.int 1 t2)]:=merged_append_of_fresh [] _ (show[Str.ofString "group",Str.ofString "once"].Nodup by decide +kernel)
 rw[e]
 unfold valueAt pv
 rw[List.find?_cons,List.find?_cons,List.find?_nil]
 by_cases h1:x=Str.ofString "group"
 ·rw[if_pos h1,decide_eq_true h1.symm];exact⟨t1,rfl⟩
 ·rw[if_neg h1,decide_eq_false fun h=>h1 h.symm]
  by_cases h2:x=Str.ofString "once"
  ·rw[if_pos h2,decide_eq_true h2.symm];exact⟨t2,rfl⟩
  ·rw[if_neg h2,decide_eq_false fun h=>h2 h.symm];exact⟨t3,rfl⟩
theorem inn_core(G:GOk mg mb base){env:Env}{H:Addr→Prop}{ρ:List (String×D)}{m:Str→Option Value}{E:Value→Shared→Prop}{a:ME}(ha:SE prog w A base cf a){x:Str}{y:Expr}{n5:Nat}{p5 p:Pos}(c:Cc w base s env H ρ m a.names)(hx:evE cf ρ a=some (.str x))(h:aG env.kindOf y a=true){t1 t2:Tok}{h':Heap}{tk:Nat}
  (hm:h'.DictOf (strKind prog w) s.heap.objs.size (merged [] [(Str.ofString "group",.int 3 t1),(Str.ofString "once",.int 1 t2)])) (hs:Heap.SameBut s.heap.objs.size (s.heap.push { cls:=.type "dict",data:=.dict #[] }) h') :
  MethodOn prog w A (Str.ofString "get") p (.ref s.heap.objs.size) [(false,eval y env),(false,eval (.Constant (.int 2) n5 p5) env)] (bh w s H (.int (pv x))) E { s with heap:=h',toks:=tk }:=by
 have k0:bz s { s with heap:=h',toks:=tk }:=.mk h' tk s.drawn fun b o e=>g1 hs (bH (Heap.get?_push_size _ rfl)) b (Nat.ne_of_lt (Heap.gt_lt e)) (Heap.gt_push_of_some _ e)
 refine⟨"dict","dict.get",F.plainAttrs_dict,F.slot_dict_get,F.type_dict_get,hm.typeIs,hm.mapOf.noDict,wpAny_dict_get2 (knd:=strKind prog w) (sB G c.hw.keep) (ha.go h (c.k k0) hx fun v s₁ q₁=>?_)⟩
 obtain⟨o,ho,hd⟩:=Heap.dictOf_iff.mp hm
 obtain⟨t3,e3⟩:∃ t,v=.str x t:=q₁.r.strE (C:=fun v=>∃ t,v=.str x t) fun t=>⟨t,rfl⟩
 subst e3
 have nt:bn o=false:=bZ fun u e=>by
  obtain⟨_,_,_,hd,_⟩:=hd
  rw[e] at hd;cases hd
 have ho₁:=Heap.of_gt (Kp.heap q₁.k _ _ (Heap.gt_of ho nt)) nt
 obtain⟨t,e⟩:=inn_at x t1 t2 s₁.toks
 exact wpAny_Constant_int ⟨x,_,strKind_is prog w x t3,(Heap.dictOf_iff.mpr ⟨o,ho₁,hd⟩).mapOf,e▸fT.tr (Kp.trans k0 q₁.k)⟩
theorem se_inn(G:GOk mg mb base){a:ME}(ha:SE prog w A base cf a):SE prog w A base cf (.inn a):=fun s env e H ρ m d E hc c he=>
 evi_inn he fun x hx hd=>hd▸IInn.rec (motive:=fun e _=>wpAny (model prog w) A (eval e env) (bh w s H (.int (pv x))) E s) (fun {y n1 n2 n3 n4 n5 p1 p2 p3 p4 p5 dp ap p} hl h=>by
  refine wpAny_Call_method2_late rfl hl (by rw[fQ h];rfl) ?_
  refine wpAny_Dict_pairs (knd:=strKind prog w) (pairs:=[(eval (.Constant (.str (Str.ofString "group")) n1 p1) env,do let x ← eval (.Constant (.int 3) n3 p3) env;standAt dp;pure x),(eval (.Constant (.str (Str.ofString "once")) n2 p2) env,do let x ← eval (.Constant (.int 1) n4 p4) env;standAt dp;pure x)]) ?a ?b ?c ?d
  case a=>
   rw[arm_evalEachOpt_cons,arm_evalEachOpt_cons,arm_evalEachOpt_nil,arm_evalEach_cons,arm_evalEach_cons,arm_evalEach_nil,arm_evalOpt_some,arm_evalOpt_some]
   generalize eval (.Constant (.str (Str.ofString "group")) n1 p1) env=e1
   generalize eval (.Constant (.str (Str.ofString "once")) n2 p2) env=e2
   generalize eval (.Constant (.int 3) n3 p3) env=e3
   generalize eval (.Constant (.int 1) n4 p4) env=e4
   rfl
  case b=>exact List.cons_ne_nil _ _
  case c=>exact Nat.le_of_ble_eq_true rfl
  case d=>
   refine evalPairs_cons (Calls.Constant_str (wpAny_bind (wpAny_Constant_int (wpAny_bind (wpAny_standAt (wpAny_pure (evalPairs_cons (Calls.Constant_str (wpAny_bind (wpAny_Constant_int (wpAny_bind (wpAny_standAt (wpAny_pure (evalPairs_nil ?_))))))))))))))
   exact⟨[(Str.ofString "group",_),(Str.ofString "once",_)],⟨strKind_is prog w _ _,rfl,strKind_is prog w _ _,rfl,trivial⟩,Heap.DictOf.new _,fun h' hm hs=>inn_core G ha c hx h hm hs⟩) (s4 hc)
end
end Mine
namespace Mine
open PySem PySem.SeqAt

section
variable {prog:Program} {w:World} {A:Around} {s:Shared} {base:Heap} {mg mb:Str→Option Value} {cf:CF}

theorem jP{me:ME}(h:SE prog w A base cf me)(hf:∀ ρ,evF cf ρ me=(evE cf ρ me).map fun d=>(d,false)):SF prog w A base cf me:=fun s env e H ρ m d fr E hc c he=>
 bB ((hf ρ).symm.trans he) fun d' h1 h2=>bj (h s env e H ρ m d E hc c (h1.trans (congrArg some (Prod.mk.inj h2).1))) fun _ _ q=>q.pf (Prod.mk.inj h2).2.symm
theorem sf_comp{elt src:ME}{x:String}{cs:List ME}(hh:A.handled=none)(he:SE prog w A base cf elt)(hs:SE prog w A base cf src)(hcs:SC prog w A base cf cs):SF prog w A base cf (.comp elt x src cs):=fun s env e H ρ m d fr E hc c hev=>
 eL hev rfl fun hev hf=>tN.rec (motive:=fun e _=>wpAny (model prog w) A (eval e env) (bX w s H d fr) E s) (fun c1 c2 c3 c4 c5=>by
  rw[eval_ListComp]
  refine rg (use:=none) hh he hs hcs c1 c2 c3 c4 c5 c hev fun L C h' tk dr m' out hd hL hC hLC hns hown hk=>⟨m',hns,fun h'' hs''=>?_⟩
  have m1:Mv C h' h'':=fun b o hn e=>g1 hs'' (eO hns) b hn e
  have own:gU w.params h'' H L out:=hown.mono (fun o e=>m1 L o hLC e) (fun a o hn e=>m1 a o (fun q=>hn (.inr q)) e) fun b o _ q=>.inl (.inl q)
  have hLn:gat s.heap L=none:=by
   cases e:gat s.heap L with
   | none=>rfl
   | some o=>exact absurd (hL _ _ e) (Nat.lt_irrefl _)
  exact hd▸hf▸⟨.mk h'' tk dr fun b o e=>m1 b o (fun q=>bR e (q▸hC)) (hk b o e),own.rep fun q=>(c.x L q).elim fun b z=>z.elim fun o z=>Nat.lt_irrefl _ (Nat.lt_of_le_of_lt z.1 (hL b o z.2)),fun _=>⟨hLn,own⟩⟩) (mO hc)
theorem evF_callx(f:String)(ms:List ME)(ρ:List (String×D))(d:D)(h:evE cf ρ (.call f ms)=some d):∃ fr,evF cf ρ (.call f ms)=some (d,fr):=
 evi_call h fun ds r h1 h2 e=>⟨r.2,by rw[kj,h1];exact h2.trans (congrArg some (Prod.ext e rfl))⟩
theorem blt_name{f:String}{ds:List D}{d:D}(h:gt f ds=some d):f∈cD:=by
 cases ds with
 | nil=>exact am h
 | cons a ds=>cases ds with
  | nil=>
   refine cy (c:=f="len") h (fun e _=>e▸by decide) fun _ h=>?_
   cases a with
   | int i=>exact cy h (fun e _=>e▸by decide) fun _ h=>cz h fun e _=>e▸by decide
   | bool b=>exact aZ h fun e _=>e▸by decide
   | str x=>exact aZ h fun e _=>e▸by decide
   | list ds=>exact cy h (fun e _=>e▸by decide) fun _ h=>cz h fun e _=>e▸by decide
   | _=>exact am h
  | cons b ds=>cases ds with
   | nil=>exact dh (C:=fun _=>f∈cD) h fun i h=>dh (C:=fun _=>f∈cD) h fun j h=>cy h (fun e _=>e▸by decide) fun _ h=>cy h (fun e _=>e▸by decide) fun _ h=>aZ h fun e _=>e▸by decide
   | cons=>exact am h
structure AE(prog:Program)(w:World)(A:Around)(base:Heap)(cf:CF)(me:ME):Prop where
 e:SE prog w A base cf me
 t:ST prog w A base cf me
 f:SF prog w A base cf me
structure AEs(prog:Program)(w:World)(A:Around)(base:Heap)(cf:CF)(ms:List ME):Prop where
 s:SEs prog w A base cf ms
 b:SB prog w A base cf ms
 c:SC prog w A base cf ms
 m:∀ e∈ms,SE prog w A base cf e
theorem lI{me:ME}(h:SE prog w A base cf me)(h2:me.plain=true)(h3:∀ ρ,evF cf ρ me=(evE cf ρ me).map fun d=>(d,false)):AE prog w A base cf me:=⟨h,p8 h (fun e k env whole hc=>(qC hc).test h2 env whole),jP h h3⟩
theorem pN{me:ME}(h:SF prog w A base cf me)(h2:me.plain=true)(h3:∀ ρ d,evE cf ρ me=some d→∃ fr,evF cf ρ me=some (d,fr)):AE prog w A base cf me:=
 have h4:=se_of_sf h h3
 ⟨h4,p8 h4 (fun e k env whole hc=>(qC hc).test h2 env whole),h⟩
theorem lw{me:ME}(h:lR me=none)(ρ:List (String×D))(d:D)(e:evE cf ρ me=some d):∃ fr,evF cf ρ me=some (d,fr):=⟨frF me d,by unfold evF;rw[h,e];rfl⟩
theorem se_bltx(G:GOk mg mb base)(hh:A.handled=none){f:String}{ms:List ME}(h:SEs prog w A base cf ms):SE prog w A base cf (.blt f ms):=
 (Classical.em (f∈cD)).elim (fun hf=>se_blt G hh hf h) fun hf s env e H ρ m d E hc c he=>tv he fun ds _ h=>absurd (blt_name h) hf
theorem sb_step{a:ME}{r:List ME}(h:AE prog w A base cf a)(hr:SB prog w A base cf r):SB prog w A base cf (a::r):=by
 cases r with
 | nil=>exact sb_one h.e h.t
 | cons b r=>exact sb_cons h.e h.t hr
theorem oH(G:GOk mg mb base)(C:dU prog w base mg cf A)(hh:A.handled=none)(hu:nD A)(me:ME):AE prog w A base cf me:=
 ME.rec (motive_1:=AE prog w A base cf) (motive_2:=AEs prog w A base cf)
  (fun x=>lI (rN x) rfl fun _=>rfl) (fun x=>lI (se_glob G C x) rfl fun _=>rfl) (fun i=>lI (se_int i) rfl fun _=>rfl) (fun x=>lI (se_str x) rfl fun _=>rfl) (fun b=>lI (se_bool b) rfl fun _=>rfl) (lI se_none rfl fun _=>rfl)
  (fun op a b ha hb=>pN (sf_bin ha.e hb.e) rfl (lw rfl))
  (fun op a b ha hb=>⟨ug hu.u2 ha.e hb.e,st_cmp hu.u2 ha.e hb.e,jP (ug hu.u2 ha.e hb.e) fun _=>rfl⟩)
  (fun op ms h=>⟨uh h.b,st_bop h.b,jP (uh h.b) fun _=>rfl⟩)
  (fun a h=>⟨uf h.e,st_not h.t,jP (uf h.e) fun _=>rfl⟩) (fun a h=>lI (se_neg h.e) rfl fun _=>rfl)
  (fun ms h=>lI (se_tup h.s) rfl fun _=>rfl) (fun ms h=>pN (sf_lst h.s) rfl (lw rfl))
  (fun a b ha hb=>lI (ue hu.u1 ha.e hb.e) rfl fun _=>rfl) (fun a b c ha hb hc=>pN (sf_sl ha.e hb.e hc.e) rfl (lw rfl))
  (fun ks vs hk hv=>pN (sf_dct G hk.m hv.m) rfl (lw rfl))
  (fun elt x src cs h1 h2 h3=>pN (sf_comp hh h1.e h2.e h3.c) rfl (lw rfl))
  (fun f ms h=>pN (sh G (C.at (.refl A)) h.s) rfl (evF_callx f ms)) (fun a T h=>lI (se_isi G h.e) rfl fun _=>rfl)
  (fun f ms h=>lI (se_bltx G hh h.s) rfl fun _=>rfl) (fun a h=>pN (sf_lcp G hh h.e) rfl (lw rfl))
  (fun a h=>pN (sf_sset G hh h.e) rfl (lw rfl))
  (fun a f x p rev h=>pN (sf_srt G C hu h.e) rfl (lw rfl))
  (fun a h=>lI (se_inn G h.e) rfl fun _=>rfl)
  ⟨si,sb_nil,ui,fun _ h=>nomatch h⟩ (fun a r ha hr=>⟨qh ha.e hr.s,sb_step ha hr.b,sk ha.t hr.c,fun e he=>(List.mem_cons.mp he).elim (fun q=>q▸ha.e) (hr.m e)⟩) me
theorem all_Cs(G:GOk mg mb base)(C:dU prog w base mg cf A)(hh:A.handled=none)(hu:nD A)(ms:List ME):SC prog w A base cf ms:=
 List.rec (motive:=SC prog w A base cf) ui (fun a _ h=>sk (oH G C hh hu a).t h) ms
end
end Mine
namespace Mine
open PySem PySem.SeqAt

noncomputable def bP(k:KD)(x:Str):Bool:=(k x == some .local||k x == some .cell)&&fg k x
noncomputable def pd(e:Expr):Bool:=!decide (e.ctorIdx=8)&&!decide (e.ctorIdx=9)&&!decide (e.ctorIdx=10)

noncomputable def kq(e:Stmt)(f:List Expr→Expr→Pos→Bool):Bool:=dite (e.ctorIdx=5) (fun h=>Stmt.Assign.elim (motive_2:=fun _=>Bool) e h f) (fun _=>false)
@[elab_as_elim] theorem iO{e:Stmt}{f:List Expr→Expr→Pos→Bool}{C:Stmt→Prop}(h:kq e f=true)(k:∀ v0 v1 v2,f v0 v1 v2=true→C (.Assign v0 v1 v2)):C e:=
 (bo h).elim fun hc h=>Stmt.Assign.elim (motive_2:=fun e=>∀ hc,Stmt.Assign.elim (motive_2:=fun _=>Bool) e hc f=true→C e) e hc (fun v0 v1 v2 _ h=>k v0 v1 v2 h) hc h
noncomputable def tC(e:Stmt)(f:Expr→Pos→Bool):Bool:=dite (e.ctorIdx=24) (fun h=>Stmt.Expr.elim (motive_2:=fun _=>Bool) e h f) (fun _=>false)
@[elab_as_elim] theorem k4{e:Stmt}{f:Expr→Pos→Bool}{C:Stmt→Prop}(h:tC e f=true)(k:∀ v0 v1,f v0 v1=true→C (.Expr v0 v1)):C e:=
 (bo h).elim fun hc h=>Stmt.Expr.elim (motive_2:=fun e=>∀ hc,Stmt.Expr.elim (motive_2:=fun _=>Bool) e hc f=true→C e) e hc (fun v0 v1 _ h=>k v0 v1 h) hc h
noncomputable def cIf(e:Stmt)(f:Expr→List Stmt→List Stmt→Pos→Bool):Bool:=dite (e.ctorIdx=12) (fun h=>Stmt.If.elim (motive_2:=fun _=>Bool) e h f) (fun _=>false)
@[elab_as_elim] theorem pL{e:Stmt}{f:Expr→List Stmt→List Stmt→Pos→Bool}{C:Stmt→Prop}(h:cIf e f=true)(k:∀ v0 v1 v2 v3,f v0 v1 v2 v3=true→C (.If v0 v1 v2 v3)):C e:=
 (bo h).elim fun hc h=>Stmt.If.elim (motive_2:=fun e=>∀ hc,Stmt.If.elim (motive_2:=fun _=>Bool) e hc f=true→C e) e hc (fun v0 v1 v2 v3 _ h=>k v0 v1 v2 v3 h) hc h
noncomputable def cFor(e:Stmt)(f:Expr→Expr→List Stmt→List Stmt→Pos→Bool):Bool:=dite (e.ctorIdx=9) (fun h=>Stmt.For.elim (motive_2:=fun _=>Bool) e h f) (fun _=>false)
@[elab_as_elim] theorem nv{e:Stmt}{f:Expr→Expr→List Stmt→List Stmt→Pos→Bool}{C:Stmt→Prop}(h:cFor e f=true)(k:∀ v0 v1 v2 v3 v4,f v0 v1 v2 v3 v4=true→C (.For v0 v1 v2 v3 v4)):C e:=
 (bo h).elim fun hc h=>Stmt.For.elim (motive_2:=fun e=>∀ hc,Stmt.For.elim (motive_2:=fun _=>Bool) e hc f=true→C e) e hc (fun v0 v1 v2 v3 v4 _ h=>k v0 v1 v2 v3 v4 h) hc h
noncomputable def cRet(e:Stmt)(f:Option Expr→Pos→Bool):Bool:=dite (e.ctorIdx=3) (fun h=>Stmt.Return.elim (motive_2:=fun _=>Bool) e h f) (fun _=>false)
@[elab_as_elim] theorem cRet_inv{e:Stmt}{f:Option Expr→Pos→Bool}{C:Stmt→Prop}(h:cRet e f=true)(k:∀ v0 v1,f v0 v1=true→C (.Return v0 v1)):C e:=
 (bo h).elim fun hc h=>Stmt.Return.elim (motive_2:=fun e=>∀ hc,Stmt.Return.elim (motive_2:=fun _=>Bool) e hc f=true→C e) e hc (fun v0 v1 _ h=>k v0 v1 h) hc h
noncomputable def uW(e:Stmt)(f:Expr→List Stmt→List Stmt→Pos→Bool):Bool:=dite (e.ctorIdx=11) (fun h=>Stmt.While.elim (motive_2:=fun _=>Bool) e h f) (fun _=>false)
@[elab_as_elim] theorem cWhile_inv{e:Stmt}{f:Expr→List Stmt→List Stmt→Pos→Bool}{C:Stmt→Prop}(h:uW e f=true)(k:∀ v0 v1 v2 v3,f v0 v1 v2 v3=true→C (.While v0 v1 v2 v3)):C e:=
 (bo h).elim fun hc h=>Stmt.While.elim (motive_2:=fun e=>∀ hc,Stmt.While.elim (motive_2:=fun _=>Bool) e hc f=true→C e) e hc (fun v0 v1 v2 v3 _ h=>k v0 v1 v2 v3 h) hc h
noncomputable def c3{α:Type}(l:List α)(f:α→α→α→Bool):Bool:=match l with | x::l=>c2 l (f x) | _=>false
@[elab_as_elim] theorem c3_inv{α:Type}{l:List α}{f:α→α→α→Bool}{C:List α→Prop}(h:c3 l f=true)(k:∀ x y z,f x y z=true→C [x,y,z]):C l:=by
 cases l with
 | nil=>cases h
 | cons x l=>exact k6 (C:=fun l=>C (x::l)) h (k x)
noncomputable def grp1(k:KD)(st:Stmt):Bool:=kq st fun ts v _=>c1 ts fun t=>cL t fun y _=>y == Str.ofString "own"&&bP k y&&aG k v (.call "cells_at" [.var "row",.var "places"])
noncomputable def grp2(k:KD)(st:Stmt):Bool:=cIf st fun v b o _=>aG k v (.cmp .NotIn (.var "own") (.var "groups"))&&o.isEmpty&&c1 b fun st=>kq st fun ts v _=>c1 ts fun t=>tU t fun gn on _=>aG k gn (.var "groups")&&aG k on (.var "own")&&aG k v (.lst [])
noncomputable def grp3(k:KD)(st:Stmt):Bool:=tC st fun v _=>fo v fun g as ks p=>ks.isEmpty&&c1 as fun a=>tD g fun recv at_ ap=>at_ == Str.ofString "append"&&ap.endLine == p.line&&aG k recv (.sub (.var "groups") (.var "own"))&&aG k a (.var "row")
noncomputable def grpB(k:KD)(st:Stmt):Bool:=cFor st fun t it b o _=>o.isEmpty&&cL t fun y _=>y == Str.ofString "row"&&bP k y&&d3 it&&aG k it (.var "rows")&&c3 b fun s1 s2 s3=>grp1 k s1&&grp2 k s2&&grp3 k s3
mutual
noncomputable def kY(k:KD)(st:Stmt)(ms:MS):Bool:=match ms with
 | .assign x e=>kq st fun ts v _=>c1 ts fun t=>cL t fun y _=>y == Str.ofString x&&bP k y&&aG k v e
 | .append x e=>tC st fun v _=>fo v fun g as ks p=>ks.isEmpty&&c1 as fun a=>tD g fun n at_ ap=>cL n fun y _=>y == Str.ofString x&&bP k y&&at_ == Str.ofString "append"&&ap.endLine == p.line&&aG k a e
 | .setk x ke e=>kq st fun ts v _=>c1 ts fun t=>tU t fun o i _=>cL o fun y _=>y == Str.ofString x&&bP k y&&aG k i ke&&aG k v e
 | .ite c t f=>cIf st fun v b o _=>aG k v c&&eI k b t&&eI k o f
 | .for_ x src body=>cFor st fun t it b o _=>o.isEmpty&&cL t fun y _=>y == Str.ofString x&&bP k y&&d3 it&&aG k it src&&rX k b body
 | .ret e=>cRet st fun v _=>tW v fun v=>aG k v e
 | .bad=>true
 | .grp=>grpB k st
 | .expr e=>tC st fun v _=>pd v&&aG k v e
 | .while_ c body=>uW st fun v b o _=>o.isEmpty&&aG k v c&&eI k b body
 | .forr x src body=>cFor st fun t it b o _=>o.isEmpty&&cL t fun y _=>y == Str.ofString x&&bP k y&&d3 it&&(fo it fun g as ks _=>ks.isEmpty&&cL g fun g _=>g == Str.ofString "reversed"&&bY k g&&c1 as fun a=>aG k a src)&&eI k b body
termination_by structural ms
noncomputable def eI(k:KD)(ss:List Stmt)(ms:List MS):Bool:=match ms with
 | []=>ss.isEmpty
 | a::r=>(match ss with | s::ss'=>kY k s a&&eI k ss' r | []=>false)
termination_by structural ms
noncomputable def rX(k:KD)(ss:List Stmt)(ms:List MS):Bool:=match ms with
 | []=>ss.isEmpty
 | a::r=>(match ss with | s::ss'=>(kY k s a&&rX k ss' r)||(r.isEmpty&&cIf s fun v b o _=>o.isEmpty&&(c1 b fun st=>decide (st.ctorIdx=27))&&(match a with | .ite c t f=>t.isEmpty&&(aG k v c&&eI k ss' f) | _=>false)) | []=>false)
termination_by structural ms
end

theorem cb_cons(k:KD)(s:Stmt)(ss':List Stmt)(a:MS)(r:List MS):rX k (s::ss') (a::r)=((kY k s a&&rX k ss' r)||(r.isEmpty&&cIf s fun v b o _=>o.isEmpty&&(c1 b fun st=>decide (st.ctorIdx=27))&&(match a with | .ite c t f=>t.isEmpty&&(aG k v c&&eI k ss' f) | _=>false))):=by
 cases a <;> rfl
section
variable {k:KD} {st:Stmt}
inductive lZ(k:KD)(x:String)(e:ME):Stmt→Prop
 | mk {p v pos} (hst:bP k (Str.ofString x)=true) (hc:aG k v e=true):lZ k x e (.Assign [.Name (Str.ofString x) p] v pos)
theorem mP{x:String}{e:ME}(h:kY k st (.assign x e)=true):lZ k x e st:=
 iO h fun ts v p h=>dP h fun t h=>bI h fun y py h=>gT h fun h1=>eqb h1 fun h2 h3=>⟨h2,h3⟩
inductive pR(k:KD)(x:String)(e:ME):Stmt→Prop
 | mk {yp ap a p pos} (hst:bP k (Str.ofString x)=true) (hl:(ap.endLine == p.line)=true) (hc:aG k a e=true):pR k x e (.Expr (.Call (.Attribute (.Name (Str.ofString x) yp) (Str.ofString "append") ap) [a] [] p) pos)
theorem inv_append{x:String}{e:ME}(h:kY k st (.append x e)=true):pR k x e st:=
 k4 h fun v pos h=>dH h fun g as ks p h=>bG h fun h1 h=>je h1 (dP h fun a h=>k5 (e:=g) h fun n at_ ap h=>bI (e:=n) h fun y yp h=>nK h fun h1=>eqb h1 fun h2 h3=>eqb h3 fun h4 h5=>⟨h2,h4,h5⟩)
inductive ve(k:KD)(x:String)(ke e:ME):Stmt→Prop
 | mk {yp i p v pos} (hst:bP k (Str.ofString x)=true) (hi:aG k i ke=true) (hc:aG k v e=true):ve k x ke e (.Assign [.Subscript (.Name (Str.ofString x) yp) i p] v pos)
theorem inv_setk{x:String}{ke e:ME}(h:kY k st (.setk x ke e)=true):ve k x ke e st:=
 iO h fun ts v pos h=>dP h fun t h=>km h fun o i p h=>bI (e:=o) h fun y yp h=>nL h fun h1=>eqb h1 fun h2 h3 h4=>⟨h2,h3,h4⟩
inductive IIte(k:KD)(c:ME)(t f:List MS):Stmt→Prop
 | mk {v b o p} (hc:aG k v c=true) (ht:eI k b t=true) (hf:eI k o f=true):IIte k c t f (.If v b o p)
theorem inv_ite{c:ME}{t f:List MS}(h:kY k st (.ite c t f)=true):IIte k c t f st:=pL h fun v b o p h=>gT h fun h1 h2 h3=>⟨h1,h2,h3⟩
inductive IFor(k:KD)(x:String)(src:ME)(body:List MS):Stmt→Prop
 | mk {yp it b p} (hst:bP k (Str.ofString x)=true) (hn:d3 it=true) (hc:aG k it src=true) (hb:rX k b body=true):IFor k x src body (.For (.Name (Str.ofString x) yp) it b [] p)
theorem inv_for{x:String}{src:ME}{body:List MS}(h:kY k st (.for_ x src body)=true):IFor k x src body st:=
 nv h fun t it b o p h=>bG h fun h1 h=>je h1 (bI (e:=t) h fun y yp h=>nK h fun h1=>eqb h1 fun h2 h3 h4 h5=>⟨h2,h3,h4,h5⟩)
inductive vh(k:KD)(e:ME):Stmt→Prop
 | mk {v p} (hn:pd v=true) (hc:aG k v e=true):vh k e (.Expr v p)
theorem inv_expr{e:ME}(h:kY k st (.expr e)=true):vh k e st:=k4 h fun v p h=>bG h fun h1 h2=>⟨h1,h2⟩
inductive r4(k:KD)(c:ME)(body:List MS):Stmt→Prop
 | mk {v b p} (hc:aG k v c=true) (hb:eI k b body=true):r4 k c body (.While v b [] p)
theorem inv_while{c:ME}{body:List MS}(h:kY k st (.while_ c body)=true):r4 k c body st:=cWhile_inv h fun v b o p h=>gT h fun h1 h2 h3=>je h1 ⟨h2,h3⟩
inductive vg(k:KD)(x:String)(src:ME)(body:List MS):Stmt→Prop
 | mk {yp gp a cp b p} (hst:bP k (Str.ofString x)=true) (hg:bY k (Str.ofString "reversed")=true) (hc:aG k a src=true) (hb:eI k b body=true):vg k x src body (.For (.Name (Str.ofString x) yp) (.Call (.Name (Str.ofString "reversed") gp) [a] [] cp) b [] p)
theorem inv_forr{x:String}{src:ME}{body:List MS}(h:kY k st (.forr x src body)=true):vg k x src body st:=
 nv h fun t it b o p h=>bG h fun h1 h=>je h1 (bI (e:=t) h fun y yp h=>nK h fun h2=>eqb h2 fun h3 _ h4 h5=>dH (e:=it) h4 fun g as ks cp h=>bG h fun h6 h=>je h6 (bI (e:=g) h fun g gp h=>gT h fun h7=>eqb h7 fun h8 h9=>dP h9 fun a h9=>⟨h3,h8,h9,h5⟩))
inductive IRet(k:KD)(e:ME):Stmt→Prop
 | mk {v p} (hc:aG k v e=true):IRet k e (.Return (some v) p)
theorem inv_ret{e:ME}(h:kY k st (.ret e)=true):IRet k e st:=cRet_inv h fun v p h=>nu h fun v h=>⟨h⟩
end

noncomputable abbrev Own:=String→Option Addr
noncomputable def frm(env:Env)(b:Addr):Prop:=b=env.locals∨∃ x,env.cells.lookup x=some b
noncomputable def Hot(env:Env)(H₀:Addr→Prop)(own:Own)(b:Addr):Prop:=H₀ b∨frm env b∨∃ x,own x=some b
noncomputable def Own.less(own:Own)(ns:List String):Own:=fun x=>if x∈ns then none else own x
theorem dM{own:Own}{ns:List String}{x:String}{a:Addr}(e:own.less ns x=some a):own x=some a:=by unfold Own.less at e;split at e <;> first | cases e | exact e
theorem Hot.mono{env:Env}{H₀ H₁:Addr→Prop}{own own':Own}(hH:∀ b,H₁ b→H₀ b)(hs:∀ x a,own' x=some a→own x=some a){b:Addr}(h:Hot env H₁ own' b):Hot env H₀ own b:=
 h.imp (hH b) fun h=>h.imp id fun h=>h.elim fun x h=>⟨x,hs x b h⟩
theorem Hot.less{env:Env}{H₀:Addr→Prop}{own:Own}{ns:List String}{b:Addr}(h:Hot env H₀ (own.less ns) b):Hot env H₀ own b:=h.mono (fun _ q=>q) fun _ _=>dM

structure bi(w:World)(base ent h:Heap)(env:Env)(H₀:Addr→Prop)(own:Own)(m:Str→Option Value)(σ:St):Prop where
 rep:bp h env m
 plain:∀ x d,σ.lookup x=some (false,d)→∃ v,m (Str.ofString x)=some v∧Rep w.params h (Hot env H₀ own) v d
 owned:∀ x d,σ.lookup x=some (true,d)→∃ a,own x=some a∧m (Str.ofString x)=some (.ref a)∧cN w.params h (Hot env H₀ own) a d
 hot:HOk base h (Hot env H₀ own)
 keep:KH ent h
 frE:∀ b,frm env b→gat ent b=none
 own1:∀ x a,own x=some a→gat ent a=none∧¬ H₀ a∧¬ frm env a
 inj:∀ x y a,own x=some a→own y=some a→x=y
 ownx:∀ x a,own x=some a→∃ o,gat h a=some o

section
variable {w:World} {base ent h h':Heap} {env:Env} {H₀ H₁:Addr→Prop} {own own':Own} {m m':Str→Option Value} {σ:St}
theorem bi.off(S:bi w base ent h env H₀ own m σ){x:String}{a:Addr}(hx:own x=some a)(hs:∀ y b,own' y=some b→own y=some b)(hn:own' x≠some a):¬ Hot env H₀ own' a:=fun q=>q.elim (S.own1 x a hx).2.1 fun q=>q.elim (S.own1 x a hx).2.2 fun q=>q.elim fun y e=>hn (S.inj y x a (hs y a e) hx▸e)
theorem bi.to(S:bi w base ent h env H₀ own m σ)(R:bp h' env m)(kp:lK h (Hot env H₀ own) h')(ko:∀ x a o,own x=some a→gat h a=some o→gat h' a=some o)(ls:pQ h (Hot env H₀ own) (Hot env H₁ own))(ke:KH ent h')(hx:∀ b,H₁ b→∃ b' o,@LE.le Nat _ b b'∧gat h' b'=some o)(hn:∀ x a,own x=some a→¬ H₁ a):bi w base ent h' env H₁ own m σ where
 rep:=R
 plain:=fun x d e=>(S.plain x d e).elim fun v q=>⟨v,q.1,q.2.mono kp ls⟩
 owned:=fun x d e=>(S.owned x d e).elim fun a q=>⟨a,q.1,q.2.1,q.2.2.mono (fun o e=>ko x a o q.1 e) kp fun b o e z=>.inl (ls b o e z)⟩
 hot:=⟨fun b o e=>kp b o (S.hot.off b o e) (S.hot.keep b o e),fun b q=>q.elim (hx b) fun q=>q.elim (fun q=>(q.elim (fun q=>R.loc.elim fun _ z=>q▸qT z.1) fun q=>q.elim fun x z=>R.ex x b z).elim fun o z=>⟨b,o,Nat.le_refl _,z⟩) fun q=>q.elim fun x q=>(S.ownx x b q).elim fun o z=>⟨b,o,Nat.le_refl _,ko x b o q z⟩,fun b o e q=>S.hot.off b o e (ls b o (S.hot.keep b o e) q)⟩
 keep:=ke
 frE:=S.frE
 own1:=fun x a e=>⟨(S.own1 x a e).1,hn x a e,(S.own1 x a e).2.2⟩
 inj:=S.inj
 ownx:=fun x a e=>(S.ownx x a e).elim fun o z=>⟨o,ko x a o e z⟩
theorem bi.keeps(S:bi w base ent h env H₀ own m σ)(hk:KH h h'):bi w base ent h' env H₀ own m σ:=
 S.to (S.rep.keeps hk) (fun b o _ e=>hk b o e) (fun _ a o _ e=>hk a o e) (fun _ _ _ q=>q) (fun b o e=>hk b o (S.keep b o e)) (fun b q=>(S.hot.ex b (.inl q)).elim fun b' z=>z.elim fun o z=>⟨b',o,z.1,hk _ _ z.2⟩) fun x a e=>(S.own1 x a e).2.1
theorem lm{ns:List String}{x:String}{b:Bool}{d:D}{C:Prop}(e:(Mine.freeze ns σ).lookup x=some (b,d))(k:∀ o,σ.lookup x=some (o,d)→(o&&!ns.contains x)=b→C):C:=by
 rw[bg] at e
 exact bB e fun p h1 h2=>k p.1 (h1.trans (congrArg some (Prod.ext rfl (Prod.mk.inj h2).2))) (Prod.mk.inj h2).1
theorem bi.freeze(S:bi w base ent h env H₀ own m σ)(ns:List String):bi w base ent h env H₀ (own.less ns) m (Mine.freeze ns σ) where
 rep:=S.rep
 plain:=fun x d e=>lm e fun o h1 h2=>by
  cases o with
  | false=>exact (S.plain x d h1).elim fun v q=>⟨v,q.1,q.2.sub fun _ q=>q.less⟩
  | true=>
   have hm:x∈ns:=List.contains_iff_mem.mp (by simpa using h2)
   exact (S.owned x d h1).elim fun a q=>⟨_,q.2.1,(q.2.2.sub fun _ q=>q.less).rep (S.off q.1 (fun _ _=>dM) (by unfold Own.less;rw[if_pos hm];nofun))⟩
 owned:=fun x d e=>lm e fun o h1 h2=>bG h2 fun h3 h4=>by
  subst h3
  have hm:¬ x∈ns:=fun q=>by rw[List.contains_iff_mem.mpr q] at h4;cases h4
  exact (S.owned x d h1).elim fun a q=>⟨a,(if_neg hm).trans q.1,q.2.1,q.2.2.sub fun _ q=>q.less⟩
 hot:=⟨S.hot.keep,fun a q=>S.hot.ex a q.less,fun b o e q=>S.hot.off b o e q.less⟩
 keep:=S.keep
 frE:=S.frE
 own1:=fun x a e=>S.own1 x a (dM e)
 inj:=fun x y a e1 e2=>S.inj x y a (dM e1) (dM e2)
 ownx:=fun x a e=>S.ownx x a (dM e)
theorem bi.cc(S:bi w base ent h env H₀ own m σ){s:Shared}(hs:s.heap=h)(ns:List String):Cc w base s env (Hot env H₀ (own.less ns)) (vis σ) m ns:=by
 subst hs
 refine⟨S.rep,(S.freeze ns).hot,fun x hx _ d hd=>?_⟩
 rw[bT] at hd
 refine bB hd fun p h1 h2=>(S.freeze ns).plain x d ?_
 rw[bg,h1,Option.map_some,h2,List.contains_iff_mem.mpr hx,Bool.not_true,Bool.and_false]
end
end Mine
namespace Mine
open PySem PySem.SeqAt

section
variable {w:World} {base ent h h₁ h₂:Heap} {env:Env} {H₀:Addr→Prop} {own:Own} {m:Str→Option Value} {σ:St}

theorem ez{a:Addr}(R:bp h env m)(ha:frm env a):∃ o,gat h a=some o:=ha.elim (fun e=>R.loc.elim fun _ q=>e▸qT q.1) fun q=>q.elim fun y e=>R.ex y a e
noncomputable def Own.set(own:Own)(x:String)(nw:Option Addr):Own:=fun y=>if y=x then nw else own y
theorem iW{x y:String}{p q:Bool×D}{C:Prop}(e:(aC σ x p).lookup y=some q)(k1:y=x→p=q→C)(k2:¬ y=x→σ.lookup y=some q→C):C:=by
 rw[aH] at e
 exact cy e (fun h e=>k1 h (Option.some.inj e)) k2
theorem dL{x y:String}{nw:Option Addr}{c:Addr}{C:Prop}(e:own.set x nw y=some c)(k1:y=x→nw=some c→C)(k2:¬ y=x→own y=some c→C):C:=cy e k1 k2
theorem ua{x y:String}{v:Value}(h:¬ y=x):upd m (Str.ofString x) v (Str.ofString y)=m (Str.ofString y):=if_neg fun e=>h (cW e)
theorem bi.set(S:bi w base ent h env H₀ own m σ){x:String}{v:Value}{nw:Option Addr}{fr:Bool}{d:D}(R₂:bp h₂ env (upd m (Str.ofString x) v))(kp:lK h (Hot env H₀ own) h₂)(ko:∀ y a o,own y=some a→gat h a=some o→gat h₂ a=some o)(kx:∀ b o,gat h b=some o→∃ o',gat h₂ b=some o')(ke:KH ent h₂)
  (hnw:∀ c,nw=some c→gat h c=none∧¬ H₀ c∧∃ o,gat h₂ c=some o) (hP:fr=false→Rep w.params h₂ (Hot env H₀ (own.set x nw)) v d) (hO:fr=true→∃ c,nw=some c∧v=.ref c∧cN w.params h₂ (Hot env H₀ (own.set x nw)) c d) :
  bi w base ent h₂ env H₀ (own.set x nw) (upd m (Str.ofString x) v) (aC σ x (fr,d)):=
 have ls:pQ h (Hot env H₀ own) (Hot env H₀ (own.set x nw)):=fun b o e q=>q.imp id fun q=>q.imp id fun q=>q.elim fun y q=>dL q (fun _ q=>bR e (hnw b q).1) fun _ q=>⟨y,q⟩
 {rep:=R₂
  plain:=fun y d' e=>iW e (fun ey ep=>⟨v,ey▸if_pos rfl,(Prod.mk.inj ep).2▸hP (Prod.mk.inj ep).1⟩) fun ne e=>(S.plain y d' e).elim fun u q=>⟨u,(ua ne).trans q.1,q.2.mono kp ls⟩
  owned:=fun y d' e=>iW e (fun ey ep=>(hO (Prod.mk.inj ep).1).elim fun c q=>⟨c,ey▸(if_pos rfl).trans q.1,ey▸(if_pos rfl).trans (congrArg some q.2.1),(Prod.mk.inj ep).2▸q.2.2⟩) fun ne e=>(S.owned y d' e).elim fun c q=>⟨c,(if_neg ne).trans q.1,(ua ne).trans q.2.1,q.2.2.mono (fun o e=>ko y c o q.1 e) kp fun b o e z=>.inl (ls b o e z)⟩
  hot:=⟨fun b o e=>kp b o (S.hot.off b o e) (S.hot.keep b o e),fun b q=>q.elim (fun q=>(S.hot.ex b (.inl q)).elim fun b' z=>z.elim fun o z=>(kx b' o z.2).elim fun o' e=>⟨b',o',z.1,e⟩) fun q=>(q.elim (ez R₂) fun q=>q.elim fun y q=>dL q (fun _ q=>(hnw b q).2.2) fun _ q=>(S.ownx y b q).elim fun o z=>kx b o z).elim fun o z=>⟨b,o,Nat.le_refl _,z⟩,fun b o e q=>S.hot.off b o e (ls b o (S.hot.keep b o e) q)⟩
  keep:=ke
  frE:=S.frE
  own1:=fun y c hc=>dL hc (fun _ q=>⟨jX S.keep (hnw c q).1,(hnw c q).2.1,fun z=>(ez S.rep z).elim fun o e=>bR e (hnw c q).1⟩) fun _ q=>S.own1 y c q
  inj:=fun y z c h1 h2=>dL h1 (fun e1 q1=>dL h2 (fun e2 _=>e1.trans e2.symm) fun _ q=>(S.ownx z c q).elim fun o e=>bR e (hnw c q1).1) fun _ q1=>dL h2 (fun _ q=>(S.ownx y c q1).elim fun o e=>bR e (hnw c q).1) fun _ q=>S.inj y z c q1 q
  ownx:=fun y c hc=>dL hc (fun _ q=>(hnw c q).2.2) fun _ q=>(S.ownx y c q).elim fun o z=>kx c o z }
theorem bi.turn(S:bi w base ent h env H₀ own m σ){x:String}{a:Addr}{d₀ d:D}(hx:σ.lookup x=some (true,d₀))(hown:own x=some a)(hs:Heap.SameBut a h h₂)(hd:cN w.params h₂ (Hot env H₀ own) a d) :
  bi w base ent h₂ env H₀ own m (aC σ x (true,d)):=by
 refine (S.owned x _ hx).elim fun a' q=>?_
 have ea:a'=a:=Option.some.inj (q.1.symm.trans hown)
 subst ea
 have m1:Mv a' h h₂:=uj ⟨hs,q.2.2.notTab,hd.notTab⟩
 have g:=S.own1 x a' hown
 have kp:lK h (Hot env H₀ own) h₂:=fun b o hn e=>m1 b o (fun z=>hn (z▸.inr (.inr ⟨x,hown⟩))) e
 have kx:∀ b o,gat h b=some o→∃ o',gat h₂ b=some o':=fun b o e=>(Classical.em (b=a')).elim (fun q=>q▸hd.ex) fun q=>⟨o,m1 b o q e⟩
 exact
  {rep:=S.rep.keepsAt fun b o hb e=>m1 b o (fun z=>g.2.2 (z▸hb)) e
   plain:=fun y d' e=>iW e (fun _ ep=>nomatch (Prod.mk.inj ep).1) fun _ e=>(S.plain y d' e).elim fun u z=>⟨u,z.1,z.2.mono kp fun _ _ _ q=>q⟩
   owned:=fun y d' e=>iW e (fun ey ep=>⟨a',ey▸hown,ey▸q.2.1,(Prod.mk.inj ep).2▸hd⟩) fun ne e=>(S.owned y d' e).elim fun c z=>⟨c,z.1,z.2.1,z.2.2.mono (fun o e=>m1 c o (fun w=>ne (S.inj y x a' (w▸z.1) hown)) e) kp fun _ _ _ q=>.inl q⟩
   hot:=⟨fun b o e=>kp b o (S.hot.off b o e) (S.hot.keep b o e),fun b q=>(S.hot.ex b q).elim fun b' z=>z.elim fun o z=>(kx b' o z.2).elim fun o' e=>⟨b',o',z.1,e⟩,S.hot.off⟩
   keep:=fun b o e=>m1 b o (fun z=>bR e (z▸g.1)) (S.keep b o e)
   frE:=S.frE
   own1:=S.own1
   inj:=S.inj
   ownx:=fun y c hc=>(S.ownx y c hc).elim fun o z=>kx c o z }
end
end Mine
namespace Mine
open PySem PySem.SeqAt
section
variable {prog:Program} {w:World} {A:Around}
theorem isKey_tk(k:List CK):(dW k).isKey=true:=List.all_eq_true.mpr fun d hd=>(List.mem_map.mp hd).elim fun c q=>q.2▸by cases c <;> rfl
theorem dictH_own{prog:Program}{w:World}{h:Heap}{H:Addr→Prop}{a:Addr}{xs:List (List CK×Addr×Value)}{ks vs:List D}(hm:h.DictOfH (TKd prog w) a xs)(e1:xs.map kD=ks)(h1:aq w.params h (fun b=>H b∨b=a) (xs.map fun x=>Value.ref x.2.1) ks)(h2:aq w.params h (fun b=>H b∨b=a) (xs.map (·.2.2)) vs)(hl:ks.length≤big)(hs:(a == sysModules)=false):lJ w.params h H a ks vs:=by
 obtain⟨o',es',ep',g1,⟨g2,g3,g4⟩,g5,g6,g7,g8⟩:=hm
 have ho':o'=lH es' ep':=by obtain⟨a,b,c,d⟩:=o';dsimp only at g2 g3 g4 g5;subst g2 g3 g4 g5;rfl
 subst e1
 exact⟨ho'▸g1,hl,by rw[g6,List.map_map];exact h1,by rw[g6,List.map_map];exact h2,by rw[g6,List.map_map,List.map_map];exact List.map_congr_left fun x _=>th x.1,
  List.all_eq_true.mpr fun z hz=>(List.mem_map.mp hz).elim fun x q=>q.2▸isKey_tk x.1,List.pairwise_map.mpr ((List.pairwise_map.mp g8).imp fun h e=>h (ofTK_inj e)),hs⟩
theorem bi.ownAt{base ent h:Heap}{env:Env}{H₀:Addr→Prop}{own:Own}{m:Str→Option Value}{σ:St}(S:bi w base ent h env H₀ own m σ){x:String}{L:Addr}{d:D}(hx:σ.lookup x=some (true,d))(hL:own x=some L):cN w.params h (Hot env H₀ own) L d:=
 (S.owned x _ hx).elim fun L' q=>Option.some.inj (q.1.symm.trans hL)▸q.2.2
theorem li{s:Shared}{H:Addr→Prop}{L:Addr}{ks vs:List D}{u kv:Value}{d dk:D}{Q:Unit→Shared→Prop}{E:Value→Shared→Prop}(hu:A.units+1<cLine)(o:lJ w.params s.heap H L ks vs)
  (rk:Rep w.params s.heap (fun b=>H b∨b=L) kv dk) (rv:Rep w.params s.heap (fun b=>H b∨b=L) u d) (hc:dX dk ks=true) (hlen:ks.length<big)
  (hQ:∀ h' tk dw,Heap.SameBut L s.heap h'→lJ w.params h' H L (dK ks vs dk d).1 (dK ks vs dk d).2→Q () { s with heap:=h',toks:=tk,drawn:=dw }):wpAny (model prog w) A (setItem (.ref L) kv u) Q E s:=by
 refine o.rec fun {es n} o1 o2 o3 o4 o5 o6 o7 o8=>?_
 have hdl:(dK ks vs dk d).1.length≤big:=Nat.le_trans (dput_len dk d ks vs) hlen
 have mv:∀ {h'},Heap.SameBut L s.heap h'→∀ {l:List Value} {ds:List D},aq w.params s.heap (fun b=>H b∨b=L) l ds→aq w.params h' (fun b=>H b∨b=L) l ds:=fun hs _ _ r=>
  r.mono (fun b o hb e=>g1 hs (bH o1) b (fun q=>hb (.inr q)) e) fun _ _ _ q=>q
 refine kM hc (fun h1 h2=>?_) ?_
 ·obtain⟨cs,rfl⟩:=np h2
  obtain⟨c,rfl⟩:=fk h1
  have hl:cs.length=(es.toList.map (·.val)).length:=by have:=o3.length;rw[List.length_map,List.length_map] at this;rw[List.length_map,this]
  have hcn:cs.Nodup:=(List.pairwise_map.mp o7).imp fun h e=>h (congrArg bq e)
  refine wpAny_setItem_pairs (knd:=ce prog w) (kB rk) (m9 o1 o3 o5 o7) (fun h' hm hs=>?_) (by
   rw[List.length_zip,← hl,Nat.min_self]
   rw[List.length_map] at hlen
   exact Nat.le_of_lt hlen)
  have p:=stored_dput (k:=c) rv hl hcn o4
  refine (rep_dictOf (H:=fun b=>H b∨b=L) hm).elim fun es' r=>r.elim fun n' r=>?_
  rw[p.1] at r
  exact hQ _ _ _ hs ⟨r.1,hdl,r.2.1,r.2.2.1▸mv hs p.2,r.2.2.2.1,r.2.2.2.2.1,r.2.2.2.2.2,o8⟩
 ·intro h1 h2
  obtain⟨cs,rfl⟩:=rI h2
  obtain⟨c,rfl⟩:=pV h1
  obtain⟨xs,hm,e1,e2,e3⟩:=kW (prog:=prog) o1 o3 o5 o7
  obtain⟨b,rfl,ib⟩:=oY (prog:=prog) rk
  subst e1
  have hn:(xs.map (·.1)).Nodup:=(List.pairwise_map.mp o7).imp fun h e=>h (by rw[e])
  have ek:(xs.map (·.1)).map dW=xs.map kD:=by rw[List.map_map];rfl
  rw[ek] at o3 hdl hQ
  have p:=storedH_dput rk rv hn (e2▸o3) (e3▸o4)
  exact wpAny_setItem_heap (knd:=TKd prog w) hu ib hm (fun h' hm' hs=>hQ _ _ _ hs (dictH_own hm' p.1 (mv hs p.2.1) (mv hs p.2.2) hdl o8)) (by
   rw[List.length_map,List.length_map] at hlen;exact Nat.le_of_lt hlen)
end
end Mine
namespace Mine
open PySem PySem.SeqAt

structure Tr(h₀:Heap)(env:Env)(own₀:Own)(h:Heap)(own:Own):Prop where
 k:∀ b o,gat h₀ b=some o→¬ frm env b→(∀ x,own₀ x≠some b)→gat h b=some o
 x:∀ b o,gat h₀ b=some o→∃ o',gat h b=some o'
 o:∀ x a,own x=some a→own₀ x=some a∨gat h₀ a=none
section
variable {h₀ h h₁ h₂:Heap} {env:Env} {own₀ own own₁ own₂:Own}
theorem Tr.of(hk:KH h₀ h)(ho:∀ x a,own x=some a→own₀ x=some a):Tr h₀ env own₀ h own:=⟨fun b o e _ _=>hk b o e,fun b o e=>⟨o,hk b o e⟩,fun x a e=>.inl (ho x a e)⟩
theorem Tr.keeps(hk:KH h₀ h):Tr h₀ env own h own:=.of hk fun _ _ e=>e
theorem Tr.none(t:Tr h₀ env own₀ h own){a:Addr}(e:gat h a=none):gat h₀ a=none:=sC (t.x a) e
theorem Tr.sub(t:Tr h₀ env own₀ h own){b:Addr}{o:Obj}(e:gat h₀ b=some o)(hn:∀ x,own₀ x≠some b):∀ x,own x≠some b:=fun x q=>(t.o x b q).elim (hn x) fun q=>bR e q
theorem Tr.trans(t:Tr h₀ env own₀ h₁ own₁)(u:Tr h₁ env own₁ h₂ own₂):Tr h₀ env own₀ h₂ own₂:=
 ⟨fun b o e hf ho=>u.k b o (t.k b o e hf ho) hf (t.sub e ho),fun b o e=>(t.x b o e).elim fun o' e'=>u.x b o' e',fun x a e=>(u.o x a e).elim (t.o x a) fun e=>.inr (t.none e)⟩
end
structure tK(w:World)(ent h:Heap)(H₀:Addr→Prop)(v:Value)(fr:Bool)(d:D):Prop where
 rep:Rep w.params h H₀ v d
 keep:KH ent h
 fr:fr=true→Fr w.params ent h H₀ d v
noncomputable def sE:Own:=fun _=>none
noncomputable def aU(w:World)(base ent:Heap)(env:Env)(H₀:Addr→Prop)(s:Shared)(own:Own)(r:Fl×St)(f:Flow)(s':Shared):Prop:=
 ∀ Q:Flow→Shared→Prop,(∀ h tk dw own' m,r.1=.next→Tr s.heap env own h own'→bi w base ent h env H₀ own' m r.2→Q .next { s with heap:=h,toks:=tk,drawn:=dw }) →
  (∀ h tk dw fr d v,r.1=.ret fr d→Tr s.heap env own h sE→tK w ent h H₀ v fr d→Q (.ret v) { s with heap:=h,toks:=tk,drawn:=dw })→Q f s'

section
variable {prog:Program} {w:World} {A:Around} {base:Heap} {mg mb:Str→Option Value} {cf:CF}

noncomputable def SS(prog:Program)(w:World)(A:Around)(base:Heap)(cf:CF)(ms:MS):Prop:=
 ∀ (s:Shared) (env:Env) (st:Stmt) (H₀:Addr→Prop) (ent:Heap) (own:Own) (m:Str→Option Value) (σ:St) (r:Fl×St) (E:Value→Shared→Prop),kY env.kindOf st ms=true→bi w base ent s.heap env H₀ own m σ →
  exS cf ms σ=some r→wpAny (model prog w) A (exec st env) (aU w base ent env H₀ s own r) E s
noncomputable def SSs(prog:Program)(w:World)(A:Around)(base:Heap)(cf:CF)(ms:List MS):Prop:=
 ∀ (s:Shared) (env:Env) (ss:List Stmt) (H₀:Addr→Prop) (ent:Heap) (own:Own) (m:Str→Option Value) (σ:St) (r:Fl×St) (E:Value→Shared→Prop),eI env.kindOf ss ms=true→bi w base ent s.heap env H₀ own m σ →
  a8 cf ms σ=some r→wpAny (model prog w) A (execs ss env) (aU w base ent env H₀ s own r) E s

section
variable {ent:Heap} {env:Env} {H₀:Addr→Prop} {s:Shared} {own own₁:Own} {m:Str→Option Value} {σ:St} {r:Fl×St} {f:Flow} {s':Shared} {h₁ h₂:Heap} {tk:Nat} {dw:Drawn}
theorem aU.nx(t:Tr s.heap env own h₁ own₁)(S:bi w base ent h₁ env H₀ own₁ m σ):aU w base ent env H₀ s own (.next,σ) .next { s with heap:=h₁,toks:=tk,drawn:=dw }:=fun _ hn _=>hn h₁ tk dw own₁ m rfl t S
theorem aU.rt{fr:Bool}{d:D}{v:Value}(t:Tr s.heap env own h₁ sE)(R:tK w ent h₁ H₀ v fr d):aU w base ent env H₀ s own (.ret fr d,σ) (.ret v) { s with heap:=h₁,toks:=tk,drawn:=dw }:=fun _ _ hr=>hr h₁ tk dw fr d v rfl t R
theorem aU.trans(t:Tr s.heap env own h₁ own₁)(q:aU w base ent env H₀ { s with heap:=h₁,toks:=tk,drawn:=dw } own₁ r f s'):aU w base ent env H₀ s own r f s':=
 fun Q hn hr=>q Q (fun h tk dw own' m e u S=>hn h tk dw own' m e (t.trans u) S) fun h tk dw fr d v e u R=>hr h tk dw fr d v e (t.trans u) R
noncomputable def dm(own:Own)(d:D)(ns:List String):Own:=if d.scalar then own else own.less ns
theorem fU{d:D}{ns:List String}{x:String}{a:Addr}(e:dm own d ns x=some a):own x=some a:=by
 unfold dm at e;split at e
 ·exact e
 ·exact dM e
theorem bi.settle(S:bi w base ent h₁ env H₀ own m σ)(d:D)(ns:List String):bi w base ent h₁ env H₀ (dm own d ns) m (Mine.settle d ns σ):=by
 unfold Mine.settle dm
 cases d.scalar with
 | true=>exact S
 | false=>exact S.freeze ns
theorem rep_settle{H:Addr→Prop}{X:Addr→Prop}{ns:List String}{v:Value}{d:D}(rv:Rep w.params h₁ (fun b=>Hot env H₀ (own.less ns) b∨X b) v d):Rep w.params h₁ (fun b=>Hot env H₀ (dm own d ns) b∨X b) v d:=by
 unfold dm
 cases hd:d.scalar with
 | true=>exact rv.scalar hd
 | false=>exact rv
theorem ip{ns:List String}{v:Value}{d:D}(rv:Rep w.params h₁ (Hot env H₀ (own.less ns)) v d):Rep w.params h₁ (Hot env H₀ (dm own d ns)) v d:=by
 unfold dm
 cases hd:d.scalar with
 | true=>exact rv.scalar hd
 | false=>exact rv
noncomputable def refOf(v:Value):Option Addr:=match v with | .ref c=>some c | _=>none
noncomputable def pc(fr:Bool)(v:Value):Option Addr:=if fr then refOf v else none
theorem jr{x:String}{ns:List String}{d:D}{fr:Bool}{v:Value}{a:Addr}{X:Addr→Prop}
  (S:bi w base ent s.heap env H₀ own m σ) (hk:KH s.heap h₁) (rv:Rep w.params h₁ (fun b=>Hot env H₀ (own.less ns) b∨X b) v d)
  (hfr:fr=true→Fr w.params s.heap h₁ (fun b=>Hot env H₀ (own.less ns) b∨X b) d v)
  (R₂:bp h₂ env (upd m (Str.ofString x) v)) (ha:frm env a) (hX:∀ b,X b→gat s.heap b=none) (hs:∀ b,b≠a→¬ X b→∀ {o},gat h₁ b=some o→gat h₂ b=some o) :
  bi w base ent h₂ env H₀ ((dm own d ns).set x (pc fr v)) (upd m (Str.ofString x) v) (aC (Mine.settle d ns σ) x (fr,d))∧Tr s.heap env own h₂ ((dm own d ns).set x (pc fr v)):=by
 have nX:∀ b o,gat s.heap b=some o→¬ X b:=fun b o e q=>bR e (hX b q)
 have S':=S.settle d ns
 have ah:Hot env H₀ (dm own d ns) a:=.inr (.inl ha)
 have k2:∀ b o,gat s.heap b=some o→b≠a→gat h₂ b=some o:=fun b o e q=>hs b q (nX b o e) (hk b o e)
 have kx:∀ b o,gat s.heap b=some o→∃ o',gat h₂ b=some o':=fun b o e=>(Classical.em (b=a)).elim (fun q=>q▸ez R₂ ha) fun q=>⟨o,k2 b o e q⟩
 have hF:∀ c,pc fr v=some c→fr=true∧v=.ref c:=fun c hc=>by
  cases fr with
  | false=>cases hc
  | true=>
   refine⟨rfl,Fr.rec (motive:=fun v _=>refOf v=some c→v=.ref c) (fun _ _ e=>congrArg Value.ref (Option.some.inj e)) (hfr rfl) hc⟩
 have hN:∀ c,v=.ref c→fr=true→gat s.heap c=none∧¬ H₀ c∧¬ X c∧cN w.params h₁ (fun b=>Hot env H₀ (own.less ns) b∨X b) c d:=fun c e hf=>by
  subst e
  cases hfr hf with
  | mk g o=>
   have z:=o.off rv
   exact⟨g,fun q=>z (.inl (.inl q)),fun q=>z (.inr q),o⟩
 have hnw:∀ c,pc fr v=some c→gat s.heap c=none∧¬ H₀ c∧∃ o,gat h₂ c=some o:=fun c hc=>
  have q:=hN c (hF c hc).2 (hF c hc).1
  ⟨q.1,q.2.1,q.2.2.2.ex.elim fun o e=>⟨o,hs c (fun z=>(ez S.rep ha).elim fun o' e'=>bR e' (z▸q.1)) q.2.2.1 e⟩⟩
 have hot':∀ b,Hot env H₀ ((dm own d ns).set x (pc fr v)) b→Hot env H₀ (dm own d ns) b∨pc fr v=some b:=fun b q=>q.elim (fun q=>.inl (.inl q)) fun q=>q.elim (fun q=>.inl (.inr (.inl q))) fun q=>q.elim fun y q=>dL q (fun _ q=>.inr q) fun _ q=>.inl (.inr (.inr ⟨y,q⟩))
 refine⟨S'.set R₂ (fun b o hn e=>k2 b o e fun q=>hn (q▸ah)) (fun y c o hy e=>k2 c o e fun q=>(S'.own1 y c hy).2.2 (q▸ha)) kx (fun b o e=>k2 b o (S.keep b o e) fun q=>bR e (q▸S.frE a ha)) hnw (fun hf=>?_) fun hf=>?_,fun b o e hf _=>k2 b o e fun q=>hf (q▸ha),kx,fun y c hc=>dL hc (fun _ q=>.inr (hnw c q).1) fun _ q=>.inl (fU q)⟩
 ·subst hf
  exact (rep_settle (H:=H₀) rv).mono (fun b o hn e=>hs b (fun q=>hn (.inl (q▸ah))) (fun q=>hn (.inr q)) e) fun b o _ q=>.inl ((hot' b q).elim id fun q=>nomatch q)
 ·subst hf
  have hv:∃ c,v=.ref c:=Fr.rec (motive:=fun v _=>∃ c,v=.ref c) (fun _ _=>⟨_,rfl⟩) (hfr rfl)
  refine hv.elim fun c e=>⟨c,by rw[e];rfl,e,?_⟩
  have q:=hN c e rfl
  have hsc:dm own d ns=own.less ns:=by unfold dm;rw[q.2.2.2.scalar];rfl
  have ca:c≠a:=fun z=>(ez S.rep ha).elim fun o' e'=>bR e' (z▸q.1)
  rw[hsc] at ah hot' ⊢
  exact q.2.2.2.mono (fun o e=>hs c ca q.2.2.1 e) (fun b o hn e=>hs b (fun q=>hn (.inl (q▸ah))) (fun q=>hn (.inr q)) e) fun b o _ z=>(hot' b z).elim (fun z=>.inl (.inl z)) fun z=>.inr (Value.ref.inj ((hF b z).2.symm.trans e))
end
theorem gK{k:KD}{x:Str}(hx:bP k x=true):k x=some .local∨k x=some .cell:=by
 unfold bP at hx
 simp only[Bool.and_eq_true,Bool.or_eq_true,beq_iff_eq] at hx
 exact hx.1

structure Cx(prog:Program)(w:World)(A:Around)(base:Heap)(mg mb:Str→Option Value)(cf:CF):Prop where
 G:GOk mg mb base
 C:dU prog w base mg cf A
 hh:A.handled=none
 hu:nD A
section
variable {s:Shared} {env:Env} {H₀:Addr→Prop} {ent:Heap} {own:Own} {m:Str→Option Value} {σ:St} {e:ME} {d:D} {fr:Bool} {v:Expr} {E:Value→Shared→Prop} {Q:Value→Shared→Prop}
theorem lj(Z:Cx prog w A base mg mb cf)(S:bi w base ent s.heap env H₀ own m σ)(hc:aG env.kindOf v e=true)(hd:evE cf (vis σ) e=some d)
  (k:∀ u h tk dw,KH s.heap h→Rep w.params h (Hot env H₀ (own.less e.names)) u d→Q u { s with heap:=h,toks:=tk,drawn:=dw }):wpAny (model prog w) A (eval v env) Q E s:=by
 exact oN ((oH Z.G Z.C Z.hh Z.hu e).e s env v _ (vis σ) m d E hc (S.cc rfl e.names) hd) k
theorem uk(Z:Cx prog w A base mg mb cf)(S:bi w base ent s.heap env H₀ own m σ)(hc:aG env.kindOf v e=true)(hd:evF cf (vis σ) e=some (d,fr))
  (k:∀ u h tk dw,KH s.heap h→Rep w.params h (Hot env H₀ (own.less e.names)) u d→(fr=true→Fr w.params s.heap h (Hot env H₀ (own.less e.names)) d u)→Q u { s with heap:=h,toks:=tk,drawn:=dw }) :
  wpAny (model prog w) A (eval v env) Q E s:=by
 exact bj ((oH Z.G Z.C Z.hh Z.hu e).f s env v _ (vis σ) m d fr E hc (S.cc rfl e.names) hd) fun u s₁ q=>q.rec fun kp rv hf=>bz.rec (motive:=fun s' _=>Rep w.params s'.heap (Hot env H₀ (own.less e.names)) u d→(fr=true→Fr w.params s.heap s'.heap (Hot env H₀ (own.less e.names)) d u)→Q u s') (fun h tk dw hk rv hf=>k u h tk dw hk rv hf) kp rv hf
theorem n7(Z:Cx prog w A base mg mb cf)(S:bi w base ent s.heap env H₀ own m σ)(hc:aG env.kindOf v e=true)(hd:evE cf (vis σ) e=some d){b:Bool}(ht:bE d=some b){Q:Bool→Shared→Prop}
  (k:∀ h tk dw,KH s.heap h→Q b { s with heap:=h,toks:=tk,drawn:=dw }):wpAny (model prog w) A (isTrue v env (eval v env)) Q E s:=by
 exact bj ((oH Z.G Z.C Z.hh Z.hu e).t s env v _ (vis σ) m d b E hc (S.cc rfl e.names) hd ht) fun u s₁ q=>bz.rec (motive:=fun s' _=>Q u s') (fun h tk dw hk=>q.e▸k h tk dw hk) q.k
end
theorem isComp_inv{e:ME}{C:ME→Prop}(h:e.isComp=true)(k:∀ elt x src cs,C (.comp elt x src cs)):C e:=ME.comp.elim (motive_1:=C) e (of_decide_eq_true h) k
theorem xi_assign{x:String}{e:ME}{σ:St}{r:Fl×St}{C:Prop}(h:exS cf (.assign x e) σ=some r)(k:∀ d fr,evF cf (vis σ) e=some (d,fr)→(.next,aC (Mine.settle d e.names σ) x (fr,d))=r→C):C:=by
 rw[nN] at h
 cases he:evF cf (vis σ) e with
 | none=>rw[he] at h;exact am h
 | some p=>rw[he] at h;exact k p.1 p.2 he (Option.some.inj h)
theorem assign_comp(Z:Cx prog w A base mg mb cf){s:Shared}{env:Env}{H₀:Addr→Prop}{ent:Heap}{own:Own}{m:Str→Option Value}{σ:St}{x z:String}{elt src:ME}{cs:List ME}{d:D}{fr:Bool}{v:Expr}{p pos:Pos}{E:Value→Shared→Prop}
  (hst:bP env.kindOf (Str.ofString x)=true) (S:bi w base ent s.heap env H₀ own m σ) (hd:evF cf (vis σ) (.comp elt z src cs)=some (d,fr)) (hi:tN env.kindOf elt z src cs v)
  (plain:swapsWith v (some (.Name (Str.ofString x) p)) pos.line env=pure false→wpAny (model prog w) A (exec (.Assign [.Name (Str.ofString x) p] v pos) env) (aU w base ent env H₀ s own (.next,aC (Mine.settle d (ME.comp elt z src cs).names σ) x (fr,d))) E s) :
  wpAny (model prog w) A (exec (.Assign [.Name (Str.ofString x) p] v pos) env) (aU w base ent env H₀ s own (.next,aC (Mine.settle d (ME.comp elt z src cs).names σ) x (fr,d))) E s:=by
 obtain @⟨t,py,it,ifs,scope,lp,c1,c2,c3,c4,c5⟩:=hi
 have hsw:∃ b,swapsWith (.ListComp t [⟨.Name (Str.ofString z) py,it,ifs,0⟩] scope lp) (some (.Name (Str.ofString x) p)) pos.line env=pure b:=⟨_,rfl⟩
 obtain⟨b,hsw⟩:=hsw
 cases b with
 | false=>exact plain hsw
 | true=>
  clear plain
  refine eL hd rfl fun hd hf=>?_
  rw[exec_Assign_Name_used _ _ _ _ hsw]
  refine wpAny_bind (wpAny_standAt (wpAny_bind ?_))
  show wpAny _ A (do let _ ← comprehension (.ListComp t [⟨.Name (Str.ofString z) py,it,ifs,0⟩] scope lp) scope env _ (newList []) false (eval it env) (some (assign (.Name (Str.ofString x) p) env))) _ _ s
  have c:=S.cc (s:=s) rfl (ME.comp elt z src cs).names
  refine wpAny_bind (bj (rg (use:=some (assign (.Name (Str.ofString x) p) env)) (Q:=fun _ s'=>aU w base ent env H₀ s own (.next,aC (Mine.settle d (ME.comp elt z src cs).names σ) x (fr,d)) .next s') Z.hh (oH Z.G Z.C Z.hh Z.hu elt).e (oH Z.G Z.C Z.hh Z.hu src).e (all_Cs Z.G Z.C Z.hh Z.hu cs) c1 c2 c3 c4 c5 c hd ?_)
   fun _ s' hq=>wpAny_pure (wpAny_pure hq))
  intro L Cc h' tk dw m' out hdl hL hC hLC hns hown hk
  subst hdl hf
  show wpAny _ A (assign (.Name (Str.ofString x) p) env (.ref L)) _ _ _
  refine wpAny_assign_Name (iV (s:={ s with heap:=h',toks:=tk,drawn:=dw }) (S.rep.keeps hk) (gK hst) fun h₂ tk₂ dw₂ a R₂ ha hs=>?_)
  have ha':frm env a:=ha.imp id fun e=>⟨_,e⟩
  have nfC:¬ frm env Cc:=fun q=>(ez S.rep q).elim fun o e=>bR e hC
  have hn2:=hns.sameBut hs.s fun q=>nfC (q▸ha')
  refine⟨m',hn2,fun h₃ hs₃=>?_⟩
  have nt:=eO hn2
  have hLn:gat s.heap L=none:=by
   cases e:gat s.heap L with
   | none=>rfl
   | some o=>exact absurd (hL _ _ e) (Nat.lt_irrefl _)
  have hLo:¬ Hot env H₀ (own.less (ME.comp elt z src cs).names) L:=fun q=>(c.x L q).elim fun b q=>q.elim fun o q=>Nat.lt_irrefl _ (Nat.lt_of_le_of_lt q.1 (hL b o q.2))
  have q:=jr (fr:=true) (X:=fun b=>b=Cc) (h₁:=h') S hk (hown.rep fun q=>q.elim hLo hLC) (fun _=>⟨hLn,hown⟩) (R₂.keepsAt fun b o hb e=>g1 hs₃ nt b (fun q=>nfC (q▸hb)) e) ha' (fun b q=>q▸hC) fun b hb1 hb2 _ e=>g1 hs₃ nt b hb2 ((hs.g b hb1).trans e)
  exact aU.nx q.2 q.1
theorem kr(Z:Cx prog w A base mg mb cf){s:Shared}{env:Env}{H₀:Addr→Prop}{ent:Heap}{own:Own}{m:Str→Option Value}{σ:St}{x:String}{e:ME}{d:D}{fr:Bool}{v:Expr}{p pos:Pos}{E:Value→Shared→Prop}{Q:Flow→Shared→Prop}
  (hst:bP env.kindOf (Str.ofString x)=true) (hc:aG env.kindOf v e=true) (S:bi w base ent s.heap env H₀ own m σ) (hd:evF cf (vis σ) e=some (d,fr)) (hsw:swapsWith v (some (.Name (Str.ofString x) p)) pos.line env=pure false)
  (k:∀ u h tk dw,bi w base ent h env H₀ ((dm own d e.names).set x (pc fr u)) (upd m (Str.ofString x) u) (aC (Mine.settle d e.names σ) x (fr,d))→Tr s.heap env own h ((dm own d e.names).set x (pc fr u))→Q .next { s with heap:=h,toks:=tk,drawn:=dw }):wpAny (model prog w) A (exec (.Assign [.Name (Str.ofString x) p] v pos) env) Q E s:=
 wpAny_Assign_Name (uk Z S hc hd fun u h₁ tk₁ dw₁ hk rv hfr=>iV (s:={ s with heap:=h₁,toks:=tk₁,drawn:=dw₁ }) (S.rep.keeps hk) (gK hst) fun h₂ tk₂ dw₂ a R₂ ha hs=>
  have q:=jr (X:=fun _=>False) S hk (rv.sub fun _ q=>q.elim id False.elim) (fun hf=>(hfr hf).sub fun _ q=>q.elim id False.elim) R₂ (ha.imp id fun e=>⟨_,e⟩) (fun _ q=>q.elim) fun b hb _ _ e=>(hs.g b hb).trans e
  k u h₂ tk₂ dw₂ q.1 q.2) hsw
theorem ss_assign(Z:Cx prog w A base mg mb cf)(x:String)(e:ME):SS prog w A base cf (.assign x e):=fun s env st H₀ ent own m σ r E hc S hev=>
 xi_assign hev fun d fr hd q=>q▸lZ.rec (motive:=fun st _=>wpAny (model prog w) A (exec st env) (aU w base ent env H₀ s own (.next,aC (Mine.settle d e.names σ) x (fr,d))) E s) (fun {p v pos} hst hc=>by
  have plain:swapsWith v (some (.Name (Str.ofString x) p)) pos.line env=pure false→wpAny (model prog w) A (exec (.Assign [.Name (Str.ofString x) p] v pos) env) (aU w base ent env H₀ s own (.next,aC (Mine.settle d e.names σ) x (fr,d))) E s:=fun hsw=>
   kr Z hst hc S hd hsw fun u h tk dw q1 q2=>aU.nx q2 q1
  cases hcm:e.isComp with
  | false=>exact plain ((qC hc).swap hcm _ _ _)
  | true=>exact isComp_inv (C:=fun e=>aG env.kindOf v e=true→evF cf (vis σ) e=some (d,fr)→(_→wpAny (model prog w) A (exec (.Assign [.Name (Str.ofString x) p] v pos) env) (aU w base ent env H₀ s own (.next,aC (Mine.settle d e.names σ) x (fr,d))) E s)→wpAny (model prog w) A (exec (.Assign [.Name (Str.ofString x) p] v pos) env) (aU w base ent env H₀ s own (.next,aC (Mine.settle d e.names σ) x (fr,d))) E s) hcm (fun elt z src cs hc hd plain=>assign_comp Z hst S hd (mO hc) plain) hc hd plain) (mP hc)
end
end Mine
namespace Mine
open PySem PySem.SeqAt
set_option maxRecDepth 100000

theorem oa:Manifest.owners.lookup (String.ofList ['d','e','s','r','e','v','e','r'].reverse)=some Manifest.sig_reversed:=by kernel_rfl
theorem db:Slot "reversed" "__next__" "reversed.__next__":=
 .of (owner:="reversed") (n:="__next__") (by rw[typeLookup_type,builtinLookup_eq_fast];kernel_rfl) (by decide +kernel) (by decide +kernel) (by decide +kernel)
  (by first | exact .inl (by decide +kernel) | exact .inr (by decide +kernel)) (by rw[isSubtype_type];kernel_rfl)
theorem iK:entryFor table "reversed.__next__"=some Builtin.«reversed.__next__»:=entryFor_of_tree (by kernel_rfl)
theorem jo(a:Value):argsOk "reversed.__next__" ⟨[a],[]⟩:=by
 unfold argsOk;rw[signature?_of (id:="reversed.__next__") (n:=['_','_','t','x','e','n','_','_']) (o:=['d','e','s','r','e','v','e','r']) (by kernel_rfl) oa];kernel_rfl
theorem jh:Slot "reversed" "__iter__" "reversed.__iter__":=
 .of (owner:="reversed") (n:="__iter__") (by rw[typeLookup_type,builtinLookup_eq_fast];kernel_rfl) (by decide +kernel) (by decide +kernel) (by decide +kernel)
  (by first | exact .inl (by decide +kernel) | exact .inr (by decide +kernel)) (by rw[isSubtype_type];kernel_rfl)
theorem args_rev_iter(a:Value):argsOk "reversed.__iter__" ⟨[a],[]⟩:=by
 unfold argsOk;rw[signature?_of (id:="reversed.__iter__") (n:=['_','_','r','e','t','i','_','_']) (o:=['d','e','s','r','e','v','e','r']) (by kernel_rfl) oa];kernel_rfl
theorem entry_rev_iter:entryFor table "reversed.__iter__"=some Builtin.«dict_keyiterator.__iter__»:=
 entryFor_alias (id':="dict_keyiterator.__iter__") (by kernel_rfl) (by first | rfl | decide +kernel | (unfold String.splitOn;simp +decide [String.splitOnAux])) (by decide +kernel) (by kernel_rfl)
theorem lookup_tuple_reversed:typeLookup (.type "tuple") "__reversed__"=pure none:=by rw[typeLookup_type,builtinLookup_eq_fast];kernel_rfl

noncomputable abbrev rvO(l:Addr)(i:Int):Obj:={ cls:=.type "reversed",data:=.fields #[.ref l,rawInt i] }
theorem ji:Slot "reversed" "__init__" "object.__init__":=
 .of (owner:="object") (n:="__init__") (by rw[typeLookup_type,builtinLookup_eq_fast];kernel_rfl) (by decide +kernel) (by decide +kernel) (by decide +kernel)
  (by first | exact .inl (by decide +kernel) | exact .inr (by decide +kernel)) (by rw[isSubtype_type];kernel_rfl)
theorem called_rev:TypeCalled "reversed" "reversed.__new__" "object.__init__":=
 ⟨by decide +kernel,F.create_reversed,⟨_,_,F.mro_reversed⟩,F.made_reversed,F.plain_reversed_new,F.sub_reversed_self,ji⟩

section
variable {prog:Program} {w:World} {A:Around} {E:Value→Shared→Prop} {s:Shared}
theorem code_rev_tuple{l:Addr}{items:Array Value}{Q₁:Value→Shared→Prop}(hl:PyProof.Rows.IsTup s.heap l items)(hz:(items.size:Int)<2 ^ 63)
  (h:∀ tk,Q₁ (.ref s.heap.objs.size) { s with heap:=s.heap.push (rvO l ((items.size:Int) - 1)),toks:=tk }) :
  codeAny (model prog w) A (.call (.builtin "reversed.__new__") ⟨[.type "reversed",.ref l],[]⟩) (wants Q₁ E) s:=by
 have hT:s.TypeIs (.ref l) "tuple":=let ⟨o,ho,hc,_⟩:=hl;⟨o,ho,hc⟩
 refine codeAny_of_tree ?_
 show wpAny _ A.in1 (do checkBuiltinCall "reversed.__new__" ⟨[.type "reversed",.ref l],[]⟩;again (.builtin "reversed.__new__" ⟨[.type "reversed",.ref l],[]⟩)) _ _ s
 refine wpAny_bind (wpAny_of_eq (F.newCall_reversed_1 _) (wpAny_pure ⟨plainId_quiet F.plain_reversed_new _,codeAny_builtin F.entry_reversed_new ?_⟩))
 rw[Around.under_plainId F.plain_reversed_new _]
 unfold Builtin.«reversed.__new__»
 refine wpAny_bind (wpAny_of_eq (newClass_reversed _) ?_)
 try dsimp only
 refine wpAny_bind (wpAny_of_eq (a:=()) (by first | rfl | kernel_rfl) ?_)
 refine wpAny_bind (wpAny_of_eq (a:=()) (by first | rfl | kernel_rfl) ?_)
 try dsimp only
 refine wpAny_bind (wpAny_specialOf hT lookup_tuple_reversed ?_)
 try dsimp only
 refine wpAny_bind (wpAny_bind (wpAny_isInstance (T:="tuple") (b:=false) hT (by rw[isSubtype_type];kernel_rfl) ?_))
 rw[if_neg Bool.false_ne_true]
 refine wpAny_bind (wpAny_specialOf hT F.slot_tuple_getitem.lookup ?_)
 dsimp only
 rw[if_pos (by decide)]
 refine wpAny_pure ?_
 rw[if_neg (by decide)]
 refine wpAny_bind (PyProof.Rows.len_tuple hl hz ?_)
 refine wpAny_bind (wpAny_of_eq (a:=some (items.size:Int)) rfl ?_)
 dsimp only
 refine wpAny_bind ?_
 refine wpAny_newObj_type (data:=.fields #[.ref l,rawInt ((items.size:Int) - 1)]) (wpAny_pure (h _)) (by size_fits)
theorem call_rev_tuple{l:Addr}{items:Array Value}{Q:Value→Shared→Prop}(hl:PyProof.Rows.IsTup s.heap l items)(hz:(items.size:Int)<2 ^ 63)
  (h:∀ tk,Q (.ref s.heap.objs.size) { s with heap:=s.heap.push (rvO l ((items.size:Int) - 1)),toks:=tk }):wpAny (model prog w) A (call (.type "reversed") [.ref l]) Q E s:=by
 refine callType_codes (Q₁:=fun obj s₁=>∃ tk,obj=.ref s.heap.objs.size∧s₁={ s with heap:=s.heap.push (rvO l ((items.size:Int) - 1)),toks:=tk }) called_rev (F.typeCall_reversed_1 _) F.entry_object_init (code_rev_tuple hl hz fun tk=>⟨tk,rfl,rfl⟩) ?_
 rintro obj s₁ ⟨tk,rfl,rfl⟩
 have hT:Shared.TypeIs { s with heap:=s.heap.push (rvO l ((items.size:Int) - 1)),toks:=tk } (.ref s.heap.objs.size) "reversed":=⟨_,Heap.get?_push_size _ rfl,rfl⟩
 refine⟨hT,F.args_object_init_2 _ _,?_⟩
 exact object_init_meets ji.lookup F.made_reversed (by decide) prog w A.in1 _ _ ⟨hT,rfl,h tk⟩
end
end Mine
namespace Mine
open PySem PySem.SeqAt

section
variable {prog:Program} {w:World} {A:Around} {E:Value→Shared→Prop} {s:Shared}
noncomputable def lL(h:Heap)(a l:Addr)(i:Int):Prop:=∃ o,h.get? a=some o∧o.cls=.type "reversed"∧o.data=.fields #[.ref l,rawInt i]
theorem lL.typeIs{a l:Addr}{i:Int}(x:lL s.heap a l i):s.TypeIs (.ref a) "reversed":=let ⟨o,ho,hc,_⟩:=x;⟨o,ho,hc⟩

theorem next_rv_item{it l:Addr}{i:Nat}{items:Array Value}{x:Value}{Q:Option Value→Shared→Prop}(hit:lL s.heap it l (i:Int))(hl:PyProof.Rows.IsTup s.heap l items)(hz:(items.size:Int)<2 ^ 63)(hx:items[i]?=some x)
  (hQ:∀ h' tk,lL h' it l ((i:Int) - 1)→Heap.SameBut it s.heap h'→Q (some x) { s with heap:=h',toks:=tk }):wpAny (model prog w) A (pyNext (.ref it)) Q E s:=by
 obtain⟨o,ho,hc,hd⟩:=id hit
 have hi:i<items.size:=(Array.getElem?_eq_some_iff.mp hx).1
 have hT:s.TypeIs (.ref l) "tuple":=let ⟨o,ho,hc,_⟩:=hl;⟨o,ho,hc⟩
 unfold pyNext
 refine wpAny_bind (wpAny_attempt (wpAny_callSpecial?_slot (name:=Str.ofString "__next__") hit.typeIs db
  (wpAny_call_entry db hit.typeIs iK ?_ (jo _))))
 unfold Builtin.«reversed.__next__»
 refine wpAny_bind (wpAny_of_eq (a:=(Value.ref it,[])) rfl ?_)
 try dsimp only
 refine wpAny_bind (wpAny_field ho hd (x:=.ref l) rfl ?_)
 refine wpAny_bind (wpAny_field ho hd (x:=rawInt (i:Int)) rfl ?_)
 show wpAny _ _ (if (i:Int)<0 then _ else _) _ _ s
 rw[if_neg (by omega)]
 refine wpAny_bind (wpAny_specialOf hT F.slot_tuple_getitem.lookup ?_)
 rw[if_neg (by simp)]
 refine wpAny_bind (wpAny_mkInt ?_)
 refine wpAny_bind (wpAny_attempt (PyProof.Rows.getItem_tuple (j:=i) hl (by omega) (by omega) ?_ hx ?_))
 ·have h1:idx (i:Int) items.size=some i:=by unfold idx;rw[if_pos (by omega)];rfl
  exact (px h1).1
 ·refine wpAny_bind (wpAny_field ho hd (x:=rawInt (i:Int)) rfl ?_)
  show wpAny _ _ (setField (.ref it) 1 (rawInt ((i:Int) - 1)) >>= _) _ _ _
  refine wpAny_bind (wpAny_setField ho hd (by simp) ?_)
  refine wpAny_pure ⟨x,rfl,wpAny_pure (hQ _ _ ?_ (Heap.SameBut.update ..))⟩
  exact⟨_,Heap.get?_update_self _ ho (Obj.isFreed_of_fields (Obj.data_mapFields hd _)),(Obj.cls_mapFields ..).trans hc,by
   rw[Obj.data_mapFields hd];simp⟩
theorem next_rv_end{it l:Addr}{Q:Option Value→Shared→Prop}(hh:A.handled=none)(hit:lL s.heap it l (-1))
  (hQ:∀ h',Heap.ExtBut it s.heap h'→Q none { s with heap:=h' }):wpAny (model prog w) A (pyNext (.ref it)) Q E s:=by
 obtain⟨o,ho,hc,hd⟩:=id hit
 unfold pyNext
 refine wpAny_bind (wpAny_attempt (wpAny_callSpecial?_slot (name:=Str.ofString "__next__") hit.typeIs db
  (wpAny_call_entry db hit.typeIs iK ?_ (jo _))))
 unfold Builtin.«reversed.__next__»
 refine wpAny_bind (wpAny_of_eq (a:=(Value.ref it,[])) rfl ?_)
 try dsimp only
 refine wpAny_bind (wpAny_field ho hd (x:=.ref l) rfl ?_)
 refine wpAny_bind (wpAny_field ho hd (x:=rawInt (-1)) rfl ?_)
 show wpAny _ _ (if (-1:Int)<0 then _ else _) _ _ s
 rw[if_pos (by decide)]
 refine wpAny_bind (wpAny_rule ?_)
 refine wpAny_bind (wpAny_bind (wpAny_setField ho hd (by simp) ?_))
 have ho2:=Heap.get?_update_self (Obj.mapFields (fun vs=>vs.setIfInBounds 1 (rawInt (-1)))) ho (Obj.isFreed_of_fields (Obj.data_mapFields hd _))
 refine wpAny_setField ho2 (Obj.data_mapFields hd _) (by simp) ?_
 first
 | show wpAny _ _ (newExc (.type "StopIteration") [] >>= _) _ _ _
 | (refine wpAny_bind ?_;show wpAny _ _ (newExc (.type "StopIteration") [] >>= _) _ _ _)
 refine wpAny_bind ?_
 simp only[newExc,newTuple]
 refine wpAny_bind (wpAny_newObj_type ?_ (by size_fits))
 refine wpAny_bind (m:=firstArgMember _ _) (wpAny_of_eq (a:=Value.none) (by first | rfl | (simp only[firstArgMember];rfl)) ?_)
 refine wpAny_newObj_type ?_ (by size_fits)
 simp only[raiseNew]
 refine wpAny_bind (wpAny_handled ?_)
 rw[show A.in1.handled=none from hh]
 refine wpAny_bind (wpAny_pure (wpAny_throw ?_))
 refine wpAny_bind (wpAny_isInstance (T:="StopIteration") (b:=true) ⟨_,Heap.get?_push_size _ rfl,rfl⟩ isSubtype_stop ?_)
 exact wpAny_pure (hQ _ (((((Heap.SameBut.update ..).trans (Heap.SameBut.update ..)).extBut).push _).push _))
end
end Mine
namespace Mine
open PySem PySem.SeqAt

section
variable {prog:Program} {w:World} {A:Around} {E:Value→Shared→Prop} {s:Shared}
theorem sP{it l:Addr}{i:Int}{Q:Value→Shared→Prop}(hit:lL s.heap it l i)(h:Q (.ref it) s):wpAny (model prog w) A (pyIter (.ref it)) Q E s:=by
 refine wpAny_pyIter_slot hit.typeIs jh (wpAny_call_entry jh hit.typeIs entry_rev_iter ?_ (args_rev_iter _))
 show wpAny _ _ (ret (.ref it)) _ _ s
 exact wpAny_pure ⟨_,rfl,"reversed",_,hit.typeIs,db.lookup,h⟩
theorem lL.at{h h':Heap}{a l:Addr}{i:Int}(x:lL h a l i)(e:∀ o,h.get? a=some o→h'.get? a=some o):lL h' a l i:=let ⟨o,ho,r⟩:=x;⟨o,e _ ho,r⟩
theorem mN{h h':Heap}{a:Addr}{vs:Array Value}(x:PyProof.Rows.IsTup h a vs)(e:∀ o,h.get? a=some o→h'.get? a=some o):PyProof.Rows.IsTup h' a vs:=let ⟨o,ho,r⟩:=x;⟨o,e _ ho,r⟩

theorem walks_rv(hh:A.handled=none)(I l:Addr)(hne:l≠I)(items:Array Value)(hz:(items.size:Int)<2 ^ 63) :
  Walks prog w A I [I,l] [I] items.size (fun i v=>items[items.size - 1 - i]?=some v) (fun i h=>i≤items.size∧lL h I l ((items.size:Int) - 1 - (i:Int))∧PyProof.Rows.IsTup h l items) where
 sub:=fun b hb=>by simp at hb;simp[hb]
 frame:=fun _ _ _ x hk=>⟨x.1,x.2.1.at fun o e=>hk I (by simp) o e,mN x.2.2 fun o e=>hk l (by simp) o e⟩
 item:=fun i s Q E hi x hQ=>by
  have e:(items.size:Int) - 1 - (i:Int)=((items.size - 1 - i:Nat):Int):=by omega
  have hit:=x.2.1
  rw[e] at hit
  have hx:items[items.size - 1 - i]?=some (items[items.size - 1 - i]'(by omega)):=Array.getElem?_eq_getElem (by omega)
  refine next_rv_item hit x.2.2 hz hx fun h' tk hit' hs'=>?_
  have e2:((items.size - 1 - i:Nat):Int) - 1=(items.size:Int) - 1 - ((i+1:Nat):Int):=by omega
  rw[e2] at hit'
  exact hQ _ h' tk hx ⟨hi,hit',mN x.2.2 fun o eo=>(hs'.2 l hne).trans eo⟩ fun b o hb eo=>hs'.extBut b o (fun h=>hb (by simp[h])) eo
 done:=fun s Q E x hQ=>by
  have e:(items.size:Int) - 1 - (items.size:Int)=-1:=by omega
  have hit:=x.2.1
  rw[e] at hit
  exact next_rv_end hh hit fun h' he'=>hQ h' s.toks fun b o hb eo=>he' b o (fun h=>hb (by simp[h])) eo
 self:=fun _ _ _ _ x hQ=>sP x.2.1 hQ
end
end Mine
namespace Mine
open PySem PySem.SeqAt

section
variable {prog:Program} {w:World} {A:Around} {E:Value→Shared→Prop} {s:Shared} {H:Addr→Prop}
theorem item_rev{P:Params}{h:Heap}{vs:Array Value}{ds:List D}(hr:aq P h H vs.toList ds){i:Nat}{v:Value}(hi:i<ds.reverse.length)(hv:vs[ds.reverse.length - 1 - i]?=some v):∃ d,ds.reverse[i]?=some d∧Rep P h H v d:=by
 rw[List.length_reverse] at hi hv
 rw[List.getElem?_reverse hi]
 exact sQ hr (Nat.lt_of_le_of_lt (Nat.sub_le _ _) (Nat.sub_lt (Nat.lt_of_le_of_lt (Nat.zero_le _) hi) Nat.one_pos)) hv
theorem iter_rvs{x:Value}{ds:List D}(hx:Rep w.params s.heap H x (.tup ds))(hh:A.handled=none) :
  wpAny (model prog w) A (call (.type "reversed") [x]) (fun v s₂=>wpAny (model prog w) A (pyIter v) (nE prog w A s H ds.reverse) E s₂) E s:=by
 refine hx.tupE fun a vs n ho hn hl hr=>?_
 have e:vs.size=ds.reverse.length:=hr.size.trans List.length_reverse.symm
 have hz:(vs.size:Int)<2 ^ 63:=by rw[hr.size];exact ph hl
 refine call_rev_tuple (ew ho) hz fun tk=>?_
 have hI:lL (s.heap.push (rvO a ((vs.size:Int) - 1))) s.heap.objs.size a ((vs.size:Int) - 1):=⟨_,Heap.get?_push_size _ rfl,rfl,rfl⟩
 have W:Walks prog w A s.heap.objs.size [s.heap.objs.size,a] [s.heap.objs.size] ds.reverse.length (fun i v=>vs[ds.reverse.length - 1 - i]?=some v) (fun i h=>i≤ds.reverse.length∧lL h s.heap.objs.size a ((ds.reverse.length:Int) - 1 - (i:Int))∧PyProof.Rows.IsTup h a vs):=e▸walks_rv hh s.heap.objs.size a (Nat.ne_of_lt (Heap.lt_size ho)) vs hz
 refine sP (s:={ s with heap:=s.heap.push (rvO a ((vs.size:Int) - 1)),toks:=tk }) hI ⟨.mk _ _ _ fun _ _ e=>Heap.gt_push_of_some _ e,cA _,⟨_,Heap.gt_push_size _ rfl⟩,W,
  ⟨Nat.zero_le _,?_,mN (ew ho) fun o e=>Heap.get?_push_of_some _ e⟩,fun b hb=>eK hb .inl fun e=>.inr (e▸⟨hn,_,Heap.gt_of ho⟩),fun i v hi hv=>item_rev hr hi hv,fun i h st=>st.2.1.elim fun o q=>⟨o,Heap.gt_of q.1 (dE q.2.1 (by decide))⟩,
  fun b hb i h o st e=>eK hb (fun q=>st.2.1.elim fun o' z=>eS (q▸z.1) e (dE z.2.1 (by decide))) fun q=>st.2.2.elim fun o' z=>eS (q▸z.1) e (dE z.2.1 (by decide))⟩
 rw[Int.natCast_zero,Int.sub_zero,← e]
 exact hI
end
end Mine
namespace Mine
open PySem PySem.SeqAt

theorem mU:∀ (σ:St),freeze [] σ=σ
 | []=>rfl
 | (x,(o,d))::r=>by
  have:=mU r
  unfold freeze at this ⊢
  rw[List.map_cons,this]
  simp
theorem settle_nil(d:D)(σ:St):settle d [] σ=σ:=by
 unfold settle
 split
 ·rfl
 ·exact mU σ
theorem mF(own:Own):own.less []=own:=by
 funext x
 simp[Own.less]

section
variable {prog:Program} {w:World} {A:Around} {base:Heap} {mg mb:Str→Option Value} {cf:CF}
variable {ent h h':Heap} {env:Env} {H₀:Addr→Prop} {own:Own} {m:Str→Option Value} {σ:St} {I:Addr}

theorem te{b:Addr}(q:Hot env (fun b=>H₀ b∨b=I) own b):Hot env H₀ own b∨b=I:=q.elim (fun q=>q.elim (fun q=>.inl (.inl q)) .inr) fun q=>.inl (.inr q)
theorem hot_sub{b:Addr}(q:Hot env H₀ own b):Hot env (fun b=>H₀ b∨b=I) own b:=q.imp .inl id
theorem bi.addH(S:bi w base ent h env H₀ own m σ)(hk:KH h h')(hI:gat h I=none)(hIx:∃ o,gat h' I=some o) :
  bi w base ent h' env (fun b=>H₀ b∨b=I) own m σ:=
 S.to (S.rep.keeps hk) (fun b o _ e=>hk b o e) (fun _ a o _ e=>hk a o e) (fun b o e q=>(te q).elim id fun q=>bR e (q▸hI)) (fun b o e=>hk b o (S.keep b o e)) (fun b q=>q.elim (fun q=>(S.hot.ex b (.inl q)).elim fun b' z=>z.elim fun o z=>⟨b',o,z.1,hk _ _ z.2⟩) fun q=>hIx.elim fun o z=>⟨I,o,q▸Nat.le_refl _,z⟩)
  fun x a e q=>q.elim (S.own1 x a e).2.1 fun q=>(S.ownx x a e).elim fun o z=>bR z (q▸hI)
theorem uD(hk:Mv I h h'):lK h (Hot env (fun b=>H₀ b∨b=I) own) h':=fun b o hn e=>hk b o (fun q=>hn (q▸.inl (.inr rfl))) e
theorem bi.turnI(S:bi w base ent h env (fun b=>H₀ b∨b=I) own m σ)(hk:Mv I h h')(hIx:∃ o,gat h' I=some o)(hf:¬ frm env I)(hE:gat ent I=none) :
  bi w base ent h' env (fun b=>H₀ b∨b=I) own m σ:=
 S.to (S.rep.keepsAt fun b o hb e=>hk b o (fun q=>hf (q▸hb)) e) (uD hk) (fun x a o hx e=>hk a o (fun q=>(S.own1 x a hx).2.1 (.inr q)) e) (fun _ _ _ q=>q) (fun b o e=>hk b o (fun q=>bR e (q▸hE)) (S.keep b o e))
  (fun b q=>(S.hot.ex b (.inl q)).elim fun b' z=>z.elim fun o z=>(Classical.em (b'=I)).elim (fun e=>hIx.elim fun o' y=>⟨I,o',e▸z.1,y⟩) fun e=>⟨b',o,z.1,hk b' o e z.2⟩) fun x a e=>(S.own1 x a e).2.1
theorem bi.leave(S:bi w base ent h env (fun b=>H₀ b∨b=I) own m σ)(hk:Mv I h h')(hx:Ex h' H₀)(hf:¬ frm env I)(hE:gat ent I=none) :
  bi w base ent h' env H₀ own m σ:=
 S.to (S.rep.keepsAt fun b o hb e=>hk b o (fun q=>hf (q▸hb)) e) (uD hk) (fun x a o hx e=>hk a o (fun q=>(S.own1 x a hx).2.1 (.inr q)) e) (fun _ _ _ q=>hot_sub q) (fun b o e=>hk b o (fun q=>bR e (q▸hE)) (S.keep b o e)) hx fun x a e q=>(S.own1 x a e).2.1 (.inl q)

theorem xi_ret{e:ME}{r:Fl×St}{C:Prop}(h:exS cf (.ret e) σ=some r)(kv:∀ x d,e=.var x→σ.lookup x=some (true,d)→(.ret true d,σ)=r→C)(k:∀ d fr,evF cf (vis σ) e=some (d,fr)→(.ret fr d,σ)=r→C):C:=by
 rw[rF] at h
 cases hv:e.varOf with
 | none=>
  rw[hv] at h
  dsimp only at h
  cases he:evF cf (vis σ) e with
  | none=>rw[he] at h;exact am h
  | some p=>rw[he] at h;exact k p.1 p.2 he (Option.some.inj h)
 | some x=>
  rw[hv] at h
  dsimp only at h
  cases he:σ.lookup x with
  | none=>rw[he] at h;exact am h
  | some p=>
   rw[he] at h
   obtain⟨fr,d⟩:=p
   refine varOf_inv (C:=fun e=>e=.var x) hv rfl |> fun q=>?_
   cases fr with
   | true=>exact kv x d q he (Option.some.inj h)
   | false=>exact k d false (q.symm▸by show (evE cf (vis σ) (.var x)).map _=_;rw[fK,bT,he];rfl) (Option.some.inj h)
theorem ss_ret(Z:Cx prog w A base mg mb cf)(e:ME):SS prog w A base cf (.ret e):=fun s env st H₀ ent own m σ r E hc S hev=>
 IRet.rec (motive:=fun st _=>wpAny (model prog w) A (exec st env) (aU w base ent env H₀ s own r) E s) (fun {v pos} hc=>xi_ret hev (fun x d q hd er=>by
  subst er q
  refine rD.rec (motive:=fun v _=>wpAny (model prog w) A (exec (.Return (some v) pos) env) _ E s) (fun hv=>(S.owned x d hd).elim fun a q=>wpAny_Return_some (eT S.rep hv q.2.1 ?_)) (gL hc)
  have o:=q.2.2.sub (H':=H₀) fun _ q=>.inl q
  have g:=S.own1 x a q.1
  exact aU.rt (tk:=s.toks) (dw:=s.drawn) (.of (fun _ _ e=>e) fun _ _ e=>nomatch e) ⟨o.rep g.2.1,S.keep,fun _=>⟨g.1,o⟩⟩)
  fun d fr hd er=>er▸wpAny_Return_some (uk Z S hc hd fun u h₁ tk₁ dw₁ hk rv hfr=>aU.rt (.of hk fun _ _ e=>nomatch e) ⟨rv.sub fun _ q=>.inl q,fun b o e=>hk b o (S.keep b o e),fun hf=>((hfr hf).old S.keep).sub fun _ q=>.inl q⟩)) (inv_ret hc)
theorem oO{s:Heap}{own own₁:Own}{x:String}{L:Addr}{h₁ h₂:Heap}(ho:∀ x a,own₁ x=some a→own x=some a)(hk:KH s h₁)(hx:own₁ x=some L)(hs:∀ b,b≠L→∀ {o},gat h₁ b=some o→gat h₂ b=some o)(hL:∃ o,gat h₂ L=some o):Tr s env own h₂ own₁:=
 ⟨fun b o e _ hn=>hs b (fun q=>hn x (ho x b (q▸hx))) (hk b o e),fun b o e=>by
  by_cases q:b=L
  ·exact q▸hL
  ·exact⟨o,hs b q (hk b o e)⟩,fun y a e=>.inl (ho y a e)⟩
theorem qJ{k:KD}{x:Str}(h:bP k x=true):fg k x=true:=bG h fun _ h=>h
theorem xi_append{x:String}{e:ME}{r:Fl×St}{C:Prop}(h:exS cf (.append x e) σ=some r)(k:∀ d ds,evE cf (vis σ) e=some d→(Mine.settle d e.names σ).lookup x=some (true,.list ds)→ds.length<big→(.next,aC (Mine.settle d e.names σ) x (true,.list (ds++[d])))=r→C):C:=
 bk (a:=evE cf (vis σ) e) (f:=fun d=>match (Mine.settle d e.names σ).lookup x with
  | some (true,.list ds)=>if ds.length<big then some (Fl.next,aC (Mine.settle d e.names σ) x (true,.list (ds++[d]))) else Option.none
  | _=>Option.none) h fun d hd h=>by
  cases hl:(Mine.settle d e.names σ).lookup x with
  | none=>rw[hl] at h;exact am h
  | some p=>
   rw[hl] at h
   obtain⟨o,dd⟩:=p
   cases o with
   | false=>exact am h
   | true=>cases dd with
    | list ds=>exact aZ h fun hb e=>k d ds hd hl hb e
    | _=>exact am h
theorem ss_append(Z:Cx prog w A base mg mb cf)(x:String)(e:ME):SS prog w A base cf (.append x e):=fun s env st H₀ ent own m σ r E hc S hev=>
 xi_append hev fun d ds hd hds hlen er=>er▸pR.rec (motive:=fun st _=>wpAny (model prog w) A (exec st env) (aU w base ent env H₀ s own (.next,aC (Mine.settle d e.names σ) x (true,.list (ds++[d])))) E s) (fun {yp ap a p pos} hst hline hc=>by
  have S':=S.settle d e.names
  refine (S'.owned x _ hds).elim fun L q=>gU.rec (motive:=fun _=>_) (fun {vs n} q4 q5 q6=>?_) q.2.2
  have hstar:starEach [a] env=[(false,eval a env)]:=fQ hc
  refine wpAny_Expr (wpAny_Call_append rfl (by rw[hstar];rfl) (by simpa using hline) (by rw[hstar];rfl) (eT S.rep (qJ hst) q.2.1 ⟨L,vs,rfl,⟨_,n,q4,rfl,rfl,rfl⟩,?_⟩)) (by unfold interactive;rw[S.rep.kind];rfl) rfl
  refine lj Z S hc hd fun u h₁ tk₁ dw₁ hk rv=>?_
  have q4':=Heap.of_gt (hk _ _ (Heap.gt_of q4))
  refine wpAny_list_append_plain (items:=vs) ⟨n,q4'⟩ (fun h₂ hl₂ hs₂=>?_) (q6.size.symm▸q5)
  have hl₂':∃ n',h₂.get? L=some (fC (vs.push u) n'):=hl₂
  have m1:Mv L h₁ h₂:=fun b o hb e=>g1 hs₂ (bH q4') b hb e
  have LH:∀ b,(Hot env H₀ (dm own d e.names) b∨b=L)→Hot env H₀ (dm own d e.names) b:=fun b q'=>q'.elim id fun q'=>q'▸.inr (.inr ⟨x,q.1⟩)
  have own2:gU w.params h₂ (Hot env H₀ (dm own d e.names)) L (ds++[d]):=hl₂'.elim fun n' e'=>⟨e',by rw[List.length_append];exact hlen,by
   rw[Array.toList_push]
   exact ((q6.keeps hk).append (.cons ((ip rv).sub LH) .nil)).mono (fun b o hn e=>m1 b o (fun q=>hn (.inr q)) e) fun _ _ _ q=>q⟩
  exact aU.nx (oO (fun _ _ e=>fU e) hk q.1 (fun b hb _ e=>m1 b _ hb e) (cN.ex (d:=.list _) own2)) ((S'.keeps hk).turn hds q.1 hs₂ (d:=.list _) own2)) (inv_append hc)
theorem xi_setk{x:String}{ke e:ME}{r:Fl×St}{C:Prop}(h:exS cf (.setk x ke e) σ=some r)(k:∀ d dk ks vs,evE cf (vis σ) e=some d→evE cf (vis σ) ke=some dk→(Mine.settle dk ke.names (Mine.settle d e.names σ)).lookup x=some (true,.dict ks vs)→dX dk ks=true→ks.length<big →
  (.next,aC (Mine.settle dk ke.names (Mine.settle d e.names σ)) x (true,.dict (dK ks vs dk d).1 (dK ks vs dk d).2))=r→C):C:=
 bk (a:=evE cf (vis σ) e) (f:=fun d=>oE (evE cf (vis σ) ke) fun dk=>match (Mine.settle dk ke.names (Mine.settle d e.names σ)).lookup x with
  | some (true,.dict ks vs)=>if (dX dk ks&&decide (ks.length<big))=true then some (Fl.next,aC (Mine.settle dk ke.names (Mine.settle d e.names σ)) x (true,.dict (dK ks vs dk d).1 (dK ks vs dk d).2)) else Option.none
  | _=>Option.none) h fun d hd h=>bk h fun dk hdk h=>by
  cases hl:(Mine.settle dk ke.names (Mine.settle d e.names σ)).lookup x with
  | none=>rw[hl] at h;exact am h
  | some p=>
   rw[hl] at h
   obtain⟨o,dd⟩:=p
   cases o with
   | false=>exact am h
   | true=>cases dd with
    | dict ks vs=>exact aZ h fun hb e=>bG hb fun h1 h2=>k d dk ks vs hd hdk hl h1 (of_decide_eq_true h2) e
    | _=>exact am h
theorem less_less{own:Own}{d:D}{ns ms:List String}:∀ x a,(dm own d ns).less ms x=some a→own.less ms x=some a:=fun x a e=>by
 unfold Own.less at e ⊢;split at e <;> first | cases e | (rename_i hx;rw[if_neg hx];exact fU e)
theorem ss_setk(Z:Cx prog w A base mg mb cf)(x:String)(ke e:ME):SS prog w A base cf (.setk x ke e):=fun s env st H₀ ent own m σ r E hc S hev=>
 xi_setk hev fun d dk ks vs hd hdk hds hc1 hc2 er=>er▸ve.rec (motive:=fun st _=>wpAny (model prog w) A (exec st env) (aU w base ent env H₀ s own (.next,aC (Mine.settle dk ke.names (Mine.settle d e.names σ)) x (true,.dict (dK ks vs dk d).1 (dK ks vs dk d).2))) E s) (fun {yp i p v pos} hst hci hcv=>by
  have S':=(S.settle d e.names).settle dk ke.names
  refine (S'.owned x _ hds).elim fun L q=>wpAny_Assign_Subscript (lj Z S hcv hd fun u h₁ tk₁ dw₁ hk rv=>eT (s:={ s with heap:=h₁,toks:=tk₁,drawn:=dw₁ }) (S.rep.keeps hk) (qJ hst) q.2.1 ?_) (by cases v <;> rfl)
  have Sk:bi w base ent ({ s with heap:=h₁,toks:=tk₁,drawn:=dw₁ }:Shared).heap env H₀ own m σ:=S.keeps hk
  refine lj Z Sk hci hdk fun kv h₂ tk₂ dw₂ hk2 rk=>?_
  have k02:KH s.heap h₂:=fun b o e=>hk2 b o (hk b o e)
  have LHot:∀ b,Hot env H₀ (dm (dm own d e.names) dk ke.names) b∨b=L→Hot env H₀ (dm (dm own d e.names) dk ke.names) b:=fun b z=>z.elim id fun z=>z▸.inr (.inr ⟨x,q.1⟩)
  have So:lJ w.params h₂ (Hot env H₀ (dm (dm own d e.names) dk ke.names)) L ks vs:=(S'.keeps k02).ownAt hds q.1
  refine li (s:={ s with heap:=h₂,toks:=tk₂,drawn:=dw₂ }) Z.hu.u1 So ((ip (rk.sub fun _ q=>q.mono (fun _ q=>q) less_less)).sub LHot) ((ip rv).mono (fun b o _ e=>hk2 b o e) fun b o _ q=>(LHot b q).mono (fun _ q=>q) fun _ _=>fU) hc1 hc2 fun h' tk dw hs own2=>?_
  have nt:∀ o,h₂.get? L=some o→bn o=false:=cN.notTab (d:=.dict _ _) So
  exact aU.nx (oO (fun _ a e=>fU (fU e)) k02 q.1 (fun b hb _ e=>g1 hs nt b hb e) (cN.ex (d:=.dict _ _) own2)) ((S'.keeps k02).turn hds q.1 hs (d:=.dict _ _) own2)) (inv_setk hc)
theorem rG{M:Model}{s:Shared}{r:Fl×St}{E:Value→Shared→Prop}{c:Sem Flow}{Q:Flow→Shared→Prop}(hq:wpAny M A c (aU w base ent env H₀ s own r) E s)
  (hn:∀ h tk dw own' m,r.1=.next→Tr s.heap env own h own'→bi w base ent h env H₀ own' m r.2→Q .next { s with heap:=h,toks:=tk,drawn:=dw })
  (hr:∀ h tk dw fr d v,r.1=.ret fr d→Tr s.heap env own h sE→tK w ent h H₀ v fr d→Q (.ret v) { s with heap:=h,toks:=tk,drawn:=dw }):wpAny M A c Q E s:=
 wpAny_mono hq (fun f s' q=>q Q hn hr) fun _ _ e=>e
theorem oV:SSs prog w A base cf []:=fun s env ss H₀ ent own m σ r E hc S hev=>
 je (C:=fun ss=>wpAny (model prog w) A (execs ss env) (aU w base ent env H₀ s own r) E s) hc (wpAny_execs_nil (Option.some.inj hev▸aU.nx (tk:=s.toks) (dw:=s.drawn) (.keeps fun _ _ e=>e) S))
theorem oM{a:MS}{l:List MS}{r:Fl×St}{C:Prop}(h:a8 cf (a::l) σ=some r)(k1:∀ σ₁,exS cf a σ=some (.next,σ₁)→a8 cf l σ₁=some r→C)(k2:∀ fr d,exS cf a σ=some r→r.1=.ret fr d→C):C:=by
 rw[l4] at h
 cases ha:exS cf a σ with
 | none=>rw[ha] at h;exact am h
 | some p=>
  rw[ha] at h
  obtain⟨fl,σ₁⟩:=p
  cases fl with
  | next=>exact k1 σ₁ ha h
  | ret fr d=>exact k2 fr d (ha.trans h) (congrArg Prod.fst (Option.some.inj h)).symm
theorem p9{a:MS}{l:List MS}(ha:SS prog w A base cf a)(hl:SSs prog w A base cf l):SSs prog w A base cf (a::l):=fun s env ss H₀ ent own m σ r E hc S hev=>by
 cases ss with
 | nil=>cases hc
 | cons st ss'=>
  exact bG hc fun hc1 hc2=>oM hev (fun σ₁ h1 h2=>wpAny_execs_cons (rG (ha s env st H₀ ent own m σ _ E hc1 S h1) (fun h tk dw own' m' _ t S'=>bj (hl _ env ss' H₀ ent own' m' σ₁ r E hc2 S' h2) fun f s₂ q=>q.trans t) fun _ _ _ _ _ _ e _ _=>nomatch e))
   fun fr d h1 h2=>wpAny_execs_cons (rG (ha s env st H₀ ent own m σ r E hc1 S h1) (fun _ _ _ _ _ e _ _=>nomatch h2.symm.trans e) fun h tk dw fr d v e t R Q _ hr=>hr h tk dw fr d v e t R)
theorem tZ{c:ME}{t f:List MS}{r:Fl×St}{C:Prop}(h:exS cf (.ite c t f) σ=some r)(k:∀ d b,evE cf (vis σ) c=some d→bE d=some b→a8 cf (if b then t else f) σ=some r→C):C:=
 bk (a:=evE cf (vis σ) c) (f:=fun d=>match bE d with
   | some true=>a8 cf t σ
   | some false=>a8 cf f σ
   | Option.none=>Option.none) h fun d hd h=>by
  cases ht:bE d with
  | none=>rw[ht] at h;exact am h
  | some b=>rw[ht] at h;cases b <;> exact k d _ hd ht h
theorem ss_ite(Z:Cx prog w A base mg mb cf){c:ME}{t f:List MS}(ht:SSs prog w A base cf t)(hf:SSs prog w A base cf f):SS prog w A base cf (.ite c t f):=fun s env st H₀ ent own m σ r E hc S hev=>
 tZ hev fun d b hd hb he=>IIte.rec (motive:=fun st _=>wpAny (model prog w) A (exec st env) (aU w base ent env H₀ s own r) E s) (fun {v b' o p} hc h1 h2=>wpAny_If (n7 Z S hc hd hb fun h₁ tk₁ dw₁ hk=>by
  cases b with
  | true=>exact bj (ht _ env _ H₀ ent own m σ r E h1 (S.keeps hk) he) fun f s₂ q=>q.trans (.keeps hk)
  | false=>exact bj (hf _ env _ H₀ ent own m σ r E h2 (S.keeps hk) he) fun f s₂ q=>q.trans (.keeps hk))) (inv_ite hc)
noncomputable def fu(w:World)(base ent:Heap)(env:Env)(H₀:Addr→Prop)(s:Shared)(own:Own)(J:List D→Own→St→Prop)(K:Bool→D→St→Prop)(rest:List D)(f:Flow)(s':Shared):Prop:=
 ∀ Q:Flow→Shared→Prop,(∀ h tk dw own' m σ,J rest own' σ→Tr s.heap env own h own'→bi w base ent h env H₀ own' m σ→Q .next { s with heap:=h,toks:=tk,drawn:=dw }) →
  (∀ h tk dw fr d v σ,K fr d σ→Tr s.heap env own h sE→tK w ent h H₀ v fr d→Q (.ret v) { s with heap:=h,toks:=tk,drawn:=dw })→Q f s'
noncomputable def nf(f:Flow):Flow:=match f with | .cont=>.next | f=>f
theorem nf_in{P:Flow→Prop}(h:P .next→P .cont)(f:Flow)(q:P (nf f)):P f:=match f,q with
 | .cont,q=>h q
 | .next,q=>q
 | .brk,q=>q
 | .ret _,q=>q
theorem qd{s s':Shared}{r:Fl×St}{f:Flow}(q:aU w base ent env H₀ s own r f s'):aU w base ent env H₀ s own r (nf f) s':=fun Q hn hr=>q (fun f s=>Q (nf f) s) hn hr
theorem jpost_nf{s s':Shared}{J:List D→Own→St→Prop}{K:Bool→D→St→Prop}{rest:List D}{f:Flow}(q:fu w base ent env H₀ s own J K rest f s'):fu w base ent env H₀ s own J K rest (nf f) s':=fun Q hn hr=>q (fun f s=>Q (nf f) s) hn hr
noncomputable def SSB(prog:Program)(w:World)(A:Around)(base:Heap)(cf:CF)(ms:List MS):Prop:=
 ∀ (s:Shared) (env:Env) (ss:List Stmt) (H₀:Addr→Prop) (ent:Heap) (own:Own) (m:Str→Option Value) (σ:St) (r:Fl×St) (E:Value→Shared→Prop),rX env.kindOf ss ms=true→bi w base ent s.heap env H₀ own m σ →
  a8 cf ms σ=some r→wpAny (model prog w) A (execs ss env) (fun f s'=>aU w base ent env H₀ s own r (nf f) s') E s
noncomputable def S1(prog:Program)(w:World)(A:Around)(base:Heap)(cf:CF)(ms:MS):Prop:=SS prog w A base cf ms∧∀ c t f,ms=.ite c t f→SSs prog w A base cf f
noncomputable def S2(prog:Program)(w:World)(A:Around)(base:Heap)(cf:CF)(ms:List MS):Prop:=SSs prog w A base cf ms∧SSB prog w A base cf ms
theorem s1{a:MS}(h:SS prog w A base cf a)(hn:(a.ctorIdx == 3)=false):S1 prog w A base cf a:=⟨h,fun c t f e=>by rw[e] at hn;cases hn⟩
theorem s2_nil:S2 prog w A base cf []:=⟨oV,fun s env ss H₀ ent own m σ r E hc S hev=>bj (oV s env ss H₀ ent own m σ r E hc S hev) fun _ _ q=>qd q⟩
theorem iteB_inv{a:MS}{g:ME→List MS→List MS→Bool}{C:Prop}(h:(match a with | .ite c t f=>g c t f | _=>false)=true)(k:∀ c t f,a=.ite c t f→g c t f=true→C):C:=by
 cases a with
 | ite c t f=>exact k c t f rfl h
 | _=>cases h
theorem xi_one{a:MS}{r:Fl×St}(h:a8 cf [a] σ=some r):exS cf a σ=some r:=oM h (fun σ₁ h1 h2=>h1.trans h2) fun _ _ h _=>h
theorem s2_cons(Z:Cx prog w A base mg mb cf){a:MS}{l:List MS}(ha:S1 prog w A base cf a)(hl:S2 prog w A base cf l):S2 prog w A base cf (a::l):=⟨p9 ha.1 hl.1,fun s env ss H₀ ent own m σ r E hc S hev=>by
 cases ss with
 | nil=>cases hc
 | cons st ss'=>
  rw[cb_cons] at hc
  rcases Bool.or_eq_true_iff.mp hc with hc | hc
  ·exact bG hc fun hc1 hc2=>oM hev (fun σ₁ h1 h2=>wpAny_execs_cons (rG (ha.1 s env st H₀ ent own m σ _ E hc1 S h1) (fun h tk dw own' m' _ t S'=>bj (hl.2 _ env ss' H₀ ent own' m' σ₁ r E hc2 S' h2) fun f s₂ q=>q.trans t) fun _ _ _ _ _ _ e _ _=>nomatch e))
    fun fr d h1 h2=>wpAny_execs_cons (rG (ha.1 s env st H₀ ent own m σ r E hc1 S h1) (fun _ _ _ _ _ e _ _=>nomatch h2.symm.trans e) fun h tk dw fr d v e t R Q _ hr=>hr h tk dw fr d v e t R)
  ·refine bG hc fun hl0 hc=>pL (C:=fun st=>wpAny (model prog w) A (execs (st::ss') env) _ E s) hc fun v b o p hc=>gT hc fun ho hb hc=>iteB_inv hc fun c t f ea hc=>bG hc fun ht hc=>bG hc fun hc1 hc2=>?_
   have hev:=je (C:=fun l=>a8 cf (a::l) σ=some r→exS cf a σ=some r) hl0 xi_one hev
   rw[ea] at hev
   refine tZ hev fun d bb hd hbb he=>wpAny_execs_cons (wpAny_If (n7 Z S hc1 hd hbb fun h₁ tk₁ dw₁ hk=>?_))
   cases bb with
   | true=>exact dP (C:=fun b=>wpAny (model prog w) A (execs b env) _ E _) hb fun st hs=>Stmt.Continue.elim (motive_2:=fun st=>wpAny (model prog w) A (execs [st] env) _ E _) st (of_decide_eq_true hs) fun _=>wpAny_execs_cons (wpAny_Continue (je (C:=fun t=>a8 cf t σ=some r→aU w base ent env H₀ s own r .next _) ht (fun he=>Option.some.inj he▸aU.nx (.keeps hk) (S.keeps hk)) he))
   | false=>
    have ho:=List.isEmpty_iff.mp ho
    subst ho
    exact wpAny_execs_nil (bj (ha.2 c t f ea _ env ss' H₀ ent own m σ r E hc2 (S.keeps hk) he) fun _ _ q=>qd (q.trans (.keeps hk)))⟩
inductive vj(w:World)(base ent h1:Heap)(env:Env)(H₀:Addr→Prop)(I:Addr)(own:Own)(its:List D)(Stt:Nat→Heap→Prop)(J:List D→Own→St→Prop)(s:Shared)(k:Nat):Shared→Prop
 | mk {h tk dw done rest own' m' σ'} (dr:its=done++rest) (st:Stt done.length h) (S:bi w base ent h env (fun b=>H₀ b∨b=I) own' m' σ') (t:Tr h1 env own h own') (fr:J rest own' σ') (kn:k=rest.length+1) :
  vj w base ent h1 env H₀ I own its Stt J s k { s with heap:=h,toks:=tk,drawn:=dw }
theorem ownS_nil(own:Own)(d:D):dm own d []=own:=by
 unfold dm;split
 ·rfl
 ·exact mF own
noncomputable def nH(prog:Program)(w:World)(A:Around)(base ent:Heap)(env:Env)(x:String)(J:List D→Own→St→Prop)(K:Bool→D→St→Prop)(b:List Stmt):Prop:=
 ∀ (s:Shared) (H₁:Addr→Prop) (own:Own) (m:Str→Option Value) (σ:St) (dv:D) (rest:List D) (E:Value→Shared→Prop),J (dv::rest) own σ→bi w base ent s.heap env H₁ (own.set x none) m (aC σ x (false,dv)) →
  wpAny (model prog w) A (execs b env) (fun f s'=>fu w base ent env H₁ s (own.set x none) J K rest (nf f) s') E s
section
variable {h1 hh1:Heap} {own₀ own':Own} {its done rest:List D} {fp:List Addr} {P:Nat→Value→Prop} {Stt:Nat→Heap→Prop}
theorem hot_tr(t:Tr h1 env own₀ h own')(hn:gat h1 I=none){b:Addr}{o:Obj}(e:gat h1 b=some o)(q:Hot env (fun b=>H₀ b∨b=I) own' b):Hot env H₀ own₀ b:=
 (te q).elim (fun q=>q.imp id fun q=>q.imp id fun q=>q.elim fun z q=>(t.o z b q).elim (fun q=>⟨z,q⟩) fun q=>bR e q) fun q=>bR e (q▸hn)
theorem kk_tr(t:Tr h1 env own₀ h own')(hk:Mv I h h')(hn:gat h1 I=none){b:Addr}{o:Obj}(hh:¬ Hot env H₀ own₀ b)(e:gat h1 b=some o):gat h' b=some o:=
 hk b o (fun q=>bR e (q▸hn)) (t.k b o e (fun q=>hh (.inr (.inl q))) fun z q=>hh (.inr (.inr ⟨z,q⟩)))
theorem tr_I(t:Tr h1 env own₀ h own')(hk:Mv I h h')(hn:gat h1 I=none):Tr h1 env own₀ h' own':=
 ⟨fun b o e hf ho=>hk b o (fun q=>bR e (q▸hn)) (t.k b o e hf ho),fun b o e=>(t.x b o e).elim fun o' e'=>⟨o',hk b o' (fun q=>bR e (q▸hn)) e'⟩,t.o⟩
theorem nQ(W:Walks prog w A I fp [I] its.length P Stt)(fpo:∀ b∈fp,b=I∨(¬ Hot env H₀ own₀ b∧∃ o,gat h1 b=some o))(tab:∀ b∈fp,∀ i h o,Stt i h→h.get? b=some o→bn o=false){own₁:Own}{i:Nat}(st:Stt i h)(t:Tr h1 env own₀ h own')(u:Tr h env own' h' own₁)(nI:¬ frm env I)(nO:∀ z,own' z≠some I):Stt i h':=
 dB W tab i h h' st fun b hb o e=>(fpo b hb).elim (fun q=>q▸(u.k I o (q▸e) nI nO)) fun q=>u.k b o e (fun z=>q.1 (.inr (.inl z))) fun z y=>q.2.elim fun o' e'=>(t.o z b y).elim (fun y=>q.1 (.inr (.inr ⟨z,y⟩))) fun y=>bR e' y
end
theorem ov{bf:D→St→Option (Fl×St)}{dv:D}{rest:List D}{σ:St}{r:Fl×St}{C:Prop}(h:cj bf (dv::rest) σ=some r)(k:∀ rb,bf dv σ=some rb→(rb.1=.next→cj bf rest rb.2=some r)→(∀ fr d,rb.1=.ret fr d→(.ret fr d,rb.2)=r)→C):C:=by
 cases e:bf dv σ with
 | none=>rw[cj,e] at h;exact am h
 | some rb=>
  rw[cj,e] at h
  obtain⟨fl,σ₁⟩:=rb
  cases fl with
  | next=>exact k _ e (fun _=>h) fun _ _ e=>nomatch e
  | ret fr d=>exact k _ e (fun e=>nomatch e) fun fr' d' q=>(congrArg (fun f=>(f,σ₁)) q.symm).trans (Option.some.inj h)
theorem for_turn{x:String}{yp:Pos}{b:List Stmt}{its done rest:List D}{dv:D}{J:List D→Own→St→Prop}{K:Bool→D→St→Prop}(hb:nH prog w A base ent env x J K b)
  {s:Shared} {own own₀ own':Own} {m':Str→Option Value} {σ':St} {h1:Heap} {tk:Nat} {dw:Drawn} {k:Nat} {fp:List Addr} {P:Nat→Value→Prop} {Stt:Nat→Heap→Prop}
  (hst:bP env.kindOf (Str.ofString x)=true) (W:Walks prog w A I fp [I] its.length P Stt) (fpo:∀ b∈fp,b=I∨(¬ Hot env H₀ own₀ b∧∃ o,gat h1 b=some o)) (item:∀ i v,i<its.length→P i v→∃ d,its[i]?=some d∧Rep w.params h1 (Hot env H₀ own₀) v d) (live:∀ i h,Stt i h→∃ o,gat h I=some o) (tab:∀ b∈fp,∀ i h o,Stt i h→h.get? b=some o→bn o=false)
  (new:gat h1 I=none) (nIf:¬ frm env I) (nIe:gat ent I=none) (tS:Tr s.heap env own h1 own₀)
  (dr:its=done++dv::rest) (st:Stt done.length h) (S':bi w base ent h env (fun b=>H₀ b∨b=I) own' m' σ') (t:Tr h1 env own₀ h own') (hfor:J (dv::rest) own' σ') (kn:k=(dv::rest).length+1)
  {NE:Value→Shared→Prop} {R:Shared→Prop} :
  wpAny (model prog w) A (pyNext (.ref I)) (fun o s₁=>match o with
   | none=>R s₁
   | some v=>wpAny (model prog w) A (assign (.Name (Str.ofString x) yp) env v) (fun _ s₂=>wpAny (model prog w) A (execs b env) (fun f s₃=>match f with
     | .next | .cont=>∃ m,m<k∧vj w base ent h1 env H₀ I own₀ its Stt J s m s₃
     | .brk=>fu w base ent env H₀ s own J K [] .next s₃
     | .ret v=>fu w base ent env H₀ s own J K [] (.ret v) s₃) NE s₂) NE s₁) NE { s with heap:=h,toks:=tk,drawn:=dw }:=by
 have hlt:done.length<its.length:=by rw[dr,List.length_append];exact Nat.lt_add_of_pos_right (Nat.succ_pos _)
 refine W.item done.length _ _ _ hlt st fun v h₁ tk₁ hPv st₁ hk₁=>?_
 have m1:Mv I h h₁:=fun b o hb e=>iS W tab st hk₁ b o (fun q=>hb (List.mem_singleton.mp q)) e
 have SI:=S'.turnI m1 (live _ _ st₁) nIf nIe
 have t₁:=tr_I t m1 new
 have rv:Rep w.params h₁ (Hot env (fun b=>H₀ b∨b=I) own') v dv:=(item _ v hlt hPv).elim fun d q=>by
  have e:d=dv:=by
   have e1:=q.1
   rw[dr,List.getElem?_append_right (Nat.le_refl _),Nat.sub_self] at e1
   exact (Option.some.inj e1).symm
  exact e▸q.2.mono (fun b o hn e=>kk_tr t m1 new hn e) fun b o e q=>hot_tr t new e q
 refine wpAny_assign_Name (iV (s:={ s with heap:=h₁,toks:=tk₁,drawn:=dw }) SI.rep (gK hst) fun h₂ tk₂ dw₂ a R₂ ha hs=>?_)
 have q3:=jr (s:={ s with heap:=h₁,toks:=tk₁,drawn:=dw }) (x:=x) (ns:=[]) (d:=dv) (fr:=false) (v:=v) (h₁:=h₁) (h₂:=h₂) (a:=a) (X:=fun _=>False) SI (fun _ _ e=>e)
  (by rw[mF];exact rv.sub fun _ q=>q.elim id False.elim) (fun e=>nomatch e) R₂ (ha.imp id fun e=>⟨_,e⟩) (fun _ q=>q.elim) fun b hb _ _ e=>(hs.g b hb).trans e
 rw[settle_nil,ownS_nil] at q3
 have st₂:=nQ W fpo tab st₁ t₁ q3.2 nIf fun z q=>(S'.own1 z I q).2.1 (.inr rfl)
 have t₂:=t₁.trans q3.2
 exact bj (hb { s with heap:=h₂,toks:=tk₂,drawn:=dw₂ } _ own' _ σ' dv rest _ hfor q3.1) fun f s₃ q=>nf_in (P:=fun f=>match f with
     | .next | .cont=>∃ m,m<k∧vj w base ent h1 env H₀ I own₀ its Stt J s m s₃
     | .brk=>fu w base ent env H₀ s own J K [] .next s₃
     | .ret v=>fu w base ent env H₀ s own J K [] (.ret v) s₃) id f <| q (fun f s₃=>match f with
     | .next | .cont=>∃ m,m<k∧vj w base ent h1 env H₀ I own₀ its Stt J s m s₃
     | .brk=>fu w base ent env H₀ s own J K [] .next s₃
     | .ret v=>fu w base ent env H₀ s own J K [] (.ret v) s₃) (fun h₃ tk₃ dw₃ own₃ m₃ σ₃ e u S₃=>
   ⟨rest.length+1,by rw[kn];exact Nat.lt_succ_self _,.mk (done:=done++[dv]) (rest:=rest) (dr.trans (List.append_cons ..)) (by rw[List.length_append];exact nQ W fpo tab st₂ t₂ u nIf fun z q=>(q3.1.own1 z I q).2.1 (.inr rfl)) S₃ (t₂.trans u) e rfl⟩)
  fun h₃ tk₃ dw₃ fr d v σ₃ e u R Q _ hr=>hr h₃ tk₃ dw₃ fr d v σ₃ e (tS.trans (t₂.trans u)) ⟨R.rep.sub fun _ q=>.inl q,R.keep,fun hf=>(R.fr hf).sub fun _ q=>.inl q⟩
theorem mV{x:String}{yp pos:Pos}{it:Expr}{b:List Stmt}{ns:List String}{its:List D}{J:List D→Own→St→Prop}{K:Bool→D→St→Prop}
  {s:Shared} {env:Env} {H₀:Addr→Prop} {ent:Heap} {own:Own} {m:Str→Option Value} {σ:St} {E:Value→Shared→Prop} (hb:nH prog w A base ent env x J K b) (S:bi w base ent s.heap env H₀ own m σ) (hst:bP env.kindOf (Str.ofString x)=true) (hset:d3 it=true)
  (hsrc:∀ Q:Value→Shared→Prop,(∀ I h1 h2 tk2 dw2,KH s.heap h1→KH h1 h2→gat h1 I=none→(∃ o,gat h2 I=some o)→oJ prog w A h1 (Hot env H₀ (own.less ns)) its I h2→Q (.ref I) { s with heap:=h2,toks:=tk2,drawn:=dw2 })→wpAny (model prog w) A (eval it env) (fun xv s₁=>wpAny (model prog w) A (pyIter xv) Q E s₁) E s)
  (hev:J its (own.less ns) (freeze ns σ)):wpAny (model prog w) A (exec (.For (.Name (Str.ofString x) yp) it b [] pos) env) (fu w base ent env H₀ s own J K []) E s:=by
 refine wpAny_For (hsrc _ fun I h1 h2 tk2 dw2 k01 k12 fresh ex IW=>?_) (jk hset)
 have S0:=(S.freeze ns).keeps k01
 have S2:=S0.addH (I:=I) k12 fresh ex
 have nIf:¬ frm env I:=fun q=>(ez S0.rep q).elim fun o e=>bR e fresh
 have nIe:gat ent I=none:=jX S.keep (jX k01 fresh)
 have tS:Tr s.heap env own h1 (own.less ns):=.of k01 fun _ _=>dM
 refine IW.rec fun {fp P Stt} W st fpo item live tab=>codeAny_forLoop (vj w base ent h1 env H₀ I (own.less ns) its Stt J s) (fun k s' q=>?_) (its.length+1) (.mk (done:=[]) (rest:=its) rfl st S2 (.keeps k12) hev rfl)
 obtain @⟨h,tk,dw,done,rest,own',m',σ',dr,st,S',t,hfor,kn⟩:=q
 cases rest with
 | cons dv rest=>exact for_turn hb hst W fpo item live tab fresh nIf nIe tS dr st S' t hfor kn
 | nil=>
  rw[List.append_nil] at dr
  subst dr
  refine W.done _ _ _ st fun h' tk' hk'=>?_
  have m1:Mv I h h':=fun b o hb e=>iS W tab st hk' b o (fun q=>hb (List.mem_singleton.mp q)) e
  have t':=tr_I t m1 fresh
  exact wpAny_execs_nil fun Q hn _=>hn _ _ dw _ _ _ hfor (tS.trans t') (S'.leave m1 (fun c hc=>(S0.hot.ex c (.inl hc)).elim fun b' q=>q.elim fun o q=>(t'.x b' o q.2).elim fun o' e'=>⟨b',o',q.1,e'⟩) nIf nIe)
theorem body_ss{x:String}{body:List MS}{b:List Stmt}{ent:Heap}{env:Env}{r:Fl×St}(hb:SSs prog w A base cf body)(hcb:eI env.kindOf b body=true) :
  nH prog w A base ent env x (fun rest _ σ=>cj (fun it σ=>a8 cf body (aC σ x (false,it))) rest σ=some r) (fun fr d σ=>(.ret fr d,σ)=r) b:=fun s H₁ own m σ dv rest E hfor S=>
 ov hfor fun rb h1 h2 h3=>bj (hb s env b H₁ ent _ m _ rb E hcb S h1) fun f s' q Q hn hr=>q (fun f s=>Q (nf f) s) (fun h tk dw own' m' e t S'=>hn h tk dw own' m' rb.2 (h2 e) t S') fun h tk dw fr d v e t R=>hr h tk dw fr d v rb.2 (h3 fr d e) t R
theorem body_sb{x:String}{body:List MS}{b:List Stmt}{ent:Heap}{env:Env}{r:Fl×St}(hb:SSB prog w A base cf body)(hcb:rX env.kindOf b body=true) :
  nH prog w A base ent env x (fun rest _ σ=>cj (fun it σ=>a8 cf body (aC σ x (false,it))) rest σ=some r) (fun fr d σ=>(.ret fr d,σ)=r) b:=fun s H₁ own m σ dv rest E hfor S=>
 ov hfor fun rb h1 h2 h3=>bj (hb s env b H₁ ent _ m _ rb E hcb S h1) fun f s' q Q hn hr=>q Q (fun h tk dw own' m' e t S'=>hn h tk dw own' m' rb.2 (h2 e) t S') fun h tk dw fr d v e t R=>hr h tk dw fr d v rb.2 (h3 fr d e) t R
theorem sO{s s':Shared}{r:Fl×St}{bf:D→St→Option (Fl×St)}{f:Flow}(q:fu w base ent env H₀ s own (fun rest _ σ=>cj bf rest σ=some r) (fun fr d σ=>(.ret fr d,σ)=r) [] f s'):aU w base ent env H₀ s own r f s':=fun Q hn hr=>
 q Q (fun h tk dw own' m σ e t S=>have e:(Fl.next,σ)=r:=Option.some.inj e;hn h tk dw own' m (e▸rfl) t (e▸S)) fun h tk dw fr d v σ e t R=>hr h tk dw fr d v (e▸rfl) t R
theorem xi_for{x:String}{src:ME}{body:List MS}{r:Fl×St}{C:Prop}(h:exS cf (.for_ x src body) σ=some r)(k:∀ d its,evE cf (vis σ) src=some d→d.items=some its→cj (fun it σ=>a8 cf body (aC σ x (false,it))) its (freeze src.names σ)=some r→C):C:=
 bk (a:=evE cf (vis σ) src) (f:=fun d=>oEs d.items fun its=>cj (fun it σ=>a8 cf body (aC σ x (false,it))) its (freeze src.names σ)) h fun d hd h=>ed h fun its hi h=>k d its hd hi h
theorem ss_for(Z:Cx prog w A base mg mb cf){x:String}{src:ME}{body:List MS}(hb:S2 prog w A base cf body):SS prog w A base cf (.for_ x src body):=fun s env st H₀ ent own m σ r E hc S hev=>
 IFor.rec (motive:=fun st _=>wpAny (model prog w) A (exec st env) (aU w base ent env H₀ s own r) E s) (fun hst hset hcs hcb=>xi_for hev fun d its hd hits he=>bj (mV (body_sb hb.2 hcb) S hst hset (fun Q k=>lj Z S hcs hd fun u h₁ tk₁ dw₁ hk rv=>lN (mL (s:={ s with heap:=h₁,toks:=tk₁,drawn:=dw₁ }) rv Z.hh hits) fun I h tk dw k12 fr ex W=>k I h₁ h tk dw hk k12 fr ex W) he) fun _ _ q=>sO q) (inv_for hc)
theorem scal_post{P:Params}{h:Heap}{H:Addr→Prop}{v:Value}{d:D}{X:Prop}(r:Rep P h H v d)(hs:d.scalar=true)(x:X):match (generalizing:=false) v with | .ref _=>False | _=>X:=by
 cases d with
 | none=>exact r.noneE (C:=fun v=>match (generalizing:=false) v with | .ref _=>False | _=>X) x
 | bool b=>exact r.boolE (C:=fun v=>match (generalizing:=false) v with | .ref _=>False | _=>X) x
 | int i=>exact r.intE (C:=fun v=>match (generalizing:=false) v with | .ref _=>False | _=>X) fun _=>x
 | str i=>exact r.strE (C:=fun v=>match (generalizing:=false) v with | .ref _=>False | _=>X) fun _=>x
 | _=>cases hs
theorem xi_expr{e:ME}{r:Fl×St}{C:Prop}(h:exS cf (.expr e) σ=some r)(k:∀ d,evE cf (vis σ) e=some d→d.scalar=true→(.next,σ)=r→C):C:=
 bk (a:=evE cf (vis σ) e) (f:=fun d=>if d.scalar=true then some (Fl.next,σ) else Option.none) h fun d hd h=>aZ h fun hs e=>k d hd hs e
theorem swaps_none{v:Expr}(h:pd v=true){l:Nat}{env:Env}:swapsWith v none l env=pure false:=by
 cases v with
 | ListComp | SetComp | DictComp=>cases h
 | _=>rfl
theorem ss_expr(Z:Cx prog w A base mg mb cf)(e:ME):SS prog w A base cf (.expr e):=fun s env st H₀ ent own m σ r E hc S hev=>
 xi_expr hev fun d hd hs er=>er▸vh.rec (motive:=fun st _=>wpAny (model prog w) A (exec st env) (aU w base ent env H₀ s own (.next,σ)) E s) (fun hn hc=>wpAny_Expr (lj Z S hc hd fun u h₁ tk₁ dw₁ hk rv=>scal_post rv hs (aU.nx (.keeps hk) (S.keeps hk))) (by unfold interactive;rw[S.rep.kind];rfl) (swaps_none hn)) (inv_expr hc)
inductive WhI(w:World)(base ent:Heap)(env:Env)(H₀:Addr→Prop)(own:Own)(cd:St→Option Bool)(bf:St→Option (Fl×St))(r:Fl×St)(s:Shared)(k:Nat):Shared→Prop
 | mk {h tk dw own' m' σ'} (t:Tr s.heap env own h own') (S:bi w base ent h env H₀ own' m' σ') (wh:dY cd bf k σ'=some r):WhI w base ent env H₀ own cd bf r s k { s with heap:=h,toks:=tk,drawn:=dw }
inductive WhT(cd:St→Option Bool)(bf:St→Option (Fl×St))(r:Fl×St)(σ:St):Nat→Prop
 | done {n} (hc:cd σ=some false) (hr:r=(.next,σ)):WhT cd bf r σ (n+1)
 | next {n σ₁} (hc:cd σ=some true) (hb:bf σ=some (.next,σ₁)) (hw:dY cd bf n σ₁=some r):WhT cd bf r σ (n+1)
 | ret {n fr d σ₁} (hc:cd σ=some true) (hb:bf σ=some (.ret fr d,σ₁)) (hr:r=(.ret fr d,σ₁)):WhT cd bf r σ (n+1)
theorem wh_inv{cd:St→Option Bool}{bf:St→Option (Fl×St)}{r:Fl×St}{σ:St}{n:Nat}(h:dY cd bf n σ=some r):WhT cd bf r σ n:=by
 cases n with
 | zero=>exact am h
 | succ n=>
  cases hc:cd σ with
  | none=>rw[dY,hc] at h;exact am h
  | some b=>
   rw[dY,hc] at h
   cases b with
   | false=>exact .done hc (Option.some.inj h).symm
   | true=>
    cases hb:bf σ with
    | none=>dsimp only at h;rw[hb] at h;exact am h
    | some rb=>
     obtain⟨fl,σ₁⟩:=rb
     dsimp only at h
     rw[hb] at h
     cases fl with
     | next=>exact .next hc hb h
     | ret fr d=>exact .ret hc hb (Option.some.inj h).symm
theorem ng{c:ME}{b:Bool}{C:Prop}(h:fj cf c σ=some b)(k:∀ d,evE cf (vis σ) c=some d→bE d=some b→C):C:=bk (a:=evE cf (vis σ) c) (f:=bE) h k
theorem wh_turn(Z:Cx prog w A base mg mb cf){c:ME}{body:List MS}(hb:SSs prog w A base cf body){s:Shared}{r:Fl×St}{own':Own}{m':Str→Option Value}{σ':St}{k:Nat}{v:Expr}{b:List Stmt}{h₁:Heap}{tk₁:Nat}{dw₁:Drawn}{E:Value→Shared→Prop}(hc1:aG env.kindOf v c=true)(hc2:eI env.kindOf b body=true)
  (t:Tr s.heap env own h₁ own') (S1:bi w base ent h₁ env H₀ own' m' σ') (wh:WhT (fj cf c) (fun σ=>a8 cf body σ) r σ' k) :
  wpAny (model prog w) A (isTrue v env (eval v env)) (fun c' s₁=>if c'=true then wpAny (model prog w) A (execs b env) (fun f s₂=>match f with
   | .next | .cont=>∃ m,m<k∧WhI w base ent env H₀ own (fj cf c) (fun σ=>a8 cf body σ) r s m s₂
   | .brk=>aU w base ent env H₀ s own r .next s₂
   | .ret v=>aU w base ent env H₀ s own r (.ret v) s₂) E s₁ else wpAny (model prog w) A (execs [] env) (fun f s₂=>aU w base ent env H₀ s own r f s₂) E s₁) E { s with heap:=h₁,toks:=tk₁,drawn:=dw₁ }:=
 WhT.rec (motive:=fun k _=>wpAny (model prog w) A (isTrue v env (eval v env)) (fun c' s₁=>if c'=true then wpAny (model prog w) A (execs b env) (fun f s₂=>match f with
   | .next | .cont=>∃ m,m<k∧WhI w base ent env H₀ own (fj cf c) (fun σ=>a8 cf body σ) r s m s₂
   | .brk=>aU w base ent env H₀ s own r .next s₂
   | .ret v=>aU w base ent env H₀ s own r (.ret v) s₂) E s₁ else wpAny (model prog w) A (execs [] env) (fun f s₂=>aU w base ent env H₀ s own r f s₂) E s₁) E { s with heap:=h₁,toks:=tk₁,drawn:=dw₁ })
  (fun hc hr=>ng hc fun d hd ht=>n7 (s:={ s with heap:=h₁,toks:=tk₁,drawn:=dw₁ }) Z S1 hc1 hd ht fun h₂ tk₂ dw₂ hk=>wpAny_execs_nil (by rw[hr];exact aU.nx (t.trans (.keeps hk)) (S1.keeps hk)))
  (fun hc hbd hw=>ng hc fun d hd ht=>n7 (s:={ s with heap:=h₁,toks:=tk₁,drawn:=dw₁ }) Z S1 hc1 hd ht fun h₂ tk₂ dw₂ hk=>
   rG (hb { s with heap:=h₂,toks:=tk₂,drawn:=dw₂ } env _ H₀ ent own' m' σ' _ _ hc2 (S1.keeps hk) hbd) (fun h₃ tk₃ dw₃ own₃ m₃ _ u S₃=>⟨_,Nat.lt_succ_self _,.mk ((t.trans (.keeps hk)).trans u) S₃ hw⟩) fun _ _ _ _ _ _ e _ _=>nomatch e)
  (fun hc hbd hr=>ng hc fun d hd ht=>n7 (s:={ s with heap:=h₁,toks:=tk₁,drawn:=dw₁ }) Z S1 hc1 hd ht fun h₂ tk₂ dw₂ hk=>
   rG (hb { s with heap:=h₂,toks:=tk₂,drawn:=dw₂ } env _ H₀ ent own' m' σ' _ _ hc2 (S1.keeps hk) hbd) (fun _ _ _ _ _ e _ _=>nomatch e) fun h₃ tk₃ dw₃ fr d v e u R=>by cases e;show aU _ _ _ _ _ _ _ r _ _;rw[hr];exact aU.rt ((t.trans (.keeps hk)).trans u) R) wh
theorem ss_while(Z:Cx prog w A base mg mb cf){c:ME}{body:List MS}(hb:SSs prog w A base cf body):SS prog w A base cf (.while_ c body):=fun s env st H₀ ent own m σ r E hc S hev=>
 r4.rec (motive:=fun st _=>wpAny (model prog w) A (exec st env) (aU w base ent env H₀ s own r) E s) (fun {v b p} hc1 hc2=>wpAny_While (codeAny_whileLoop (WhI w base ent env H₀ own (fj cf c) (fun σ=>a8 cf body σ) r s) (fun k s' q=>by
  obtain @⟨h₁,tk₁,dw₁,own',m',σ',t,S',wh⟩:=q
  exact wh_turn Z hb hc1 hc2 t S' (wh_inv wh)) tO (.mk (tk:=s.toks) (dw:=s.drawn) (.keeps fun _ _ e=>e) S hev))) (inv_while hc)
theorem xi_forr{x:String}{src:ME}{body:List MS}{r:Fl×St}{C:Prop}(h:exS cf (.forr x src body) σ=some r)(k:∀ ds,evE cf (vis σ) src=some (.tup ds)→cj (fun it σ=>a8 cf body (aC σ x (false,it))) ds.reverse (freeze src.names σ)=some r→C):C:=by
 rw[r7] at h
 split at h
 ·exact k _ ‹_› h
 ·exact am h
theorem ss_forr(Z:Cx prog w A base mg mb cf){x:String}{src:ME}{body:List MS}(hb:SSs prog w A base cf body):SS prog w A base cf (.forr x src body):=fun s env st H₀ ent own m σ r E hc S hev=>
 vg.rec (motive:=fun st _=>wpAny (model prog w) A (exec st env) (aU w base ent env H₀ s own r) E s) (fun hst hg hcs hcb=>xi_forr hev fun ds hds he=>bj (mV (body_ss hb hcb) S hst rfl (fun Q k=>PyProof.Rows.Call_Name rfl (eu Z.G (f:="reversed") (by decide) S.rep (S.freeze src.names).hot hg (dO (tT hcs) (Calls.spliced_cons (
  lj Z S hcs hds fun u h₁ tk₁ dw₁ hk rv=>Calls.spliced_nil (bj (iter_rvs (s:={ s with heap:=h₁,toks:=tk₁,drawn:=dw₁ }) rv Z.hh) fun v s₂ q₂=>lN (s:={ s with heap:=h₁,toks:=tk₁,drawn:=dw₁ }) q₂ fun I h tk dw k12 fr ex W=>k I h₁ h tk dw hk k12 fr ex W)))))) he) fun _ _ q=>sO q) (inv_forr hc)
end
end Mine
namespace Mine
open PySem PySem.SeqAt
noncomputable def gh(i:Nat):String:=String.ofList (List.replicate (i+1) '#')
theorem gh_list(i:Nat):(gh i).toList=List.replicate (i+1) '#':=String.toList_ofList
theorem pA(i:Nat):(gh i).toList.length=i+1:=by rw[gh_list,List.length_replicate]
theorem uO{i j:Nat}(h:gh i=gh j):i=j:=Nat.succ.inj ((pA i).symm.trans ((congrArg (fun s=>s.toList.length) h).trans (pA j)))
theorem gh_ne{i:Nat}{x:String}(h:x.toList.length≤i):gh i≠x:=fun e=>Nat.not_succ_le_self i (Nat.le_trans (Nat.le_of_eq ((pA i).symm.trans (congrArg (fun s=>s.toList.length) e))) h)
theorem gh_fresh(names:List (Str×NameKind)):∃ N,∀ i,N≤i→names.lookup (Str.ofString (gh i))=none:=by
 induction names with
 | nil=>exact⟨0,fun _ _=>rfl⟩
 | cons p names ih=>
  obtain⟨N,h⟩:=ih
  refine⟨max N p.1.cps.size,fun i hi=>?_⟩
  have ne:(Str.ofString (gh i) == p.1)=false:=beq_false_of_ne fun e=>by
   have q:(Str.ofString (gh i)).cps.size=i+1:=by rw[Str.ofString_eq_toList,List.size_toArray,List.length_map,pA]
   exact Nat.not_succ_le_self i (Nat.le_trans (Nat.le_of_eq (q.symm.trans (congrArg (·.cps.size) e))) (Nat.le_trans (Nat.le_max_right _ _) hi))
  rw[List.lookup_cons,ne]
  exact h i (Nat.le_trans (Nat.le_max_left _ _) hi)
section
variable {w:World} {base ent h h₂:Heap} {env:Env} {H₀:Addr→Prop} {own:Own} {m:Str→Option Value} {σ:St}
theorem bp.ghost(R:bp h env m){x:Str}{v:Value}(hx:env.kindOf x=none):bp h env (upd m x v):=
 have ne:∀ {y k},env.kindOf y=some k→upd m x v y=m y:=fun {y k} e=>if_neg fun q=>nomatch (q▸e).symm.trans hx
 {R with
  loc:=R.loc.elim fun ml q=>⟨ml,q.1,fun y hy=>(q.2 y hy).trans (ne hy).symm⟩
  cell:=fun y hy=>(R.cell y hy).elim fun c q=>⟨c,q.1,(hy.elim ne ne).symm▸q.2⟩ }
theorem bi.adopt(S:bi w base ent h env H₀ own m σ){x:String}(hx:env.kindOf (Str.ofString x)=none){b:Addr}{ds:List D}(k:KH h h₂)(hb:gat h b=none)(hn:¬ H₀ b)(o:gU w.params h₂ (Hot env H₀ own) b ds) :
  bi w base ent h₂ env H₀ (own.set x (some b)) (upd m (Str.ofString x) (.ref b)) (aC σ x (true,.list ds)):=
 S.set ((S.rep.keeps k).ghost hx) (fun b o _ e=>k b o e) (fun _ a o _ e=>k a o e) (fun b o e=>⟨o,k b o e⟩) (fun b o e=>k b o (S.keep b o e)) (fun c e=>Option.some.inj e▸⟨hb,hn,cN.ex (d:=.list ds) o⟩) nofun
  fun _=>⟨b,rfl,rfl,o.mono (fun _ e=>e) (fun _ _ _ e=>e) fun c o _ q=>q.elim (fun q=>.inl (.inl q)) fun q=>q.elim (fun q=>.inl (.inr (.inl q))) fun q=>q.elim fun y q=>dL q (fun _ q=>.inr (Option.some.inj q).symm) fun _ q=>.inl (.inr (.inr ⟨y,q⟩))⟩
end
noncomputable abbrev GL:=List (D×Addr×List D)
noncomputable def GL.v(G:GL):List (D×List D):=G.map fun q=>(q.1,q.2.2)
noncomputable def GL.k(G:GL):List D:=G.map (·.1)
noncomputable def GL.p(G:GL):List D:=G.map fun q=>.ptr q.2.1
theorem qV{k r:D}{q:D×List D}{G2:List (D×List D)}(hq:aR q.1 k=true):∀ {G1:List (D×List D)},(∀ p∈G1,aR p.1 k=false)→tR k r (G1++q::G2)=G1++(q.1,q.2++[r])::G2
 | [],_=>if_pos hq
 | p::G1,h=>(if_neg (by rw[h p (.head _)];nofun)).trans (congrArg (p::·) (qV hq fun p hp=>h p (.tail _ hp)))
theorem qU{k r:D}:∀ {G:List (D×List D)},(∀ p∈G,aR p.1 k=false)→tR k r G=G++[(k,[r])]
 | [],_=>rfl
 | p::G,h=>(if_neg (by rw[h p (.head _)];nofun)).trans (congrArg (p::·) (qU fun p hp=>h p (.tail _ hp)))
theorem rf{k:D}{q:D×Addr×List D}{G2:GL}(hq:aR q.1 k=true):∀ {G1:GL},(∀ p∈G1,aR p.1 k=false)→pJ (GL.k (G1++q::G2)) (GL.p (G1++q::G2)) k=some (.ptr q.2.1)
 | [],_=>if_pos hq
 | p::G1,h=>(if_neg (by rw[h p (.head _)];nofun)).trans (rf hq fun p hp=>h p (.tail _ hp))
theorem q9{k d:D}:∀ {G:GL},(∀ p∈G,aR p.1 k=false)→dK G.k G.p k d=(G.k++[k],G.p++[d])
 | [],_=>rfl
 | p::G,h=>(if_neg (by rw[h p (.head _)];nofun)).trans (by
  show (p.1::(dK (GL.k G) (GL.p G) k d).1,D.ptr p.2.1::(dK (GL.k G) (GL.p G) k d).2)=_
  rw[q9 fun p hp=>h p (.tail _ hp)];rfl)
theorem qe{k:D}:∀ {G:GL},(G.k.any fun x=>aR x k)=true→∃ G1 q G2,G=G1++q::G2∧aR q.1 k=true∧∀ p∈G1,aR p.1 k=false
 | p::G,h=>by
  cases hp:aR p.1 k with
  | true=>exact⟨[],p,G,rfl,hp,fun _ q=>nomatch q⟩
  | false=>
   have h':(aR p.1 k||(GL.k G).any fun x=>aR x k)=true:=h
   rw[hp] at h'
   obtain⟨G1,q,G2,e,h1,h2⟩:=qe (G:=G) h'
   exact⟨p::G1,q,G2,congrArg (p::·) e,h1,fun x hx=>(List.mem_cons.mp hx).elim (fun e=>e▸hp) (h2 x)⟩
theorem none_of_any{k:D}{G:GL}(h:(G.k.any fun x=>aR x k)=false):∀ p∈G,aR p.1 k=false:=fun p hp=>by
 cases e:aR p.1 k with
 | false=>rfl
 | true=>exact absurd e (List.any_eq_false.mp h p.1 (List.mem_map.mpr ⟨p,hp,rfl⟩))
structure GS(N:Nat)(σ₀:St)(G:GL)(own:Own)(σ:St):Prop where
 tk:∀ q∈G,q.1.isTK=true
 gr:σ.lookup "groups"=some (true,.dict G.k G.p)
 gs:∀ i q,G[i]?=some q→σ.lookup (gh (N+i))=some (true,.list q.2.2)∧own (gh (N+i))=some q.2.1
 sm:∀ x∈iv,σ.lookup x=σ₀.lookup x
theorem mJ{k:D}{G:GL}(hk:k.isTK=true)(h:∀ q∈G,q.1.isTK=true):dX k G.k=true:=by
 unfold dX
 rw[hk,show (GL.k G).all D.isTK=true from List.all_eq_true.mpr fun d hd=>(List.mem_map.mp hd).elim fun q z=>z.2▸h q z.1]
 exact Bool.or_true _
theorem ix{N i:Nat}(hN:6≤N):gh (N+i)≠"groups"∧gh (N+i)≠"row"∧gh (N+i)≠"own"∧∀ x∈iv,gh (N+i)≠x:=
 have hi:6≤N+i:=Nat.le_trans hN (Nat.le_add_right _ _)
 have l:∀ x:String,x.toList.length≤6→gh (N+i)≠x:=fun x h=>gh_ne (Nat.le_trans h hi)
 ⟨l _ (by decide),l _ (by decide),l _ (by decide),fun x hx=>l x ((by decide:∀ x∈iv,x.toList.length≤6) x hx)⟩
theorem GS.other{N:Nat}{σ₀ σ σ':St}{G:GL}{own own':Own}(hN:6≤N)(g:GS N σ₀ G own σ)(h:∀ x,x≠"row"→x≠"own"→(own' x=own x∨x∈iv)∧σ'.lookup x=σ.lookup x):GS N σ₀ G own' σ' where
 tk:=g.tk
 gr:=(h _ (by decide) (by decide)).2.trans g.gr
 gs:=fun i q e=>have z:=ix (i:=i) hN;have y:=h _ z.2.1 z.2.2.1;⟨y.2.trans (g.gs i q e).1,(y.1.elim id fun q=>absurd rfl (z.2.2.2 _ q)).trans (g.gs i q e).2⟩
 sm:=fun x hx=>(h x (by rintro rfl;exact absurd hx (by decide)) (by rintro rfl;exact absurd hx (by decide))).2.trans (g.sm x hx)
end Mine
namespace Mine
open PySem PySem.SeqAt
section
variable {prog:Program} {w:World} {A:Around} {base:Heap} {mg mb:Str→Option Value} {cf:CF}
variable {s:Shared} {ent:Heap} {env:Env} {H₀:Addr→Prop} {own:Own} {m:Str→Option Value} {σ σ₀:St} {E:Value→Shared→Prop} {N n:Nat} {G G1 G2:GL} {pl k dv:D} {GF:List (D×List D)} {rest:List D}
theorem grp_new(Z:Cx prog w A base mg mb cf){gn on v:Expr}{sp pos:Pos}(hN:6≤N)(hgh:∀ i,N≤i→env.kindOf (Str.ofString (gh i))=none)(hcg:aG env.kindOf gn (.var "groups")=true)(hco:aG env.kindOf on (.var "own")=true)(hcv:aG env.kindOf v (.lst [])=true)
  (S:bi w base ent s.heap env H₀ own m σ) (g:GS N σ₀ G own σ) (hk:k.isTK=true) (ho:σ.lookup "own"=some (false,k)) (hno:∀ p∈G,aR p.1 k=false) (hl:G.length<big) {Q:Flow→Shared→Prop}
  (K:∀ h tk dw own' m' σ' b,bi w base ent h env H₀ own' m' σ'→Tr s.heap env own h own'→GS N σ₀ (G++[(k,b,[])]) own' σ'→(∀ x,x≠"groups"→(∀ i,x≠gh (N+i))→σ'.lookup x=σ.lookup x)→Q .next { s with heap:=h,toks:=tk,drawn:=dw }) :
  wpAny (model prog w) A (exec (.Assign [.Subscript gn on sp] v pos) env) Q E s:=by
 refine wpAny_Assign_Subscript (uk Z S hcv (d:=.list []) (fr:=true) rfl fun u h₁ tk₁ dw₁ hk1 rv hfr=>?_) (by cases v <;> rfl)
 replace hfr:=hfr rfl
 obtain @⟨b,hb,o⟩:=hfr
 rw[show (ME.lst []).names=[] from rfl,mF] at o rv
 have hH:=cN.off o rv
 have S1:=S.adopt (hgh _ (Nat.le_add_right N G.length)) hk1 hb (fun q=>hH (.inl q)) o
 have z:=ix (i:=G.length) hN
 have l1:∀ x,x≠gh (N+G.length)→(aC σ (gh (N+G.length)) (true,D.list [])).lookup x=σ.lookup x:=fun x hx=>by rw[aH,if_neg hx]
 have lg:(aC σ (gh (N+G.length)) (true,D.list [])).lookup "groups"=some (true,.dict G.k G.p):=(l1 _ z.1.symm).trans g.gr
 have lo:(aC σ (gh (N+G.length)) (true,D.list [])).lookup "own"=some (false,k):=(l1 _ z.2.2.1.symm).trans ho
 refine (S1.owned _ _ lg).elim fun gA qg=>(S1.plain _ _ lo).elim fun kv qk=>?_
 refine rD.rec (motive:=fun gn _=>wpAny _ _ (eval gn env) _ _ _) (fun hvg=>eT (s:={ s with heap:=h₁,toks:=tk₁,drawn:=dw₁ }) S1.rep hvg qg.2.1 ?_) (gL hcg)
 refine rD.rec (motive:=fun on _=>wpAny _ _ (eval on env) _ _ _) (fun hvo=>eT (s:={ s with heap:=h₁,toks:=tk₁,drawn:=dw₁ }) S1.rep hvo qk.1 ?_) (gL hco)
 have LH:∀ c,Hot env H₀ (own.set (gh (N+G.length)) (some b)) c∨c=gA→Hot env H₀ (own.set (gh (N+G.length)) (some b)) c:=fun c z=>z.elim id fun z=>z▸.inr (.inr ⟨_,qg.1⟩)
 refine li (s:={ s with heap:=h₁,toks:=tk₁,drawn:=dw₁ }) (d:=.ptr b) Z.hu.u1 qg.2.2 (qk.2.sub LH) rfl (mJ hk g.tk) (by unfold GL.k;rw[List.length_map];exact hl) fun h' tk dw hs own2=>?_
 rw[q9 hno] at own2
 have S2:=S1.turn lg qg.1 hs (d:=.dict _ _) own2
 have nt:∀ o,h₁.get? gA=some o→bn o=false:=cN.notTab (d:=.dict _ _) qg.2.2
 have oe:∀ x,x≠gh (N+G.length)→own.set (gh (N+G.length)) (some b) x=own x:=fun x hx=>if_neg hx
 have gown:own "groups"=some gA:=(oe _ z.1.symm).symm.trans qg.1
 refine K h' tk dw _ _ _ b S2 ⟨fun c o e _ hn=>g1 hs nt c (fun q=>hn _ (q▸gown)) (hk1 c o e),fun c o e=>(Classical.em (c=gA)).elim (fun q=>q▸cN.ex (d:=.dict _ _) own2) fun q=>⟨o,g1 hs nt c q (hk1 c o e)⟩,fun x a e=>dL e (fun _ q=>.inr (Option.some.inj q▸hb)) fun _ q=>.inl q⟩ ⟨?_,?_,?_,?_⟩ fun x h1 h2=>?_
 ·exact fun q hq=>(List.mem_append.mp hq).elim (g.tk q) fun hq=>List.mem_singleton.mp hq▸hk
 ·rw[aH,if_pos rfl];unfold GL.k GL.p;rw[List.map_append,List.map_append];rfl
 ·intro i q e
  have zi:=ix (i:=i) hN
  rw[aH,if_neg zi.1]
  by_cases hi:i<G.length
  ·rw[List.getElem?_append_left hi] at e
   have ne:gh (N+i)≠gh (N+G.length):=fun q=>Nat.ne_of_lt hi (Nat.add_left_cancel (uO q))
   exact⟨(l1 _ ne).trans (g.gs i q e).1,(oe _ ne).trans (g.gs i q e).2⟩
  ·have e':i=G.length:=by
    have:=(List.getElem?_eq_some_iff.mp e).1
    rw[List.length_append] at this
    exact Nat.le_antisymm (Nat.lt_succ_iff.mp this) (Nat.not_lt.mp hi)
   subst e'
   rw[List.getElem?_append_right (Nat.le_refl _),Nat.sub_self] at e
   rw[← Option.some.inj e,aH,if_pos rfl]
   exact⟨rfl,if_pos rfl⟩
 ·intro x hx
  rw[aH,if_neg (by rintro rfl;exact absurd hx (by decide))]
  exact (l1 x fun q=>z.2.2.2 x hx q.symm).trans (g.sm x hx)
 ·rw[aH,if_neg h1];exact l1 x (h2 _)
theorem grp_app(Z:Cx prog w A base mg mb cf){recv a:Expr}{ap cp pos:Pos}(hN:6≤N)(hcr:aG env.kindOf recv (.sub (.var "groups") (.var "own"))=true)(hca:aG env.kindOf a (.var "row")=true)(hline:(ap.endLine == cp.line)=true){q:D×Addr×List D}
  (S:bi w base ent s.heap env H₀ own m σ) (g:GS N σ₀ (G1++q::G2) own σ) (hk:k.isTK=true) (ho:σ.lookup "own"=some (false,k)) (hr:σ.lookup "row"=some (false,dv)) (hq:aR q.1 k=true) (hno:∀ p∈G1,aR p.1 k=false) (hl:q.2.2.length<big) {Q:Flow→Shared→Prop}
  (K:∀ h tk dw σ',bi w base ent h env H₀ own m σ'→Tr s.heap env own h own→GS N σ₀ (G1++(q.1,q.2.1,q.2.2++[dv])::G2) own σ'→Q .next { s with heap:=h,toks:=tk,drawn:=dw }) :
  wpAny (model prog w) A (exec (.Expr (.Call (.Attribute recv (Str.ofString "append") ap) [a] [] cp) pos) env) Q E s:=by
 have hd:evE cf (vis σ) (.sub (.var "groups") (.var "own"))=some (.ptr q.2.1):=by
  rw[uQ,fK,fK,bT,bT,g.gr,ho]
  exact (if_pos (mJ hk g.tk)).trans (rf hq hno)
 have gq:=g.gs G1.length q (by rw[List.getElem?_append_right (Nat.le_refl _),Nat.sub_self];rfl)
 have hstar:starEach [a] env=[(false,eval a env)]:=fQ hca
 have hb:attributeBase recv (Str.ofString "append") env (eval recv env)=eval recv env:=(lS hcr).rec fun _ _ _=>rfl
 refine wpAny_Expr (wpAny_Call_append hb (by rw[hstar];rfl) hline (by rw[hstar];rfl) (lj Z S hcr hd fun u h₁ tk₁ dw₁ hk1 rv=>?_)) (by unfold interactive;rw[S.rep.kind];rfl) rfl
 have rv:u=.ref q.2.1:=rv
 subst rv
 have S1:=S.keeps hk1
 have o:gU w.params h₁ (Hot env H₀ own) q.2.1 q.2.2:=S1.ownAt gq.1 gq.2
 refine o.rec fun {vs n} o1 o2 o3=>⟨q.2.1,vs,rfl,⟨_,n,o1,rfl,rfl,rfl⟩,?_⟩
 refine (S1.plain _ _ hr).elim fun rvv qr=>rD.rec (motive:=fun a _=>wpAny _ _ (eval a env) _ _ _) (fun hva=>eT (s:={ s with heap:=h₁,toks:=tk₁,drawn:=dw₁ }) S1.rep hva qr.1 ?_) (gL hca)
 refine wpAny_list_append_plain (items:=vs) ⟨n,o1⟩ (fun h₂ hl₂ hs₂=>?_) (o3.size.symm▸o2)
 have hl₂':∃ n',h₂.get? q.2.1=some (fC (vs.push rvv) n'):=hl₂
 have m1:Mv q.2.1 h₁ h₂:=fun b o hb e=>g1 hs₂ (bH o1) b hb e
 have LH:∀ c,Hot env H₀ own c∨c=q.2.1→Hot env H₀ own c:=fun c z=>z.elim id fun z=>z▸.inr (.inr ⟨_,gq.2⟩)
 have own2:gU w.params h₂ (Hot env H₀ own) q.2.1 (q.2.2++[dv]):=hl₂'.elim fun n' e'=>⟨e',by rw[List.length_append];exact hl,by
  rw[Array.toList_push]
  exact (o3.append (.cons (qr.2.sub LH) .nil)).mono (fun b o hn e=>m1 b o (fun q=>hn (.inr q)) e) fun _ _ _ q=>q⟩
 refine K h₂ _ _ _ (S1.turn gq.1 gq.2 hs₂ (d:=.list _) own2) (oO (fun _ _ e=>e) hk1 gq.2 (fun b hb _ e=>m1 b _ hb e) (cN.ex (d:=.list _) own2)) ⟨?_,?_,?_,?_⟩
 ·exact fun p hp=>(List.mem_append.mp hp).elim (fun hp=>g.tk p (List.mem_append_left _ hp)) fun hp=>(List.mem_cons.mp hp).elim (fun e=>e▸g.tk q (List.mem_append_right _ (.head _))) fun hp=>g.tk p (List.mem_append_right _ (.tail _ hp))
 ·rw[aH,if_neg (ix hN).1.symm,g.gr];unfold GL.k GL.p;rw[List.map_append,List.map_append,List.map_append,List.map_append];rfl
 ·intro i p e
  by_cases hi:i=G1.length
  ·subst hi
   rw[List.getElem?_append_right (Nat.le_refl _),Nat.sub_self] at e
   rw[← Option.some.inj e,aH,if_pos rfl]
   exact⟨rfl,gq.2⟩
  ·have e2:(G1++q::G2)[i]?=some p:=by
    rw[← e]
    by_cases h:i<G1.length
    ·rw[List.getElem?_append_left h,List.getElem?_append_left h]
    ·have h':=Nat.lt_of_le_of_ne (Nat.not_lt.mp h) (Ne.symm hi)
     rw[List.getElem?_append_right (Nat.not_lt.mp h),List.getElem?_append_right (Nat.not_lt.mp h)]
     obtain⟨j,hj⟩:=Nat.exists_eq_succ_of_ne_zero (Nat.sub_ne_zero_of_lt h')
     rw[hj];rfl
   rw[aH,if_neg fun q=>hi (Nat.add_left_cancel (uO q))]
   exact g.gs i p e2
 ·intro x hx
  rw[aH,if_neg fun q=>(ix hN).2.2.2 x hx q.symm]
  exact g.sm x hx
end
end Mine
namespace Mine
open PySem PySem.SeqAt
theorem look_settle{d:D}{ns:List String}{σ:St}{x:String}(h:x ∉ ns∨∃ e,σ.lookup x=some (false,e)):(settle d ns σ).lookup x=σ.lookup x:=by
 unfold settle
 cases d.scalar with
 | true=>rfl
 | false=>
  show (freeze ns σ).lookup x=_
  rw[bg]
  rcases h with h | ⟨e,h⟩
  ·have:ns.contains x=false:=Bool.eq_false_iff.mpr fun q=>h (List.contains_iff_mem.mp q)
   rw[this]
   cases σ.lookup x with
   | none=>rfl
   | some p=>exact congrArg some (Prod.ext (Bool.and_true _) rfl)
  ·rw[h];rfl
theorem grpD_inv{cf:CF}{pl dv:D}{rest:List D}{G GF:List (D×List D)}{C:Prop}(h:lF cf pl (dv::rest) G=some GF)(K:∀ k,cf.call "cells_at" [dv,pl]=some (k,false)→k.isTK=true→lF cf pl rest (tR k dv G)=some GF→C):C:=by
 rw[lF] at h
 cases e:cf.call "cells_at" [dv,pl] with
 | none=>rw[e] at h;exact am h
 | some p=>
  rw[e] at h
  obtain⟨k,fr⟩:=p
  refine cz h fun hc h=>bG hc fun h1 h2=>?_
  cases fr with
  | true=>cases h2
  | false=>exact K k e h1 h
inductive GJ(cf:CF)(pl:D)(GF:List (D×List D))(N n:Nat)(σ₀:St)(rest:List D)(own:Own)(σ:St):Prop
 | mk (G:GL) (g:GS N σ₀ G own σ) (go:lF cf pl rest G.v=some GF) (ln:∀ q∈G,q.2.2.length+rest.length≤n) (lg:G.length+rest.length≤n)
theorem v_no{k:D}{G:GL}(h:∀ p∈G,aR p.1 k=false):∀ p∈G.v,aR p.1 k=false:=fun p hp=>(List.mem_map.mp hp).elim fun p' z=>z.2▸h p' z.1
theorem keyEq_self{k:D}(h:k.isTK=true):aR k k=true:=(pV h).elim fun c e=>e▸(j7 c c).trans (decide_eq_true rfl)
section
variable {prog:Program} {w:World} {A:Around} {base:Heap} {mg mb:Str→Option Value} {cf:CF}
variable {ent:Heap} {env:Env} {σ₀:St} {N n:Nat} {pl:D} {GF:List (D×List D)}
theorem tj(Z:Cx prog w A base mg mb cf){s:Shared}{H₁:Addr→Prop}{own own':Own}{m':Str→Option Value}{σ':St}{s3:Stmt}{k dv:D}{rest:List D}{q:D×Addr×List D}{G1 G2:GL}{h:Heap}{tk:Nat}{dw:Drawn}{E:Value→Shared→Prop}(hN:6≤N)(hn:n≤big)(c3:grp3 env.kindOf s3=true)(hk:k.isTK=true)
  (S:bi w base ent h env H₁ own' m' σ') (t:Tr s.heap env own h own') (g:GS N σ₀ (G1++q::G2) own' σ') (ho:σ'.lookup "own"=some (false,k)) (hr:σ'.lookup "row"=some (false,dv)) (hq:aR q.1 k=true) (hno:∀ p∈G1,aR p.1 k=false)
  (go:lF cf pl rest (G1.v++(q.1,q.2.2++[dv])::G2.v)=some GF) (ln:∀ p∈G1++q::G2,p.2.2.length+(dv::rest).length≤n) (lg:(G1++q::G2).length+rest.length≤n) :
  wpAny (model prog w) A (execs [s3] env) (fu w base ent env H₁ s own (GJ cf pl GF N n σ₀) (fun _ _ _=>False) rest) E { s with heap:=h,toks:=tk,drawn:=dw }:=
 k4 (C:=fun s3=>wpAny (model prog w) A (execs [s3] env) (fu w base ent env H₁ s own (GJ cf pl GF N n σ₀) (fun _ _ _=>False) rest) E { s with heap:=h,toks:=tk,drawn:=dw }) c3 fun v p c=>dH (e:=v) c fun at_ as ks cp c=>bG c fun c0 c=>je (l:=ks) c0 (dP (l:=as) c fun a c=>k5 (e:=at_) c fun recv nm ap c=>nL c fun c1=>eqb (a:=nm) c1 fun c2 c3 c4=>
  have lq:=ln q (List.mem_append_right _ (.head _))
  wpAny_execs_cons (grp_app (s:={ s with heap:=h,toks:=tk,drawn:=dw }) Z hN c3 c4 c2 S g hk ho hr hq hno (Nat.lt_of_lt_of_le (Nat.lt_of_lt_of_le (Nat.lt_add_of_pos_right (Nat.succ_pos _)) lq) hn) fun h' tk dw σ2 S2 t2 g2=>wpAny_execs_nil fun Q hn' _=>
   hn' h' tk dw own' m' σ2 (.mk _ g2 (by unfold GL.v at go ⊢;rw[List.map_append];exact go) (fun p hp=>(List.mem_append.mp hp).elim (fun hp=>Nat.le_trans (Nat.add_le_add_left (Nat.le_succ _) _) (ln p (List.mem_append_left _ hp))) fun hp=>(List.mem_cons.mp hp).elim (fun e=>by
     rw[e,List.length_append]
     exact Nat.le_trans (Nat.le_of_eq (Nat.add_assoc _ 1 _)) (Nat.le_trans (Nat.le_of_eq (by rw[Nat.add_comm 1];rfl)) lq)) fun hp=>Nat.le_trans (Nat.add_le_add_left (Nat.le_succ _) _) (ln p (List.mem_append_right _ (.tail _ hp))))
    (by rw[List.length_append] at lg ⊢;exact lg)) (t.trans t2) S2))
theorem grp_body(Z:Cx prog w A base mg mb cf)(hN:6≤N)(hgh:∀ i,N≤i→env.kindOf (Str.ofString (gh i))=none)(hn:n≤big)(hpl:σ₀.lookup "places"=some (false,pl)){s1 s2 s3:Stmt}(c1:grp1 env.kindOf s1=true)(c2:grp2 env.kindOf s2=true)(c3:grp3 env.kindOf s3=true) :
  nH prog w A base ent env "row" (GJ cf pl GF N n σ₀) (fun _ _ _=>False) [s1,s2,s3]:=fun s H₁ own m σ dv rest E hJ S=>by
 refine bj (Q:=fu w base ent env H₁ s (own.set "row" none) (GJ cf pl GF N n σ₀) (fun _ _ _=>False) rest) ?_ fun _ _ q=>jpost_nf q
 obtain⟨G,g,go,ln,lg⟩:=hJ
 refine grpD_inv go fun k hcall hk go=>?_
 have g0:GS N σ₀ G (own.set "row" none) (aC σ "row" (false,dv)):=g.other hN fun x h1 _=>⟨.inl (if_neg h1),by rw[aH,if_neg h1]⟩
 have lp:(aC σ "row" (false,dv)).lookup "places"=some (false,pl):=(g0.sm _ (by decide)).trans hpl
 have lr:(aC σ "row" (false,dv)).lookup "row"=some (false,dv):=by rw[aH,if_pos rfl]
 have hd:evF cf (vis (aC σ "row" (false,dv))) (.call "cells_at" [.var "row",.var "places"])=some (k,false):=by
  rw[kj,m4,m4,evs_nil,fK,fK,bT,bT,lr,lp];exact hcall
 refine lZ.rec (motive:=fun s1 _=>wpAny (model prog w) A (execs [s1,s2,s3] env) _ E s) (fun {p v pos} hst hc=>?_) (mP (x:="own") (e:=.call "cells_at" [.var "row",.var "places"]) c1)
 refine wpAny_execs_cons (kr Z hst hc S hd ((qC hc).swap rfl _ _ _) fun u h tk dw Sa ta=>?_)
 generalize hσa:aC (settle k (ME.call "cells_at" [.var "row",.var "places"]).names (aC σ "row" (false,dv))) "own" (false,k)=σa at Sa
 generalize hoa:(dm (own.set "row" none) k (ME.call "cells_at" [.var "row",.var "places"]).names).set "own" (pc false u)=owna at Sa ta
 have la:∀ x,x≠"own"→x="row"∨x="places"∨(x≠"row"∧x≠"places")→σa.lookup x=(aC σ "row" (false,dv)).lookup x:=fun x h1 h2=>by
  rw[← hσa,aH,if_neg h1]
  exact look_settle (h2.elim (fun e=>.inr ⟨dv,e▸lr⟩) fun h2=>h2.elim (fun e=>.inr ⟨pl,e▸lp⟩) fun h2=>.inl fun q=>eK (show x∈["row","places"] from q) h2.1 h2.2)
 have ga:GS N σ₀ G owna σa:=g0.other hN fun x h1 h2=>by
  by_cases hp:x="places"
  ·exact⟨.inr (hp▸by decide),la x h2 (.inr (.inl hp))⟩
  ·refine⟨.inl ?_,la x h2 (.inr (.inr ⟨h1,hp⟩))⟩
   rw[← hoa]
   refine (if_neg h2).trans ?_
   unfold dm
   split
   ·rfl
   ·exact if_neg fun q=>eK (show x∈["row","places"] from q) h1 hp
 have loa:σa.lookup "own"=some (false,k):=by rw[← hσa,aH,if_pos rfl]
 have lra:σa.lookup "row"=some (false,dv):=(la _ (by decide) (.inl rfl)).trans lr
 refine pL (C:=fun s2=>wpAny (model prog w) A (execs [s2,s3] env) _ E _) c2 fun v2 b2 o2 p2 c=>gT c fun hct ho2 c=>je (l:=o2) ho2 (dP (l:=b2) c fun st2 c=>?_)
 have hdt:evE cf (vis σa) (.cmp .NotIn (.var "own") (.var "groups"))=some (.bool (!(G.k.any fun x=>aR x k))):=by
  rw[ev_cmp,fK,fK,bT,bT,loa,ga.gr]
  show (mz k (.dict G.k G.p)).map (fun x=>D.bool (!x))=_
  rw[show mz k (.dict G.k G.p)=some (G.k.any fun x=>aR x k) from if_pos (mJ hk ga.tk)];rfl
 refine wpAny_execs_cons (wpAny_If (n7 (s:={ s with heap:=h,toks:=tk,drawn:=dw }) Z Sa hct hdt rfl fun h2 tk2 dw2 hk2=>?_))
 have Sb:=Sa.keeps hk2
 have tb:Tr s.heap env (own.set "row" none) h2 owna:=ta.trans (.keeps hk2)
 cases hany:G.k.any fun x=>aR x k with
 | true=>
  obtain⟨G1,q,G2,e,hq,hno⟩:=qe hany
  subst e
  refine wpAny_execs_nil (tj Z hN hn c3 hk Sb tb ga loa lra hq hno ?_ ln (Nat.le_trans (Nat.add_le_add_left (Nat.le_succ _) _) lg))
  have e:GL.v (G1++q::G2)=GL.v G1++(q.1,q.2.2)::GL.v G2:=by unfold GL.v;rw[List.map_append];rfl
  rw[e,qV (q:=(q.1,q.2.2)) hq (v_no hno)] at go
  exact go
 | false=>
  have hno:=none_of_any hany
  rw[if_pos (show (!false)=true from rfl)]
  refine iO c fun ts v pos c=>?_
  refine dP (l:=ts) c fun tt c=>?_
  refine km (e:=tt) c fun gn on sp c=>gT c fun hcg hco hcl=>?_
  have hG:G.length<n:=Nat.lt_of_lt_of_le (Nat.lt_add_of_pos_right (Nat.succ_pos _)) lg
  refine wpAny_execs_cons (grp_new (s:={ s with heap:=h2,toks:=tk2,drawn:=dw2 }) Z hN hgh hcg hco hcl Sb ga hk loa hno (Nat.lt_of_lt_of_le hG hn) fun h3 tk3 dw3 own3 m3 σ3 b S3 t3 g3 l3=>wpAny_execs_nil ?_)
  refine tj (q:=(k,b,[])) (G2:=[]) Z hN hn c3 hk S3 (tb.trans t3) g3 ((l3 _ (by decide) fun i=>(ix hN).2.2.1.symm).trans loa) ((l3 _ (by decide) fun i=>(ix hN).2.1.symm).trans lra) (keyEq_self hk) hno ?_ (fun p hp=>(List.mem_append.mp hp).elim (ln p) fun hp=>?_) ?_
  ·rw[qU (v_no hno)] at go
   exact go
  ·rw[List.mem_singleton.mp hp]
   exact Nat.le_trans (Nat.add_le_add_right (Nat.zero_le _) _) lg
  ·rw[List.length_append]
   exact Nat.le_trans (Nat.le_of_eq (by rw[Nat.add_assoc,Nat.add_comm [_].length];rfl)) lg
theorem ptrs_lists{P:Params}{h:Heap}{H:Addr→Prop}{G:GL}{l:List Value}(hG:∀ q∈G,Rep P h H (.ref q.2.1) (.list q.2.2))(r:aq P h H l G.p):aq P h H l (G.map fun q=>.list q.2.2):=by
 induction G generalizing l with
 | nil=>exact r
 | cons q G ih=>
  cases r with
  | mk h1 h2=>
   have h1:_=Value.ref q.2.1:=h1
   subst h1
   exact .cons (hG q (.head _)) (ih (fun q hq=>hG q (.tail _ hq)) h2)
theorem lu{σ:St}{x:String}{p:Bool×D}(e:(σ.filter fun p=>iv.contains p.1).lookup x=some p):x∈iv∧σ.lookup x=some p:=by
 induction σ with
 | nil=>cases e
 | cons q σ ih=>
  rw[List.filter_cons] at e
  rw[List.lookup_cons]
  cases hx:x == q.1 with
  | true=>
   have e1:=eq_of_beq hx
   cases hc:iv.contains q.1 with
   | true=>
    rw[hc,if_pos rfl,List.lookup_cons,hx] at e
    exact⟨e1▸List.contains_iff_mem.mp hc,e⟩
   | false=>
    rw[hc,if_neg Bool.false_ne_true] at e
    have:=(ih e).1
    rw[e1,← List.contains_iff_mem,hc] at this;cases this
  | false=>
   split at e
   ·rw[List.lookup_cons,hx] at e;exact ih e
   ·exact ih e
theorem grp_end{s:Shared}{h:Heap}{H₀:Addr→Prop}{own:Own}{m:Str→Option Value}{σ:St}(hN:6≤N){rest:List D}(hr:rest=[])(J:GJ cf pl GF N n σ₀ rest own σ)(S:bi w base ent h env H₀ own m σ) :
  ∃ own',(∀ x a,own' x=some a→own x=some a)∧bi w base ent h env H₀ own' m (uM σ₀ GF):=by
 subst hr
 obtain⟨G,g,go,_,_⟩:=J
 have go:G.v=GF:=Option.some.inj go
 subst go
 have S1:=S.freeze ("groups"::(List.range G.length).map fun i=>gh (N+i))
 have hx:∀ x∈iv,x ∉ "groups"::(List.range G.length).map fun i=>gh (N+i):=fun x hx q=>(List.mem_cons.mp q).elim (fun e=>absurd (e▸hx:"groups"∈iv) (by decide)) fun q=>(List.mem_map.mp q).elim fun i z=>(ix hN).2.2.2 x hx z.2
 generalize hns:"groups"::(List.range G.length).map (fun i=>gh (N+i))=ns at S1 hx
 have fz:∀ x∈ns,∀ d,σ.lookup x=some (true,d)→(freeze ns σ).lookup x=some (false,d):=fun x hx d e=>by rw[bg,e,Option.map_some,List.contains_iff_mem.mpr hx];rfl
 have hlist:∀ q∈G,Rep w.params h (Hot env H₀ (own.less ns)) (.ref q.2.1) (.list q.2.2):=fun q hq=>by
  obtain⟨i,hi,e⟩:=List.getElem_of_mem hq
  have gi:=g.gs i q (e▸List.getElem?_eq_getElem hi)
  obtain⟨v,h1,h2⟩:=S1.plain _ _ (fz _ (hns▸.tail _ (List.mem_map.mpr ⟨i,List.mem_range.mpr hi,rfl⟩)) _ gi.1)
  obtain⟨a,h3,h4,_⟩:=S.owned _ _ gi.1
  have ea:a=q.2.1:=Option.some.inj (h3.symm.trans gi.2)
  exact ea▸Option.some.inj (h1.symm.trans h4)▸h2
 obtain⟨v,hm,rv⟩:=S1.plain _ _ (fz "groups" (hns▸.head _) _ g.gr)
 have rd:Rep w.params h (Hot env H₀ (own.less ns)) v (.dict (G.v.map (·.1)) (G.v.map fun q=>.list q.2)):=by
  have e1:G.v.map (·.1)=G.k:=by unfold GL.v GL.k;rw[List.map_map];rfl
  have e2:G.v.map (fun q=>D.list q.2)=G.map fun q=>.list q.2.2:=by unfold GL.v;rw[List.map_map];rfl
  rw[e1,e2]
  exact nM.rec (motive:=fun v _=>nM w.params h (Hot env H₀ (own.less ns)) G.k _ _ v) (fun ho hn hl h1 h2 hh hk hd hs=>.mk ho hn hl h1 (ptrs_lists hlist h2) hh hk hd hs) rv
 refine⟨own.less ns,fun _ _=>dM,{ S1 with plain:=fun y d e=>iW e (fun ey ep=>?_) fun _ e=>?_,owned:=fun y d e=>iW e (fun _ ep=>nomatch (Prod.mk.inj ep).1) fun _ e=>?_ }⟩
 ·exact⟨v,ey▸hm,(Prod.mk.inj ep).2▸rd⟩
 ·have q:=lu e
  refine S1.plain y d ?_
  rw[bg,(g.sm y q.1).trans q.2];rfl
 ·have q:=lu e
  refine S1.owned y d ?_
  rw[bg,(g.sm y q.1).trans q.2,Option.map_some,show ns.contains y=false from Bool.eq_false_iff.mpr fun z=>hx y q.1 (List.contains_iff_mem.mp z)];rfl
theorem isNew_inv{o:Option (Bool×D)}(h:uG o=true):o=some (true,.dict [] []):=by
 unfold uG at h
 split at h
 ·rfl
 ·cases h
theorem xi_grp{σ:St}{r:Fl×St}{C:Prop}(h:exS cf .grp σ=some r)(K:∀ rs pl GF,σ.lookup "rows"=some (false,.list rs)→σ.lookup "places"=some (false,pl)→σ.lookup "groups"=some (true,.dict [] [])→lF cf pl rs []=some GF→(.next,uM σ GF)=r→C):C:=by
 rw[tY] at h
 cases hg:uL cf σ with
 | none=>rw[hg] at h;exact am h
 | some σ'=>
  rw[hg] at h
  unfold uL at hg
  split at hg
  ·split at hg
   ·exact cz hg fun h1 hg=>bB hg fun GF h2 e=>K _ _ GF ‹_› ‹_› (isNew_inv h1) h2 (e▸Option.some.inj h)
   ·cases hg
  ·cases hg
theorem ss_grp(Z:Cx prog w A base mg mb cf):SS prog w A base cf .grp:=fun s env st H₀ ent own m σ r E hc S hev=>xi_grp hev fun rs pl GF hrs hpl hgr hD er=>by
 obtain⟨N0,hN0⟩:=gh_fresh env.scope.names
 have hN:6≤max N0 6:=Nat.le_max_right _ _
 have hgh:∀ i,max N0 6≤i→env.kindOf (Str.ofString (gh i))=none:=fun i hi=>hN0 i (Nat.le_trans (Nat.le_max_left _ _) hi)
 have hd:evE cf (vis σ) (.var "rows")=some (.list rs):=by rw[fK,bT,hrs];rfl
 have hlen:rs.length≤big:=(S.plain _ _ hrs).elim fun v q=>q.2.listE (C:=fun _=>rs.length≤big) fun _ _ _ _ _ hl _=>hl
 have fz:∀ x d,σ.lookup x=some (false,d)→(freeze ["rows"] σ).lookup x=some (false,d):=fun x d e=>by rw[bg,e];rfl
 have fy:∀ x,x≠"rows"→(freeze ["rows"] σ).lookup x=σ.lookup x:=fun x hx=>by
  rw[bg,show["rows"].contains x=false from Bool.eq_false_iff.mpr fun q=>hx (List.mem_singleton.mp (List.contains_iff_mem.mp q))]
  cases σ.lookup x with
  | none=>rfl
  | some p=>exact congrArg some (Prod.ext (Bool.and_true _) rfl)
 have fs:∀ x∈iv,(freeze ["rows"] σ).lookup x=σ.lookup x:=fun x _=>(Classical.em (x="rows")).elim (fun e=>e▸(fz _ _ hrs).trans hrs.symm) (fy x)
 refine er▸nv (C:=fun st=>wpAny (model prog w) A (exec st env) (aU w base ent env H₀ s own (.next,uM σ GF)) E s) hc fun t it b o p c=>bG c fun c0 c=>je (l:=o) c0 (bI (e:=t) c fun y yp c=>nK c fun c1=>eqb (a:=y) c1 fun hst hset hcs c=>c3_inv (l:=b) c fun s1 s2 s3 c=>gT c fun b1 b2 b3=>
  bj (mV (ns:=["rows"]) (grp_body (ent:=ent) (GF:=GF) Z hN hgh hlen (σ₀:=σ) hpl b1 b2 b3) S hst hset (fun Q k=>lj Z S hcs hd fun u h₁ tk₁ dw₁ hk rv=>lN (mL (s:={ s with heap:=h₁,toks:=tk₁,drawn:=dw₁ }) rv Z.hh rfl) fun I h tk dw k12 fr ex W=>k I h₁ h tk dw hk k12 fr ex W)
   (.mk [] ⟨fun _ q=>(nomatch q),(fy _ (by decide)).trans hgr,fun i q e=>(by rw[List.getElem?_nil] at e;cases e),fs⟩ hD (fun _ q=>nomatch q) (Nat.le_of_eq (Nat.zero_add _)))) fun f s' q=>?_)
 refine q _ (fun h tk dw own' m' σ' J t S'=>?_) fun _ _ _ _ _ _ _ k=>k.elim
 obtain⟨own2,h1,S2⟩:=grp_end (s:=s) hN rfl J S'
 exact aU.nx (t.trans (.of (fun _ _ e=>e) h1)) S2
end
end Mine
namespace Mine
open PySem PySem.SeqAt
section
variable {prog:Program} {w:World} {A:Around} {base:Heap} {mg mb:Str→Option Value} {cf:CF}
theorem all_S1(Z:Cx prog w A base mg mb cf)(ms:MS):S1 prog w A base cf ms:=
 MS.rec (motive_1:=S1 prog w A base cf) (motive_2:=S2 prog w A base cf) (fun x e=>s1 (ss_assign Z x e) rfl) (fun x e=>s1 (ss_append Z x e) rfl) (fun x k e=>s1 (ss_setk Z x k e) rfl) (fun c t f ht hf=>⟨ss_ite Z ht.1 hf.1,fun _ _ _ e=>(MS.ite.inj e).2.2▸hf.1⟩) (fun x src body h=>s1 (ss_for Z h) rfl) (fun e=>s1 (ss_ret Z e) rfl)
  (s1 (fun s env st H₀ ent own m σ r E hc S hev=>am hev) rfl)
  (s1 (ss_grp Z) rfl)
  (fun x src body h=>s1 (ss_forr Z h.1) rfl)
  (fun e=>s1 (ss_expr Z e) rfl)
  (fun c body h=>s1 (ss_while Z h.1) rfl)
  s2_nil (fun a r ha hr=>s2_cons Z ha hr) ms
theorem all_S(Z:Cx prog w A base mg mb cf)(ms:MS):SS prog w A base cf ms:=(all_S1 Z ms).1
theorem all_Ss(Z:Cx prog w A base mg mb cf)(ms:List MS):SSs prog w A base cf ms:=List.rec (motive:=SSs prog w A base cf) oV (fun a r hr=>p9 (all_S Z a) hr) ms
end
end Mine
namespace Mine
open PySem PySem.SeqAt

noncomputable def nG(h:Heap)(cd:Value)(q:Str):Prop:=∃ c o vs t,cd=.ref c∧gat h c=some o∧o.cls=.type "code"∧o.data=.fields vs∧vs[1]?=some (.str q t)
theorem nG.rec{h:Heap}{cd:Value}{q:Str}(x:nG h cd q):h.CodeRec cd q:=x.elim fun c x=>x.elim fun o x=>x.elim fun vs x=>x.elim fun t x=>⟨c,o,vs,t,x.1,Heap.of_gt' x.2.1 (by rw[x.2.2.1];nofun),x.2.2.2⟩
theorem nG.keeps{h h':Heap}{cd:Value}{q:Str}(x:nG h cd q)(hk:KH h h'):nG h' cd q:=x.elim fun c x=>x.elim fun o x=>x.elim fun vs x=>x.elim fun t x=>⟨c,o,vs,t,x.1,hk _ _ x.2.1,x.2.2⟩
structure FnAt(base:Heap)(mg:Str→Option Value)(f:String)(fn:Fn)(a:Addr)(o:Obj)(fd:FuncData)(body:List Stmt):Prop where
 f1:mg (Str.ofString f)=some (.ref a)
 f2:gat base a=some o
 f3:o.data=.func fd
 f4:fd.body=.stmts body
 f5:fd.closure=[]
 f6:fd.globals=mainGlobals
 f7:fd.builtins=builtinsNs
 f8:nG base fd.code fd.qualname
 f9:fd.params.posonlyargs=[]
 f10:fd.params.kwonlyargs=[]
 f11:fd.params.vararg=none
 f12:fd.params.kwarg=none
 f13:fd.defaults=.none
 f14:fd.params.args.map (·.arg)=fn.params.map Str.ofString
 f15:fn.params.Nodup
 f16:fd.scope.kind=.function
 f17:fd.scope.isCoroutine=false
 f18:fd.scope.isGenerator=false
 f19:(fd.scope.names.map (·.1)).Nodup
 f20:(∀ p∈fd.scope.names,p.2≠.free)
 f21:(∀ x∈fn.params,fd.scope.names.lookup (Str.ofString x)=some .local∨fd.scope.names.lookup (Str.ofString x)=some .cell)
 f22:eI (fun x=>fd.scope.names.lookup x) body fn.body=true
 f23:(kG (fun x=>fd.scope.names.lookup x)=true→fd.code=.ref oc∧fd.qualname=rP)
structure FnOk(base:Heap)(mg:Str→Option Value)(f:String)(fn:Fn):Prop where
 ok:∃ a o fd body,FnAt base mg f fn a o fd body

theorem oh{r:List (Str×Value)}{n:Str}(h:¬ n∈r.map (·.1)):r.lookup n=none:=by
 cases q:r.lookup n with
 | none=>rfl
 | some c=>exact absurd (List.mem_map_of_mem (f:=(·.1)) (mem_of_lookup q)) h
theorem bindL_eq{k:KD}(binds:List (Str×Value))(m:Str→Option Value)(x:Str)(hn:(binds.map (·.1)).Nodup)(hk:k x=some .local):bindL k binds m x=(binds.lookup x).or (m x):=by
 induction binds generalizing m with
 | nil=>rfl
 | cons p r ih=>
  have hn:=List.nodup_cons.mp hn
  unfold bindL
  rw[ih _ hn.2,aQ]
  by_cases h:x=p.1
  ·subst h
   rw[oh hn.1,if_pos rfl,if_pos hk]
   exact if_pos rfl
  ·rw[if_neg h]
   split
   ·exact congrArg _ (if_neg h)
   ·rfl
theorem bindC_eq{k:KD}(binds:List (Str×Value))(m:Str→Option Value)(x:Str)(hn:(binds.map (·.1)).Nodup)(hk:k x≠some .local):bindC k binds m x=(binds.lookup x).or (m x):=by
 induction binds generalizing m with
 | nil=>rfl
 | cons p r ih=>
  have hn:=List.nodup_cons.mp hn
  unfold bindC
  rw[ih _ hn.2,aQ]
  by_cases h:x=p.1
  ·subst h
   rw[oh hn.1,if_pos rfl,if_neg hk]
   exact if_pos rfl
  ·rw[if_neg h]
   split
   ·rfl
   ·exact congrArg _ (if_neg h)
theorem lookup_zip_map{h:Heap}{P:Params}{H:Addr→Prop}{ns:List String}{vs:List Value}{ds:List D}{x:String}{d:D}(r:aq P h H vs ds)(e:(ns.zip ds).lookup x=some d):∃ v,((ns.map Str.ofString).zip vs).lookup (Str.ofString x)=some v∧Rep P h H v d:=by
 induction ns generalizing vs ds with
 | nil=>cases e
 | cons n ns ih=>
  cases ds with
  | nil=>cases e
  | cons d' ds=>
   refine dg.rec (motive:=fun vs _=>∃ v,(((n::ns).map Str.ofString).zip vs).lookup (Str.ofString x)=some v∧Rep P h H v d) (fun hv hr=>?_) r
   rw[List.zip_cons_cons,List.lookup_cons] at e
   rw[List.map_cons,List.zip_cons_cons,aQ]
   by_cases h:x=n
   ·subst h
    rw[beq_self_eq_true] at e
    exact⟨_,if_pos rfl,Option.some.inj e▸hv⟩
   ·rw[show (x == n)=false from beq_eq_false_iff_ne.mpr h] at e
    rw[if_neg (fun q=>h (cW q))]
    exact ih hr e
theorem jZ(x:String)(ns:List String)(ds:List D):((ns.zip ds).map fun p=>(p.1,(false,p.2))).lookup x=((ns.zip ds).lookup x).map fun d=>(false,d):=by
 generalize ns.zip ds=l
 induction l with
 | nil=>rfl
 | cons p l ih=>
  rw[List.map_cons,List.lookup_cons,List.lookup_cons]
  cases x == p.1 with
  | true=>rfl
  | false=>exact ih

section
variable {prog:Program} {w:World} {base:Heap} {mg mb:Str→Option Value} {P:List (String×Fn)} {X:CF}
theorem uz{a b k j n m l:Nat}(h:a≤b+k)(h2:b+m<l)(h3:k+j+n≤m:=by decide):a+j+n<l:=Nat.lt_of_le_of_lt (Nat.le_trans (Nat.add_le_add_right (Nat.add_le_add_right h j) n) (by rw[Nat.add_assoc b,Nat.add_assoc b];exact Nat.add_le_add_left h3 b)) h2
theorem call_fn(G:GOk mg mb base){A₀:Around}{cf:CF}(hh:A₀.handled=none)(hd:A₀.depth+10<recursionLimit)(hu:A₀.units+40<cLine)(C:∀ A,rB A₀ A→∀ env,dU prog w base mg cf (A.deeper env)){f:String}{fn:Fn}(F:FnOk base mg f fn){ds:List D}(hl:ds.length=fn.params.length)
  {r:Fl×St} (hev:a8 cf fn.body ((fn.params.zip ds).map fun p=>(p.1,(false,p.2)))=some r) {d:D} {fr:Bool} (hrn:r.1=.next→d=.none∧fr=false) (hrr:∀ fr' d',r.1=.ret fr' d'→d'=d∧fr'=fr) :
  ∃ a o fd,mg (Str.ofString f)=some (.ref a)∧gat base a=some o∧o.data=.func fd ∧
  ∀ A,rB A₀ A→∀ (s:Shared) (H:Addr→Prop) (vs:List Value) (E:Value→Shared→Prop),HOk base s.heap H→aq w.params s.heap H vs ds→wpAny (model prog w) A (PySem.call (.ref a) vs) (bX w s H d fr) E s:=by
 refine F.ok.elim fun a q=>q.elim fun o q=>q.elim fun fd q=>q.elim fun body q=>q.rec fun f1 f2 f3 f4 f5 f6 f7 f8 f9 f10 f11 f12 f13 f14 f15 f16 f17 f18 f19 f20 f21 f22 f23=>⟨a,o,fd,f1,f2,f3,fun A hN s H vs E hw hvs=>?_⟩
 replace hh:A.handled=none:=hN.handled.trans hh
 have hrm:nD (A.deeper default):=⟨uz hN.units hu,uz hN.depth hd⟩
 replace hd:A.depth<recursionLimit:=Nat.lt_of_le_of_lt hN.depth (Nat.lt_of_le_of_lt (Nat.add_le_add_left (by decide) _) hd)
 have hnames:(fd.params.args.map (·.arg)).Nodup:=f14▸List.pairwise_map.mpr (f15.imp fun hne e=>hne (cW e))
 have hlen:(fd.params.args.map (·.arg)).length=vs.length:=by rw[f14,List.length_map,hvs.length,hl]
 have hbn:((((fd.params.args.map (·.arg)).zip vs)).map (·.1))=fd.params.args.map (·.arg):=lM hlen
 have hnb:((((fd.params.args.map (·.arg)).zip vs)).map (·.1)).Nodup:=hbn.symm▸hnames
 have cellAt:∀ x,fd.scope.names.lookup x=some .cell→∃ c,(callEnvC fd s.heap.objs.size a).cells.lookup x=some c:=fun x hx=>(en fd.scope.names (s.heap.objs.size+1) x (mem_of_lookup hx)).elim fun c hc=>dq hc
 refine wpAny_call (codeAny_call_cells (binds:=(fd.params.args.map (·.arg)).zip vs) hd (Heap.of_gt (hw.keep _ _ f2) (bZ (by rw[f3];nofun))) f3 (NoLimit.keepG G.lim hw.keep) (f8.keeps hw.keep).rec f4 (iP (vals:=vs) f9 f10 f11 f12 f13 hnames hlen) f5 (fun x hx=>?_) (fun s₁ ic=>?_) f17 f18 f16)
 ·have hx':x.1∈fn.params.map Str.ofString:=f14▸hbn▸List.mem_map_of_mem hx
  exact (List.mem_map.mp hx').elim fun z q=>q.2▸(f21 z q.1).imp id fun e=>⟨e,(cellAt _ e).elim fun c h=>by rw[show (cellsFrom (s.heap.objs.size+1) fd.scope.names []).lookup (Str.ofString z)=some c from h];rfl⟩
 ·obtain⟨h₁,tk₁,rfl,hk⟩:=ic.toInCall.done
  replace hk:=Heap.gt_up hk
  have cge:∀ x c,(callEnvC fd s.heap.objs.size a).cells.lookup x=some c→@LT.lt Nat _ s.heap.objs.size c:=fun x c hc=>ic.above x c (mem_of_lookup hc)
  have R:bp h₁ (callEnvC fd s.heap.objs.size a) (fun x=>((fd.params.args.map (·.arg)).zip vs).lookup x):=by
   refine⟨f16,f6,f7,⟨_,ic.toInCall.ns,fun x hx=>?_⟩,fun x hx=>?_,fun x y c h1 h2=>name_of_addr ic.apart (mem_of_lookup h1) (mem_of_lookup h2),fun x c hc e=>Nat.lt_irrefl _ (e▸cge x c hc),fun x c hc=>lU (ic.cell x c hc),fun ho=>⟨(f23 ho).1,by show fd.qualname++_=_;rw[(f23 ho).2];rfl⟩⟩
   ·rw[bindL_eq _ _ x hnb hx,Option.or_none]
   ·have hcell:fd.scope.names.lookup x=some .cell:=hx.elim id fun q=>absurd rfl (f20 _ (mem_of_lookup q))
    refine (cellAt x hcell).elim fun c hc=>⟨c,hc,?_⟩
    have:=ic.cell x c hc
    rwa [bindC_eq _ _ x hnb (by rw[show (callEnvC fd s.heap.objs.size a).kindOf x=_ from hcell];nofun),Option.or_none] at this
  have frn:∀ b,frm (callEnvC fd s.heap.objs.size a) b→gat s.heap b=none:=fun b q=>q.elim (fun q=>q▸cA _) fun q=>q.elim fun x q=>Heap.gt_none_of_le (Nat.le_of_lt (cge x b q))
  have hot:∀ b,Hot (callEnvC fd s.heap.objs.size a) H (fun _=>none) b→H b∨frm (callEnvC fd s.heap.objs.size a) b:=fun b q=>q.imp id fun q=>q.elim id fun q=>q.elim fun _ e=>am e
  have S:bi w base s.heap h₁ (callEnvC fd s.heap.objs.size a) H (fun _=>none) (fun x=>((fd.params.args.map (·.arg)).zip vs).lookup x) ((fn.params.zip ds).map fun p=>(p.1,(false,p.2))):=by
   refine⟨R,fun x d' e=>?_,fun x d' e=>?_,⟨fun b o' e=>hk b o' (hw.keep b o' e),fun b q=>(hot b q).elim (fun q=>(hw.ex b q).elim fun b' z=>z.elim fun o' z=>⟨b',o',z.1,hk _ _ z.2⟩) fun q=>(ez R q).elim fun o' ho'=>⟨b,o',Nat.le_refl _,ho'⟩,fun b o' e q=>(hot b q).elim (hw.off b o' e) fun q=>bR (hw.keep b o' e) (frn b q)⟩,hk,frn,fun x c e=>am e,fun x y c e=>am e,fun x c e=>am e⟩
   ·rw[jZ] at e
    exact bB e fun d'' e1 e2=>(lookup_zip_map (ns:=fn.params) hvs e1).elim fun v q=>⟨v,f14▸q.1,(Prod.mk.inj e2).2▸q.2.mono (fun b o' _ e=>hk b o' e) fun b o' e q=>(hot b q).elim id fun q=>bR e (frn b q)⟩
   ·rw[jZ] at e
    exact bB e fun _ _ e2=>nomatch (Prod.mk.inj e2).1
  exact rG (all_Ss ⟨G,C A hN (callEnvC fd s.heap.objs.size a),hh,⟨hrm.units,hrm.depth⟩⟩ (A:=A.deeper (callEnvC fd s.heap.objs.size a)) fn.body { s with heap:=h₁,toks:=tk₁ } (callEnvC fd s.heap.objs.size a) body H s.heap (fun _=>none) _ _ r _ f22 S hev)
   (fun h' tk' dw' own' m' e _ S'=>⟨.mk h' tk' dw' S'.keep,(hrn e).1▸rfl,fun q=>nomatch (hrn e).2.symm.trans q⟩) fun h' tk' dw' fr' d' v e _ R=>(hrr _ _ e).1▸(hrr _ _ e).2▸⟨.mk h' tk' dw' R.keep,R.rep,R.fr⟩

theorem AOk.zero{A:Around}{n:Nat}(h:AOk A n):AOk A 0:=⟨h.handled,Nat.lt_of_le_of_lt (Nat.add_le_add_right (Nat.add_le_add_left (Nat.zero_le _) _) _) h.depth,Nat.lt_of_le_of_lt (Nat.add_le_add_right (Nat.add_le_add_left (Nat.zero_le _) _) _) h.units⟩
theorem AOk.deeper{A A':Around}{n:Nat}(h:AOk A (n+1))(hN:rB A A')(env:Env):AOk (A'.deeper env) n:=⟨hN.handled.trans h.handled,Nat.lt_of_le_of_lt (by
  have:=hN.depth
  show A'.depth+1+2 * n+20≤A.depth+2 * (n+1)+20
  omega) h.depth,Nat.lt_of_le_of_lt (by
  have:=hN.units
  show A'.units+3+13 * n+100≤A.units+13 * (n+1)+100
  omega) h.units⟩
theorem callN_sound(G:GOk mg mb base)(HF:∀ f fn,P.lookup f=some fn→FnOk base mg f fn)(HX:∀ A,AOk A 0→dU prog w base mg X A)(n:Nat):∀ (A:Around),AOk A n→dU prog w base mg (al P X n) A:=by
 induction n with
 | zero=>exact fun A hA=>⟨fun f ds d fr h=>am h,(HX A hA).glob⟩
 | succ n ih=>
  refine fun A hA=>⟨fun f ds d fr h=>?_,(HX A hA.zero).glob⟩
  simp only[al] at h
  cases hf:P.lookup f with
  | none=>rw[hf] at h;exact (HX A hA.zero).call f ds d fr h
  | some fn=>
   rw[hf] at h
   refine cz h fun hl h=>?_
   have hd:A.depth+10<recursionLimit:=Nat.lt_of_le_of_lt (Nat.add_le_add (Nat.le_add_right _ _) (by decide)) hA.depth
   have hu:A.units+40<cLine:=Nat.lt_of_le_of_lt (Nat.add_le_add (Nat.le_add_right _ _) (by decide)) hA.units
   cases he:a8 (al P X n) fn.body ((fn.params.zip ds).map fun p=>(p.1,(false,p.2))) with
   | none=>rw[he] at h;exact am h
   | some r=>
    rw[he] at h
    obtain⟨fl,σ⟩:=r
    refine call_fn G hA.handled hd hu (fun A' hN env=>ih _ (hA.deeper hN env)) (HF f fn hf) hl he ?_ ?_
    ·intro q
     have q:fl=.next:=q
     subst q
     exact⟨(Prod.mk.inj (Option.some.inj h)).1.symm,(Prod.mk.inj (Option.some.inj h)).2.symm⟩
    ·intro fr' d' q
     have q:fl=.ret fr' d':=q
     subst q
     exact Prod.mk.inj (Option.some.inj h)
end
end Mine
namespace Mine
open PySem PySem.SeqAt PySem.W PyProof.Rows

noncomputable def chkFn(d:DefRec)(fn:Fn):Bool:=
 (d.params.posonlyargs.isEmpty&&d.params.kwonlyargs.isEmpty&&d.params.vararg.isNone&&d.params.kwarg.isNone&&d.params.args.map (·.arg) == fn.params.map Str.ofString)&&(decide fn.params.Nodup &&
 d.scope.kind == .function&&!d.scope.isCoroutine&&!d.scope.isGenerator&&decide (d.scope.names.map (·.1)).Nodup)&&(d.scope.names.all (fun p=>p.2 != .free) &&
 fn.params.all (fun x=>d.scope.names.lookup (Str.ofString x) == some .local||d.scope.names.lookup (Str.ofString x) == some .cell)&&eI (fun x=>d.scope.names.lookup x) d.body fn.body&&(!kG (fun x=>d.scope.names.lookup x)||d.name == rP))
noncomputable def pK(recs:List DefRec)(P:List (String×Fn)):Bool:=P.all fun q=>match recs.find? (fun d=>d.name == Str.ofString q.1) with
 | some d=>chkFn d q.2
 | none=>false
noncomputable def lX(p:Program)(loose:List Str):Bool:=((recsOf p).map (·.name)).contains rP&&cD.all fun f=>!startupNames.contains (Str.ofString f)&&!loose.contains (Str.ofString f)&&!((recsOf p).map (·.name)).contains (Str.ofString f)&&!((litsOf p).map (·.1)).contains (Str.ofString f)&&!((clssOf p loose).map (·.name)).contains (Str.ofString f)

theorem mem_of_lookupS{α:Type}{l:List (String×α)}{x:String}{c:α}(h:l.lookup x=some c):(x,c)∈l:=by
 induction l with
 | nil=>cases h
 | cons p l ih=>
  rw[List.lookup_cons] at h
  cases e:x == p.1 with
  | true=>rw[e] at h;exact (show (x,c)=p from Prod.ext (eq_of_beq e) (Option.some.inj h).symm)▸.head _
  | false=>rw[e] at h;exact .tail _ (ih h)

noncomputable def TbOk(mg:Str→Option Value)(h:Heap):Prop:=∃ a o fd c vs,mg rP=some (.ref a)∧h.get? a=some o∧o.data=.func fd∧fd.code=.ref oc∧h.get? oc=some c∧c.data=.fields vs∧vs[11]?=some (.ref tb)
theorem TbOk.keeps{mg:Str→Option Value}{h h':Heap}(x:TbOk mg h)(hk:∀ b o,h.get? b=some o→h'.get? b=some o):TbOk mg h':=
 x.elim fun a x=>x.elim fun o x=>x.elim fun fd x=>x.elim fun c x=>x.elim fun vs x=>⟨a,o,fd,c,vs,x.1,hk _ _ x.2.1,x.2.2.1,x.2.2.2.1,hk _ _ x.2.2.2.2.1,x.2.2.2.2.2⟩
theorem cRef_inv{v:Option Value}{f:Addr→Bool}{C:Prop}(h:cRef v f=true)(k:∀ a,v=some (.ref a)→f a=true→C):C:=by
 cases v with
 | none=>cases h
 | some v=>cases v with
  | ref a=>exact k a rfl h
  | _=>cases h
theorem rm{v:Option Obj}{f:Data→Bool}{C:Prop}(h:cObj v f=true)(k:∀ o,v=some o→f o.data=true→C):C:=by
 cases v with
 | none=>cases h
 | some v=>exact k v rfl h
theorem tb_of(s:Shared)(e:tbAt s=true):TbOk (s.heap.nsMap mainGlobals) s.heap:=by
 refine cRef_inv e fun a ha e=>rm e fun o ho e=>?_
 generalize hd:o.data=dt at e
 cases dt with
 | func fd=>
  refine bG e fun e1 e=>rm e fun c hc e=>?_
  generalize hd2:c.data=dt at e
  cases dt with
  | fields vs=>exact⟨a,o,fd,c,vs,ha,ho,hd,eq_of_beq e1,hc,hd2,eq_of_beq e⟩
  | _=>cases e
 | _=>cases e
theorem lam_of{p:Program}{loose:List Str}{mean:ExcName→Option Value}{mg mb:Str→Option Value}{h:Heap}(T:Top p loose mean mg mb h)(hB:lX p loose=true)(hT:TbOk mg h):h.IsCode oc tb #[]∧h.TableAt oc tb #[]∧h.BuiltinsAt mg tb:=by
 refine Classical.byContradiction fun hG=>bG hB fun hB _=>?_
 obtain⟨d,hd,hn⟩:=List.mem_map.mp (List.contains_iff_mem.mp hB)
 obtain⟨a',o',fd',c,Pl,g1,g2,g3,g4,g5,g6⟩:=T.tab d hd
 obtain⟨a,o,fd,oc',vs,q1,q2,q3,q4,q5,q6,q7⟩:=hT
 rw[hn,q1] at g1;cases g1
 rw[q2] at g2;cases g2
 rw[q3] at g3;cases g3
 have e1:c=oc:=(Value.ref.inj ((show Value.ref oc=Value.ref c from q4.symm.trans g4))).symm
 subst e1
 obtain⟨o1,v1,r1,_,r2,r3⟩:=g6.1
 rw[q5] at r1;cases r1
 rw[q6] at r2;cases r2
 have e2:Pl=tb:=(Value.ref.inj (Option.some.inj (q7.symm.trans r3))).symm
 subst e2
 obtain⟨bm,ob,b1,b2,b3,b4,b5,b6⟩:=T.bmain
 refine hG ⟨g5,g6,bm,ob,b1,b2,fun q=>?_,fun q=>?_,b3,b4,b5,b6⟩
 ·obtain⟨o,es,ep,e,hd,_⟩:=T.g
  rw[q,e] at b3;cases b3;rw[hd] at b6;cases b6
 ·rw[q,g6.2] at b3;cases b3;cases b4

theorem notT:∀ {b:Bool},(!b)=true→b=false
 | false,_=>rfl
theorem fnOk_of{p:Program}{loose:List Str}{mean:ExcName→Option Value}{mg mb:Str→Option Value}{h:Heap}(T:Top p loose mean mg mb h)(htb:TbOk mg h)(htt:h.TableAt oc tb #[]){P:List (String×Fn)}(hP:pK (recsOf p) P=true){f:String}{fn:Fn}(hf:P.lookup f=some fn):FnOk h mg f fn:=by
 refine Classical.byContradiction fun hG=>?_
 have this:=List.all_eq_true.mp hP _ (mem_of_lookupS hf)
 dsimp only at this
 cases hd:(recsOf p).find? (fun d=>d.name == Str.ofString f) with
 | none=>rw[hd] at this;cases this
 | some d=>
  rw[hd] at this
  have hn:d.name=Str.ofString f:=eq_of_beq (List.find?_some (p:=fun d:DefRec=>d.name == Str.ofString f) hd)
  have hm:=List.mem_of_find?_eq_some hd
  obtain⟨a,o,pm,code,doc,h1,h2,h3,h4⟩:=T.fn d hm
  refine gT this fun k1 k2 k3=>nK k1 fun c1 c2 c3 c4 c5=>nK k2 fun c6 c7 c8 c9 c10=>nL k3 fun c11 c12 c13 c14=>?_
  have h5:nG h code d.name:=by
   obtain⟨a',o',fd',c,Pl,g1,g2,g3,g4,_,⟨oc,vc,g5,g6,_⟩,_⟩:=T.tab d hm
   rw[h1] at g1;cases g1
   rw[h2] at g2;cases g2
   rw[h3] at g3;cases g3
   obtain⟨c',o'',vs,t,q1,q2,q3,q4⟩:=h4
   have q5:c'=c:=Value.ref.inj (show Value.ref c'=Value.ref c from q1.symm.trans g4)
   subst q5
   rw[q2] at g5;cases g5
   have hne:c'≠tb:=fun q=>by
    rw[q,htt.2] at q2
    rw[← Option.some.inj q2] at g6;cases g6
   exact⟨c',_,vs,t,q1,by rw[Heap.gt_ne hne];exact q2,g6,q3,q4⟩
  refine hG ⟨a,o,_,d.body,hn▸h1,Heap.gt_of h2 (bZ (by rw[h3];nofun)),h3,rfl,rfl,rfl,rfl,h5,List.isEmpty_iff.mp c1,List.isEmpty_iff.mp c2,Option.isNone_iff_eq_none.mp c3,Option.isNone_iff_eq_none.mp c4,rfl,eq_of_beq c5,of_decide_eq_true c6,eq_of_beq c7,notT c8,notT c9,of_decide_eq_true c10,fun q hq=>bne_iff_ne.mp (List.all_eq_true.mp c11 q hq),fun x hx=>(Bool.or_eq_true_iff.mp (List.all_eq_true.mp c12 x hx)).imp eq_of_beq eq_of_beq,c13,fun ho=>?_⟩
  have hl:d.name=rP:=(Bool.or_eq_true_iff.mp c14).elim (fun q=>by rw[show kG (fun x=>d.scope.names.lookup x)=true from ho] at q;cases q) eq_of_beq
  obtain⟨a',o',fd',_,_,q1,q2,q3,q4,_⟩:=htb
  rw[hl,q1] at h1;cases h1
  rw[q2] at h2;cases h2
  rw[q3] at h3;cases h3
  exact⟨q4,hl⟩

theorem gOk_of{p:Program}{loose:List Str}{mean:ExcName→Option Value}{mg mb:Str→Option Value}{h:Heap}(T:Top p loose mean mg mb h)(hB:lX p loose=true)(hT:TbOk mg h):GOk mg mb h:=by
 refine⟨T.g,T.b,T.nolimit,fun f hf=>⟨?_,?_⟩,lam_of T hB hT⟩
 ·refine bG hB fun _ hB=>nK (List.all_eq_true.mp hB f hf) fun c1 c2 c3 c4 c5=>?_
  simp only[Bool.not_eq_true',List.contains_eq_mem,decide_eq_false_iff_not] at c1 c2 c3 c4 c5
  exact T.free _ c1 c2 c3 c4 c5
 ·rw[T.builtins]
  ·have:(cD.all fun f=>bootBuiltins (Str.ofString f) == some (cZ f))=true:=by decide +kernel
   exact eq_of_beq (List.all_eq_true.mp this f hf)
  ·have:(cD.all fun f=>Str.ofString f != Str.ofString "__name__")=true:=by decide +kernel
   exact bne_iff_ne.mp (List.all_eq_true.mp this f hf)

theorem oldK_of{h h':Heap}(htb:∃ c,h.TableAt c tb #[])(hk:KH h h'):OldK h h':=by
 obtain⟨c,ht⟩:=htb
 have one:∀ b o,h.get? b=some o→h'.get? b=some o∨b=tb∧o=tP∧∃ xs,h'.get? b=some { cls:=.none,data:=.fields xs }:=fun b o e=>by
  by_cases hb:b=tb
  ·subst hb
   have eo:o=tP:=Option.some.inj (e.symm.trans ht.2)
   obtain⟨o',e',⟨_,q⟩ | ⟨_,_,xs,q,_⟩⟩:=Heap.gt_some (hk _ _ (Heap.gt_good ht.2 hY.empty))
   ·cases q rfl
   ·exact .inr ⟨rfl,eo,xs,q▸e'⟩
  ·have q:=hk b o (by rw[Heap.gt_ne hb];exact e)
   rw[Heap.gt_ne hb] at q
   exact .inl q
 refine⟨fun b o e=>?_,fun b o e=>?_⟩
 ·rcases one b o e with q | ⟨rfl,rfl,xs,q⟩
  ·exact .inl q
  ·exact .inr (.inl ⟨ht.isCodeTable,rfl,#[],xs,rfl,by rw[q,Array.empty_append]⟩)
 ·rcases one b o e with q | ⟨_,_,xs,q⟩
  ·exact⟨_,q⟩
  ·exact⟨_,q⟩
theorem wellInts{P:Params}{h:Heap}{H:Addr→Prop}{ns:List Int}{vs:List Value}(hw:WellAll P h vs (ofPys (ns.map PyData.int))):aq P h H vs (ns.map .int):=by
 induction ns generalizing vs with
 | nil=>cases hw;rfl
 | cons n ns ih=>
  cases hw with
  | cons h1 h2=>
   cases h1
   exact .mk (.mk _) (ih h2)
theorem aOk_top{N:Nat}(hN:N≤300):AOk callerA N:=⟨rfl,by
  show 1+claimMargin+2 * N+20<recursionLimit
  have e1:claimMargin=300:=rfl
  have e2:recursionLimit=1000:=rfl
  omega,by
  show 4+13 * N+100<cLine
  have e2:cLine=9900:=rfl
  omega⟩
theorem law_fin{l:OpenLaw}{w:World}{s₀ s₁:Shared}{mg mb:Str→Option Value}{p:Program}{loose:List Str}{mean mean':ExcName→Option Value}{P:List (String×Fn)}{X:CF}(N:Nat)(T:Top p loose mean mg mb s₁.heap)
  (hP:pK (recsOf p) P=true) (hB:lX p loose=true) (hN:N≤300) (HX:∀ A,AOk A 0→dU l.prog w s₁.heap mg X A) (htb:TbOk mg s₁.heap)
  {fa a:Addr} {ns:List Int} (hmg:mg (Str.ofString "law")=some (.ref fa)) (hg:s₁.gens=#[]) (hw:Well w.params s₁.heap (.ref a) (ofPy (PyData.list (ns.map PyData.int)))) (hlen:¬ ((63:Nat):Int)<(ns.length:Int))
  (hpure:∃ fr,(al P X N).call "law" [.list (ns.map .int)]=some (.bool true,fr)) :
  wpAny (model l.row.toRowW.prog w) callerA (call (.ref fa) [.ref a]) (fun v s'=>GoodWG l.row.toRowW.claim (classAt s₀.heap) mean' [ofPy (PyData.list (ns.map PyData.int))] s₁ (.ok (.ret v)) s')
   (fun e s'=>GoodWG l.row.toRowW.claim (classAt s₀.heap) mean' [ofPy (PyData.list (ns.map PyData.int))] s₁ (.error e) s') s₁:=by
 have G:=gOk_of T hB htb
 have hrep:Rep w.params s₁.heap (fun _=>False) (.ref a) (.list (ns.map .int)):=by
  cases hw with
  | list ho hr=>exact .mk ho (fun q=>q) (by rw[List.length_map];exact Nat.le_trans (Int.ofNat_le.mp (Int.not_lt.mp hlen)) (by decide)) (wellInts (by simpa using hr))
 refine hpure.elim fun fr hp=>((callN_sound (prog:=l.prog) (w:=w) G (fun f fn hf=>fnOk_of T htb G.lam.2.1 hP hf) HX N callerA (aOk_top hN)).call "law" _ _ fr hp).elim fun a' q=>q.elim fun o q=>q.elim fun fd q=>?_
 have e:a'=fa:=Value.ref.inj (Option.some.inj (q.1.symm.trans hmg))
 subst e
 refine bj (q.2.2.2 callerA (.refl _) s₁ (fun _=>False) [.ref a] _ ⟨fun _ _ e=>e,fun _ q=>q.elim,fun _ _ _ q=>q⟩ (.cons hrep .nil)) fun v s' q=>q.rec fun k r _=>?_
 refine bz.rec (motive:=fun s' _=>GoodWG l.row.toRowW.claim (classAt s₀.heap) mean' [ofPy (PyData.list (ns.map PyData.int))] s₁ (.ok (.ret v)) s') (fun h' tk dw hk=>?_) k
 rw[show v=.bool true from r]
 exact⟨.inl ⟨.bool true,.bool true,[],rfl,fun _=>rfl,.bool true,postW_of (r:=l.row.toRowW) rfl (w_eq_bool (w_res rfl) w_lit) rfl,fun _=>⟨.nil,fun _ h=>nomatch h⟩⟩,oldK_of ⟨_,G.lam.2.1⟩ hk,rfl,.of_eq hg⟩
end Mine
namespace Mine
open PySem
noncomputable def Run(cf:CF)(ss:List MS)(σ:St)(d:D)(fr:Bool):Prop:=fin (a8 cf ss σ)=some (d,fr)
structure Stp(cf:CF)(s:MS)(σ σ':St):Prop where
 go:∀ r,a8 cf (s::r) σ=a8 cf r σ'
section
variable {cf:CF} {ρ:List (String×D)} {σ σ':St} {a b c e:ME} {d x y:D} {i j:Int} {fr:Bool} {r t f body:List MS} {z:String}
theorem aw(h:evE cf ρ e=some d)(hc:lR e=none)(hf:frF e d=fr):evF cf ρ e=some (d,fr):=by
 unfold evF;rw[hc,h];show some (d,frF e d)=_;rw[hf]
theorem aM{g:String}{as:List ME}{ds:List D}(h:bV cf ρ as=some ds)(hc:cf.call g ds=some (d,fr)):evF cf ρ (.call g as)=some (d,fr):=by
 rw[kj,h];exact hc
theorem ax{g:String}{as:List ME}{ds:List D}(h:bV cf ρ as=some ds)(hc:cf.call g ds=some (d,fr)):evE cf ρ (.call g as)=some d:=by
 rw[e_call,h];show (cf.call g ds).map _=_;rw[hc];rfl
theorem ad{es:List ME}{ds:List D}(h:evE cf ρ e=some d)(hs:bV cf ρ es=some ds):bV cf ρ (e::es)=some (d::ds):=by
 rw[es_cons,h,hs];rfl
theorem ao{op:Operator}(ha:evE cf ρ a=some x)(hb:evE cf ρ b=some y)(h:dQ op x y=some d):evE cf ρ (.bin op a b)=some d:=by
 rw[e_bin,ha,hb];exact h
theorem ry(h:-lim<j∧j<lim):dQ .Mult (.int i) (.int j)=some (.int (i * j)):=if_pos (.inr h)
theorem nB(h:-lim<i∧i<lim):dQ .Mult (.int i) (.int j)=some (.int (i * j)):=if_pos (.inl h)
theorem a7(h:0<j∧j<lim):dQ .FloorDiv (.int i) (.int j)=some (.int (i / j)):=if_pos h
theorem aJ(h:0<j):dQ .Mod (.int i) (.int j)=some (.int (i % j)):=if_pos h
theorem tI(h:-eC<i∧i<eC∧0≤j∧j≤100):dQ .Pow (.int i) (.int j)=some (.int (i ^ j.toNat)):=if_pos h
theorem cw:dQ .Add (.int i) (.int j)=some (.int (i+j)):=rfl
theorem rY:dQ .Sub (.int i) (.int j)=some (.int (i - j)):=rfl
theorem aD{op:CmpOp}(ha:evE cf ρ a=some x)(hb:evE cf ρ b=some y)(h:eG op x y=some d):evE cf ρ (.cmp op a b)=some d:=by
 rw[e_cmp,ha,hb];exact h
theorem au(ha:evE cf ρ a=some x)(hb:evE cf ρ b=some y)(h:a9 x y=some d):evE cf ρ (.sub a b)=some d:=by
 rw[e_sub,ha,hb];exact h
theorem nJ{l h:ME}{u v:D}(ha:evE cf ρ a=some x)(hl:evE cf ρ l=some u)(hh:evE cf ρ h=some v)(hd:slD x u v=some d):evE cf ρ (.sl a l h)=some d:=by
 rw[e_sl,ha,hl,hh];exact hd
theorem fc{k:Bool}(ha:evE cf ρ a=some x)(h:bE x=some k):evE cf ρ (.not a)=some (.bool (!k)):=by
 rw[e_not,ha];show (bE x).map _=_;rw[h];rfl
theorem il{T:String}{k:Bool}(ha:evE cf ρ a=some x)(h:mM x T=some k):evE cf ρ (.isi a T)=some (.bool k):=by
 rw[e_isi,ha];show (mM x T).map _=_;rw[h];rfl
theorem bS{g:String}{as:List ME}{ds:List D}(ha:bV cf ρ as=some ds)(h:gt g ds=some d):evE cf ρ (.blt g as)=some d:=by
 rw[e_blt,ha];exact h
theorem bN{as:List ME}{ds:List D}(ha:bV cf ρ as=some ds)(h:ds.length≤big):evE cf ρ (.tup as)=some (.tup ds):=by
 rw[e_tup,ha];exact if_pos h
theorem cI{as:List ME}{ds:List D}(ha:bV cf ρ as=some ds)(h:ds.length≤big):evE cf ρ (.lst as)=some (.list ds):=by
 rw[e_lst,ha];exact if_pos h
theorem v_inn{u:Str}(ha:evE cf ρ a=some (.str u)):evE cf ρ (.inn a)=some (.int (pv u)):=by rw[e_inn,ha];rfl
theorem v_sset(ha:evE cf ρ a=some x)(h:md x=some d):evE cf ρ (.sset a)=some d:=by rw[e_sset,ha];exact h
theorem pT{ds:List D}(ha:evE cf ρ a=some x)(h:qB x=some ds):evE cf ρ (.lcp a)=some (.list ds):=by
 rw[e_lcp,ha];show (qB x).map _=_;rw[h];rfl
theorem jq{elt src:ME}{cs:List ME}{its ds:List D}(ha:evE cf ρ src=some x)(hi:x.items=some its)(hl:its.length≤big)(h:bO (ni cf ρ elt z cs) its=some ds):evE cf ρ (.comp elt z src cs)=some (.list ds):=by
 rw[e_comp,ha];show (match x.items with | some its=>_ | none=>_)=_;rw[hi];show (if its.length≤big then _ else _)=_;rw[if_pos hl,h];rfl

theorem dC{k l:Bool}{r':List ME}(ha:evE cf ρ a=some (.bool k))(hb:k=true→evE cf ρ (.bop .And (b::r'))=some (.bool l)):evE cf ρ (.bop .And (a::b::r'))=some (.bool (k&&l)):=by
 rw[e_bop,b_and,ha,sA]
 cases k with
 | false=>rfl
 | true=>exact hb rfl
theorem hZ{k l:Bool}{r':List ME}(ha:evE cf ρ a=some (.bool k))(hb:k=false→evE cf ρ (.bop .Or (b::r'))=some (.bool l)):evE cf ρ (.bop .Or (a::b::r'))=some (.bool (k||l)):=by
 rw[e_bop,b_or,ha,sA]
 cases k with
 | true=>rfl
 | false=>exact hb rfl
theorem bA{op:BoolOp}(ha:evE cf ρ a=some d):evE cf ρ (.bop op [a])=some d:=ha
theorem av(h:evF cf (vis σ) e=some (d,fr)):Stp cf (.assign z e) σ (aC (settle d e.names σ) z (fr,d)):=⟨fun r=>x_go (by rw[nN,h])⟩
theorem cQ{ds:List D}(h:evE cf (vis σ) e=some d)(hl:(settle d e.names σ).lookup z=some (true,.list ds))(hb:ds.length<big):Stp cf (.append z e) σ (aC (settle d e.names σ) z (true,.list (ds++[d]))):=⟨fun r=>x_go (by rw[xs_append,h];dsimp only;rw[hl];exact if_pos hb)⟩
theorem uo{k:ME}{dk:D}{ks vs:List D}(h:evE cf (vis σ) e=some d)(hk:evE cf (vis σ) k=some dk)(hl:(settle dk k.names (settle d e.names σ)).lookup z=some (true,.dict ks vs))(hb:(dX dk ks&&decide (ks.length<big))=true) :
  Stp cf (.setk z k e) σ (aC (settle dk k.names (settle d e.names σ)) z (true,.dict (dK ks vs dk d).1 (dK ks vs dk d).2)):=⟨fun r=>x_go (by rw[xs_setk,h];dsimp only;rw[hk];dsimp only;rw[hl];exact if_pos hb)⟩
theorem p_grp(h:uL cf σ=some σ'):Stp cf .grp σ σ':=⟨fun r=>x_go (by rw[tY,h])⟩
theorem aL{s:MS}(h:Stp cf s σ σ')(k:Run cf r σ' d fr):Run cf (s::r) σ d fr:=by unfold Run;rw[h.go];exact k
theorem cH{k:Bool}(h:evE cf (vis σ) c=some x)(hx:bE x=some k)(ht:k=true→Run cf (t++r) σ d fr)(hf:k=false→Run cf (f++r) σ d fr):Run cf (.ite c t f::r) σ d fr:=by
 unfold Run;rw[t6 h hx]
 cases k with
 | true=>exact ht rfl
 | false=>exact hf rfl
theorem aK(h:evF cf (vis σ) e=some (d,fr))(hv:e.varOf=none):Run cf (.ret e::r) σ d fr:=by unfold Run;rw[nP (x_rv hv h)];rfl
theorem eB(h:σ.lookup z=some (fr,d)):Run cf (.ret (.var z)::r) σ d fr:=by unfold Run;rw[nP (x_rx h)];rfl
theorem eH{src:ME}{its:List D}(hs:evE cf (vis σ) src=some x)(hi:x.items=some its)(h:cj (cC cf body z) its (freeze src.names σ)=some (.next,σ'))(k:Run cf r σ' d fr):Run cf (.for_ z src body::r) σ d fr:=by
 unfold Run;rw[t7 hs hi,h];exact k
theorem kC{src:ME}{its:List D}(hs:evE cf (vis σ) src=some x)(hi:x.items=some its)(h:cj (cC cf body z) its (freeze src.names σ)=some (.ret fr d,σ')):Run cf (.for_ z src body::r) σ d fr:=by
 unfold Run;rw[t7 hs hi,h];rfl
theorem r_while(h:dY (fj cf c) (fun σ=>a8 cf body σ) tO σ=some (.next,σ'))(k:Run cf r σ' d fr):Run cf (.while_ c body::r) σ d fr:=by
 unfold Run;rw[x_while,h,l7];exact k
theorem r_forr{src:ME}{ds:List D}(hs:evE cf (vis σ) src=some (.tup ds))(h:cj (cC cf body z) ds.reverse (freeze src.names σ)=some (.next,σ'))(k:Run cf r σ' d fr):Run cf (.forr z src body::r) σ d fr:=by
 unfold Run;rw[x_forr _ _ _ _ _ _ hs,h,l7];exact k
theorem az{P:List (String×Fn)}{X:CF}{g:String}{ps:List String}{bd:List MS}{n:Nat}{args:List D}(h:P.lookup g=some ⟨ps,bd⟩)(hl:args.length=ps.length)(k:Run (al P X n) bd ((ps.zip args).map fun p=>(p.1,(false,p.2))) d fr) :
  (al P X (n+1)).call g args=some (d,fr):=by rw[tB n args h hl];exact k
theorem uq{k:Bool}{α:Prop}(h:k=true)(h':k=false):α:=by rw[h] at h';cases h'
theorem k7{u v:Str}(h:u.length+v.length≤big):dQ .Add (.str u) (.str v)=some (.str (u++v)):=if_pos h
theorem bin_ll{u v:List D}(h:u.length+v.length≤big):dQ .Add (.list u) (.list v)=some (.list (u++v)):=if_pos h
theorem bin_sm{u:Str}{k:Int}(h:0≤k∧k≤1000∧u.length≤1000):dQ .Mult (.str u) (.int k)=some (.str (Txt.mul u k)):=if_pos h
theorem sub_s{u:Str}{k:Int}(h:0≤k∧k<u.length∧u.length≤big):a9 (.str u) (.int k)=some (.str (bQ u k.toNat)):=if_pos h
theorem l9{u:List D}{k:Nat}(h:k<u.length)(he:u[k]?=some d):a9 (.list u) (.int k)=some d:=by
 show (idx k u.length).bind _=_
 have:idx (k:Int) u.length=some k:=if_pos ⟨Int.natCast_nonneg k,Int.ofNat_lt.mpr h⟩
 rw[this];exact he
theorem sub_t{u:List D}{k:Nat}(h:k<u.length)(he:u[k]?=some d):a9 (.tup u) (.int k)=some d:=l9 h he
theorem jc{k:Nat}(h:k≤big):gt "range" [.int k]=some (.rng 0 k):=by
 show (if _ then _ else _)=_
 exact if_pos (by omega)
theorem len_s{u:Str}(h:u.length≤big):gt "len" [.str u]=some (.int u.length):=if_pos h
noncomputable def Rex(cf:CF)(ss:List MS)(σ:St)(Q:D→Bool→Prop):Prop:=∃ d fr,Q d fr∧Run cf ss σ d fr
variable {Q:D→Bool→Prop}
theorem aY{s:MS}(h:Stp cf s σ σ')(k:Rex cf r σ' Q):Rex cf (s::r) σ Q:=let ⟨d,fr,q,k⟩:=k;⟨d,fr,q,aL h k⟩
theorem cV{k:Bool}(h:evE cf (vis σ) c=some x)(hx:bE x=some k)(ht:k=true→Rex cf (t++r) σ Q)(hf:k=false→Rex cf (f++r) σ Q):Rex cf (.ite c t f::r) σ Q:=by
 cases k with
 | true=>obtain⟨d,fr,q,k⟩:=ht rfl;exact⟨d,fr,q,cH h hx (fun _=>k) nofun⟩
 | false=>obtain⟨d,fr,q,k⟩:=hf rfl;exact⟨d,fr,q,cH h hx nofun fun _=>k⟩
theorem b0(h:evF cf (vis σ) e=some (d,fr))(hv:e.varOf=none)(q:Q d fr):Rex cf (.ret e::r) σ Q:=⟨d,fr,q,aK h hv⟩
theorem um(h:σ.lookup z=some (fr,d))(q:Q d fr):Rex cf (.ret (.var z)::r) σ Q:=⟨d,fr,q,eB h⟩
theorem un(h:σ=σ')(k:Rex cf r σ' Q):Rex cf r σ Q:=h▸k
theorem q_for{src:ME}{its:List D}(hs:evE cf (vis σ) src=some x)(hi:x.items=some its)(h:cj (cC cf body z) its (freeze src.names σ)=some (.next,σ'))(k:Rex cf r σ' Q):Rex cf (.for_ z src body::r) σ Q:=
 let ⟨d,fr,q,k⟩:=k;⟨d,fr,q,eH hs hi h k⟩
theorem q_forR{src:ME}{its:List D}(hs:evE cf (vis σ) src=some x)(hi:x.items=some its)(h:cj (cC cf body z) its (freeze src.names σ)=some (.ret fr d,σ'))(q:Q d fr):Rex cf (.for_ z src body::r) σ Q:=⟨d,fr,q,kC hs hi h⟩
theorem cP{P:List (String×Fn)}{X:CF}{g:String}{ps:List String}{bd:List MS}{n:Nat}{args:List D}(h:P.lookup g=some ⟨ps,bd⟩)(hl:args.length=ps.length)(k:Rex (al P X n) bd ((ps.zip args).map fun p=>(p.1,(false,p.2))) Q) :
  ∃ d fr,Q d fr∧(al P X (n+1)).call g args=some (d,fr):=let ⟨d,fr,q,k⟩:=k;⟨d,fr,q,az h hl k⟩
theorem jp{elt src:ME}{k:Nat}(hk:k≤1000)(R:D→Prop)(hs:evE cf ρ src=some (.int k))(h:∀ i:Nat,i<k→∃ d,R d∧evE cf ((z,.int i)::ρ) elt=some d) :
  ∃ ds:List D,ds.length=k∧(∀ d∈ds,R d)∧evE cf ρ (.blt "tuple" [.comp elt z (.blt "range" [src]) []])=some (.tup ds):=by
 obtain⟨ds,e,hl,hq⟩:=rh (ni cf ρ elt z []) (fun _ d=>R d) ((List.range k).map fun (i:Nat)=>D.int (i:Int)) (by
  intro it hit
  obtain⟨i,hi,rfl⟩:=List.mem_map.mp hit
  obtain⟨d,q,e⟩:=h i (List.mem_range.mp hi)
  exact⟨d,q,kX e⟩)
 have hb:k≤big:=Nat.le_trans hk (by decide)
 have hl':((List.range k).map fun (i:Nat)=>D.int (i:Int)).length=k:=by simp
 refine⟨ds,hl.trans hl',fun d hd=>let ⟨_,_,q⟩:=hq d hd;q,?_⟩
 exact bS (ad (jq (bS (ad hs (aj _ _)) (jc hb)) (dG k) (Nat.le_trans (Nat.le_of_eq hl') hb) e) (aj _ _)) rfl
noncomputable def Out(cf:CF)(ss:List MS)(σ:St)(R:Fl→St→Prop):Prop:=∃ fl σ',R fl σ'∧a8 cf ss σ=some (fl,σ')
variable {R:Fl→St→Prop}
theorem aN{s:MS}(h:Stp cf s σ σ')(k:Out cf r σ' R):Out cf (s::r) σ R:=let ⟨fl,s',q,k⟩:=k;⟨fl,s',q,(h.go r).trans k⟩
theorem cM{k:Bool}(h:evE cf (vis σ) c=some x)(hx:bE x=some k)(ht:k=true→Out cf (t++r) σ R)(hf:k=false→Out cf (f++r) σ R):Out cf (.ite c t f::r) σ R:=by
 unfold Out;rw[t6 h hx]
 cases k with
 | true=>exact ht rfl
 | false=>exact hf rfl
theorem qx(h:evF cf (vis σ) e=some (d,fr))(hv:e.varOf=none)(q:R (.ret fr d) σ):Out cf (.ret e::r) σ R:=⟨_,_,q,nP (x_rv hv h)⟩
theorem bJ(q:R .next σ):Out cf [] σ R:=⟨_,_,q,x_nil cf σ⟩
theorem bc(h:evF cf (vis σ) e=some (d,fr))(hc:d.isCell=true):Stp cf (.assign z e) σ (aC σ z (fr,d)):=by
 have:=av (z:=z) h
 unfold settle at this
 rwa [if_pos (by cases d <;> first | rfl | cases hc)] at this
theorem kI(p:D→Bool)(I:St→Prop)(fr:Bool)(d:D):∀ (its:List D),(∀ it∈its,∀ σ,I σ→Out cf body (aC σ z (false,it)) fun fl σ'=>if p it=true then fl=.ret fr d else fl=.next∧I σ') →
  ∀ σ,I σ→∃ σ',(its.any p=true→cj (cC cf body z) its σ=some (.ret fr d,σ'))∧(its.any p=false→I σ'∧cj (cC cf body z) its σ=some (.next,σ'))
 | [],_,σ,hσ=>⟨σ,nofun,fun _=>⟨hσ,rfl⟩⟩
 | it::r,h,σ,hσ=>by
  obtain⟨fl,σ₁,q,e⟩:=h it (.head _) σ hσ
  rw[List.any_cons,cF,e]
  cases hp:p it with
  | true=>
   rw[if_pos hp] at q
   subst q
   exact⟨σ₁,fun _=>rfl,nofun⟩
  | false=>
   rw[if_neg (by rw[hp];exact Bool.false_ne_true)] at q
   obtain⟨rfl,i1⟩:=q
   exact kI p I fr d r (fun i hi=>h i (.tail _ hi)) σ₁ i1
theorem mB(I:List D→St→Prop):∀ (its pre:List D) (σ:St),I pre σ→(∀ a it b σ,pre++its=a++it::b→I a σ→Out cf body (aC σ z (false,it)) fun fl σ'=>fl=.next∧I (a++[it]) σ') →
  ∃ σ',I (pre++its) σ'∧cj (cC cf body z) its σ=some (.next,σ')
 | [],pre,σ,h,_=>⟨σ,by simpa using h,rfl⟩
 | it::r,pre,σ,h,hs=>by
  obtain⟨fl,σ₁,⟨rfl,i1⟩,e⟩:=hs pre it r σ rfl h
  obtain⟨σ₂,i2,e2⟩:=mB I r (pre++[it]) σ₁ i1 fun a i b s h=>hs a i b s (by simpa using h)
  exact⟨σ₂,by simpa using i2,by rw[cF,e];exact e2⟩
end

noncomputable def jH(ρ:List (String×D))(x:String)(d:D):Prop:=ρ.lookup x=some d
noncomputable def Has(σ:St)(x:String)(d:D):Prop:=∃ fr,σ.lookup x=some (fr,d)
noncomputable def dA(σ:St)(x:String)(d:D):Prop:=σ.lookup x=some (true,d)
section
variable {cf:CF} {ρ:List (String×D)} {σ:St} {x y:String} {d e:D} {v:Bool×D} {ns:List String} {fr:Bool}
theorem bw:jH ((x,d)::ρ) x d:=by unfold jH;rw[List.lookup_cons,beq_self_eq_true]
theorem aX(h:(x == y)=false)(k:jH ρ x d):jH ((y,e)::ρ) x d:=by unfold jH;rw[List.lookup_cons,h];exact k
theorem aa(h:Has σ x d):jH (vis σ) x d:=by obtain⟨fr,h⟩:=h;unfold jH;rw[bT,h];rfl
theorem aB:Has (aC σ x (fr,d)) x d:=⟨fr,by rw[aH,if_pos rfl]⟩
theorem ak(h:(x == y)=false)(k:Has σ x d):Has (aC σ y v) x d:=let ⟨fr,k⟩:=k;⟨fr,by rw[aH,if_neg (by rintro rfl;rw[beq_self_eq_true] at h;cases h)];exact k⟩
theorem b9(k:Has σ x d):Has (freeze ns σ) x d:=let ⟨fr,k⟩:=k;⟨_,by rw[bg,k];rfl⟩
theorem ay(k:Has σ x d):Has (settle e ns σ) x d:=by unfold settle;split;exact k;exact b9 k
theorem af:Has ((x,(fr,d))::σ) x d:=⟨fr,by rw[List.lookup_cons,beq_self_eq_true]⟩
theorem ai(h:(x == y)=false)(k:Has σ x d):Has ((y,v)::σ) x d:=let ⟨fr,k⟩:=k;⟨fr,by rw[List.lookup_cons,h];exact k⟩
theorem qS(k:dA σ x d):Has σ x d:=⟨true,k⟩
theorem et:dA (aC σ x (true,d)) x d:=by unfold dA;rw[aH,if_pos rfl]
theorem cO(h:(x == y)=false)(k:dA σ x d):dA (aC σ y v) x d:=by unfold dA;rw[aH,if_neg (by rintro rfl;rw[beq_self_eq_true] at h;cases h)];exact k
theorem jK(h:ns.contains x=false)(k:dA σ x d):dA (freeze ns σ) x d:=by unfold dA;rw[bg,k];show some (true&&!ns.contains x,d)=_;rw[h];rfl
theorem eQ(h:ns.contains x=false)(k:dA σ x d):dA (settle e ns σ) x d:=by unfold settle;split;exact k;exact jK h k
theorem sy{src:ME}{z:String}{body r:List MS}{its:List D}{σ':St}{R:Fl→St→Prop}(hs:evE cf (vis σ) src=some d)(hi:d.items=some its)(h:cj (cC cf body z) its (freeze src.names σ)=some (.next,σ'))(k:Out cf r σ' R):Out cf (.for_ z src body::r) σ R:=by
 unfold Out;rw[t7 hs hi,h];exact k
theorem v_neg1:evE cf ρ (.neg (.int 1))=some (.int (-1)):=rfl
theorem ae(h:jH ρ x d):evE cf ρ (.var x)=some d:=h
end

set_option maxRecDepth 100000
set_option maxHeartbeats 4000000
noncomputable def kU:Fn:=⟨["one","other"],[
  .ite (.cmp .NotEq (.isi (.var "one") "str") (.isi (.var "other") "str")) [.ret (.isi (.var "other") "str")] [],
  .ret (.cmp .Lt (.var "one") (.var "other"))]⟩
noncomputable def fJ:Fn:=⟨["_law_one","_law_other"],[
  .ite (.bop .And [.isi (.var "_law_one") "str",.isi (.var "_law_other") "str"]) [.ret (.cmp .Lt (.var "_law_one") (.var "_law_other"))] [],
  .ite (.bop .Or [.isi (.var "_law_one") "str",.isi (.var "_law_other") "str"]) [.ret (.isi (.var "_law_other") "str")] [],
  .ret (.cmp .Lt (.var "_law_one") (.var "_law_other"))]⟩
noncomputable def gO:Fn:=⟨["_law_one","_law_other"],[
  .ite (.bop .Or [.isi (.var "_law_one") "str",.isi (.var "_law_other") "str"]) [.ret (.bop .And [.isi (.var "_law_one") "str",.isi (.var "_law_other") "str",.cmp .Eq (.var "_law_one") (.var "_law_other")])] [],
  .ret (.cmp .Eq (.var "_law_one") (.var "_law_other"))]⟩
noncomputable def iC:Fn:=⟨["_law_cell"],[
  .assign "_law_some" (.str " !\"#$&'()*+,-./0123456789:;<=>?@ABCDEFGHIJKLMNOPQRSTUVWXYZ[\\]^_`"),
  .assign "_law_some" (.bin .Add (.var "_law_some") (.str "abcdefghijklmnopqrstuvwxyz{|}~")),
  .ret (.sub (.var "_law_some") (.bin .Mod (.var "_law_cell") (.int 94)))]⟩
noncomputable def iJ:Fn:=⟨["_law_script","_law_k"],[
  .ite (.cmp .Lt (.var "_law_k") (.blt "len" [.var "_law_script"])) [.ret (.sub (.var "_law_script") (.var "_law_k"))] [],
  .ret (.int 0)]⟩
noncomputable def eD:Fn:=⟨["_law_cell"],[
  .assign "_law_way" (.bin .Mod (.var "_law_cell") (.int 9)),
  .assign "_law_rest" (.bin .FloorDiv (.var "_law_cell") (.int 9)),
  .ite (.cmp .Lt (.var "_law_way") (.int 4)) [.ret (.bin .Sub (.bin .Mod (.var "_law_rest") (.int 4)) (.int 1))] [],
  .ite (.cmp .Eq (.var "_law_way") (.int 4)) [.ret (.bin .Sub (.bin .Mod (.var "_law_rest") (.int 2000001)) (.int 1000000))] [],
  .ite (.cmp .Eq (.var "_law_way") (.int 5)) [.ret (.sub (.lst [.str "a",.str "b",.str "1",.str "0",.str "-1",.str "col",.str "is",.str "count"]) (.bin .Mod (.var "_law_rest") (.int 8)))] [],
  .ite (.cmp .Eq (.var "_law_way") (.int 6)) [.ret (.bin .Mult (.call "_law_sign_by" [.var "_law_rest"]) (.bin .Mod (.bin .FloorDiv (.var "_law_rest") (.int 94)) (.int 100)))] [],
  .ite (.cmp .Eq (.var "_law_way") (.int 7)) [.ret (.bin .Add (.bin .Sub (.bin .Mod (.bin .Pow (.bin .Add (.bin .Mod (.var "_law_rest") (.bin .Pow (.int 10) (.int 60))) (.int 3)) (.int 9)) (.bin .Sub (.bin .Mult (.int 2) (.bin .Pow (.int 10) (.int 60))) (.int 1))) (.bin .Pow (.int 10) (.int 60))) (.int 1))] [],
  .assign "_law_word" (.sl (.str "any word") .none (.bin .Mod (.var "_law_rest") (.int 9))),
  .assign "_law_at" (.bin .Mod (.bin .FloorDiv (.var "_law_rest") (.int 9)) (.bin .Add (.blt "len" [.var "_law_word"]) (.int 1))),
  .ret (.bin .Add (.bin .Add (.sl (.var "_law_word") .none (.var "_law_at")) (.call "_law_sign_by" [.bin .FloorDiv (.var "_law_rest") (.int 81)])) (.sl (.var "_law_word") (.var "_law_at") .none))]⟩
noncomputable def kf:Fn:=⟨["_law_cell","_law_k"],[
  .ret (.bin .Mod (.bin .Pow (.bin .Mod (.bin .Add (.bin .Mult (.var "_law_cell") (.int 48271)) (.bin .Mult (.bin .Add (.var "_law_k") (.int 1)) (.int 1299721))) (.int 2147483647)) (.int 5)) (.int 2147483647))]⟩
structure BG(P:List (String×Fn)):Prop where
 sign:P.lookup "_law_sign_by"=some iC
 cell:P.lookup "_law_cell_at"=some iJ
 thing:P.lookup "_law_thing_by"=some eD
 mixed:P.lookup "_law_mixed"=some kf
structure BC(P:List (String×Fn)):Prop where
 before:P.lookup "before"=some kU
 pn:P.lookup "_law_alike"=some gO
 gI:P.lookup "_law_before"=some fJ
noncomputable def cu:Str:=Str.ofString " !\"#$&'()*+,-./0123456789:;<=>?@ABCDEFGHIJKLMNOPQRSTUVWXYZ[\\]^_`"++Str.ofString "abcdefghijklmnopqrstuvwxyz{|}~"
theorem signs_len:cu.length=94:=by decide +kernel
theorem bM(c:Int){k:Nat}(h:0<k):∃ m:Nat,c % (k:Int)=m∧m<k:=⟨(c % k).toNat,(Int.toNat_of_nonneg (Int.emod_nonneg _ (by omega))).symm,by have:=Int.emod_nonneg c (b:=(k:Int)) (by omega);have:=Int.emod_lt_of_pos c (b:=(k:Int)) (by omega);omega⟩
section
variable {P:List (String×Fn)} {X:CF}
theorem oW(B:BG P)(n:Nat)(c:Int):(al P X (n+1)).call "_law_sign_by" [.int c]=some (.str (bQ cu (c % 94).toNat),false):=by
 have h1:(Str.ofString " !\"#$&'()*+,-./0123456789:;<=>?@ABCDEFGHIJKLMNOPQRSTUVWXYZ[\\]^_`").length+(Str.ofString "abcdefghijklmnopqrstuvwxyz{|}~").length≤big:=by decide +kernel
 have h2:0≤c % 94∧c % 94<(cu.length:Int)∧cu.length≤big:=by rw[signs_len];refine⟨by omega,by omega,by decide⟩
 refine az B.sign rfl ?_
 have q:dQ .Add (.str (Str.ofString " !\"#$&'()*+,-./0123456789:;<=>?@ABCDEFGHIJKLMNOPQRSTUVWXYZ[\\]^_`")) (.str (Str.ofString "abcdefghijklmnopqrstuvwxyz{|}~"))=some (.str cu):=k7 h1
 have q2:=sub_s h2
 exact aL (bc (d:=.str (Str.ofString " !\"#$&'()*+,-./0123456789:;<=>?@ABCDEFGHIJKLMNOPQRSTUVWXYZ[\\]^_`")) (fr:=false) (aw (aT _ _ _) rfl rfl) rfl) (aL (bc (d:=.str cu) (fr:=false) (aw (ao (ae (aa aB)) (aT _ _ _) q) rfl rfl) rfl) (aK (aw (au (ae (aa aB)) (ao (ae (aa (ak rfl (ak rfl af)))) (ag _ _ _) (aJ (by decide))) q2) rfl rfl) rfl))
theorem sg(B:BG P)(n:Nat)(c:Int):∃ x:Str,x.length=1∧(al P X (n+1)).call "_law_sign_by" [.int c]=some (.str x,false):=⟨bQ cu (c % 94).toNat,rfl,oW B n c⟩
noncomputable def d9(a b:D):Bool:=bv a b
noncomputable def aV(a b:D):Bool:=match a with
 | .int i=>(match b with | .int j=>decide (i<j) | _=>true)
 | .str x=>(match b with | .str y=>decide (x.cps.toList<y.cps.toList) | _=>false)
 | _=>false
theorem aP{a:D}{C:D→Prop}(ha:a.isCell=true)(hi:∀ i,C (.int i))(hs:∀ x,C (.str x)):C a:=by
 cases a <;> first | exact hi _ | exact hs _ | cases ha
theorem fm(B:BG P)(n:Nat)(ns:List Int)(k:Nat):(al P X (n+1)).call "_law_cell_at" [.list (ns.map .int),.int k]=some (.int (ns.getD k 0),false):=by
 have hl:(ns.map D.int).length=ns.length:=List.length_map ..
 refine az B.cell rfl ?_
 have hln:gt "len" [.list (ns.map .int)]=some (.int ns.length):=by show some (D.int ((ns.map D.int).length:Nat))=_;rw[hl]
 refine cH (k:=decide ((k:Int)<ns.length)) (aD (ae (aa (ai rfl af))) (bS (ad (ae (aa af)) (aj _ _)) hln) rfl) rfl (fun h=>?_) fun h=>?_
 ·have h:k<ns.length:=Int.ofNat_lt.mp (of_decide_eq_true h)
  exact aK (aw (au (ae (aa af)) (ae (aa (ai rfl af))) (l9 (by rw[hl];exact h) (by rw[List.getElem?_map,List.getElem?_eq_getElem h,List.getD_eq_getElem?_getD,List.getElem?_eq_getElem h];rfl))) rfl rfl) rfl
 ·have h:ns.length≤k:=Nat.not_lt.mp fun q=>of_decide_eq_false h (Int.ofNat_lt.mpr q)
  rw[List.getD_eq_getElem?_getD,List.getElem?_eq_none h]
  exact aK (aw (ag _ _ _) rfl rfl) rfl
theorem mixed(B:BG P)(n:Nat)(c k:Int):∃ r:Int,0≤r∧(al P X (n+1)).call "_law_mixed" [.int c,.int k]=some (.int r,false):=by
 have hp:-eC<(c * 48271+(k+1) * 1299721) % 2147483647∧(c * 48271+(k+1) * 1299721) % 2147483647<eC∧(0:Int)≤5∧(5:Int)≤100:=by
  have h1:(2147483647:Int)<eC:=by decide +kernel
  generalize eC=pl at *
  generalize c * 48271+(k+1) * 1299721=z
  omega
 have q:=tI hp
 exact⟨((c * 48271+(k+1) * 1299721) % 2147483647) ^ (5:Int).toNat % 2147483647,Int.emod_nonneg _ (by decide),az B.mixed rfl (aK (aw (ao (ao (ao (ao (ao (ae (aa af)) (ag _ _ _) (ry (by decide))) (ao (ao (ae (aa (ai rfl af))) (ag _ _ _) cw) (ag _ _ _) (ry (by decide))) cw) (ag _ _ _) (aJ (by decide))) (ag _ _ _) q) (ag _ _ _) (aJ (by decide))) rfl rfl) rfl)⟩
end
noncomputable def r5(d:D):Prop:=(∃ i:Int,d=.int i∧-(10 ^ 61)<i∧i<10 ^ 61)∨∃ x:Str,d=.str x∧x.length≤200
theorem r5.cell{d:D}(h:r5 d):d.isCell=true:=by rcases h with⟨i,rfl,_⟩ | ⟨x,rfl,_⟩ <;> rfl

theorem eV(x y:Str):(x++y).length=x.length+y.length:=by
 show (x.cps++y.cps).size=_
 simp[Str.length]
theorem mul_len{x:Str}(hx:x.length=1){n:Int}(h0:0≤n)(h1:n≤100):(Txt.mul x n).length≤100:=by
 unfold Txt.mul
 split
 ·decide
 ·split
  ·omega
  ·show ((List.replicate n.toNat x.cps).foldl (·++·) #[]).size≤100
   have:∀ (k:Nat) (a:Array Nat),((List.replicate k x.cps).foldl (·++·) a).size=a.size+k:=by
    intro k
    induction k with
    | zero=>intro a;simp
    | succ k ih=>
     intro a
     rw[List.replicate_succ,List.foldl_cons,ih]
     have:x.cps.size=1:=hx
     simp;omega
   rw[this];simp;omega

theorem rL(x:Str)(j:Int)(h:x.length≤big):∃ W:Str,W.length≤x.length∧slD (.str x) .none (.int j)=some (.str W):=⟨_,Txt.slice_le _ _ _,if_pos h⟩
theorem ud(x:Str)(j:Int)(h:x.length≤big):∃ W:Str,W.length≤x.length∧slD (.str x) (.int j) .none=some (.str W):=⟨_,Txt.slice_le _ _ _,if_pos h⟩
noncomputable def T60:Int:=10 ^ 60
theorem cE{l:List D}(hn:0<l.length)(c:Int){R:D→Prop}(h:∀ d∈l,R d):∃ d,R d∧a9 (.list l) (.int (c % (l.length:Int)))=some d:=by
 obtain⟨m,e,hm⟩:=bM c hn
 rw[e]
 exact⟨l[m],h _ (List.getElem_mem hm),l9 hm (List.getElem?_eq_getElem hm)⟩
theorem pW{P:List (String×Fn)}{X:CF}(B:BG P)(n:Nat)(c:Int):∃ d,r5 d∧(al P X (n+2)).call "_law_thing_by" [.int c]=some (d,false):=by
 obtain⟨x,hx,hs⟩:=sg (X:=X) B n (c / 9)
 obtain⟨x',hx',hs'⟩:=sg (X:=X) B n (c / 9 / 81)
 obtain⟨y,⟨y',rfl,hy⟩,q5⟩:=cE (l:=[.str (Str.ofString "a"),.str (Str.ofString "b"),.str (Str.ofString "1"),.str (Str.ofString "0"),.str (Str.ofString "-1"),.str (Str.ofString "col"),.str (Str.ofString "is"),.str (Str.ofString "count")]) (by decide) (c / 9) (R:=fun d=>∃ x:Str,d=.str x∧x.length≤200) (by
  intro d hd
  simp only[List.mem_cons,List.not_mem_nil,or_false] at hd
  rcases hd with rfl | rfl | rfl | rfl | rfl | rfl | rfl | rfl <;> exact⟨_,rfl,by decide +kernel⟩)
 have q5':a9 (.list [.str (Str.ofString "a"),.str (Str.ofString "b"),.str (Str.ofString "1"),.str (Str.ofString "0"),.str (Str.ofString "-1"),.str (Str.ofString "col"),.str (Str.ofString "is"),.str (Str.ofString "count")]) (.int (c / 9 % 8))=some (.str y'):=q5
 have hm:0≤c / 9 / 94 % 100∧c / 9 / 94 % 100≤100:=by omega
 have q6:=bin_sm (u:=x) (k:=c / 9 / 94 % 100) ⟨hm.1,Int.le_trans hm.2 (by decide),by rw[hx];decide⟩
 have p1:dQ .Pow (.int 10) (.int 60)=some (.int T60):=tI (i:=10) (j:=60) (by decide +kernel)
 have t0:0<T60:=by decide +kernel
 have hz:0≤c / 9 % T60∧c / 9 % T60<T60:=⟨Int.emod_nonneg _ (by decide +kernel),Int.emod_lt_of_pos _ t0⟩
 have p2:dQ .Pow (.int (c / 9 % T60+3)) (.int 9)=some (.int ((c / 9 % T60+3) ^ (9:Int).toNat)):=tI (by
  have h2:T60+3<eC:=by decide +kernel
  generalize eC=pl at *
  omega)
 have p3:dQ .Mult (.int 2) (.int T60)=some (.int (2 * T60)):=nB (by decide)
 have t1:0<2 * T60 - 1:=by omega
 obtain⟨W,hW,w1⟩:=rL (Str.ofString "any word") (c / 9 % 9) (by decide +kernel)
 have hW8:W.length≤8:=Nat.le_trans hW (by decide +kernel)
 have hWb:W.length≤big:=Nat.le_trans hW8 (by decide)
 have w2:=len_s hWb
 have w3:(0:Int)<(W.length:Int)+1:=by omega
 obtain⟨U,hU,w4⟩:=rL W (c / 9 / 9 % ((W.length:Int)+1)) hWb
 obtain⟨V,hV,w5⟩:=ud W (c / 9 / 9 % ((W.length:Int)+1)) hWb
 have hb0:(16:Nat)+1≤big:=by decide
 have w6:=k7 (u:=U) (v:=x') (by omega)
 have w7:=k7 (u:=U++x') (v:=V) (by rw[eV];omega)
 have g1:-(10:Int) ^ 61<c / 9 % 4 - 1∧c / 9 % 4 - 1<10 ^ 61:=by omega
 have g2:-(10:Int) ^ 61<c / 9 % 2000001 - 1000000∧c / 9 % 2000001 - 1000000<10 ^ 61:=by omega
 have g3:-(10:Int) ^ 61<(c / 9 % T60+3) ^ (9:Int).toNat % (2 * T60 - 1) - T60+1∧(c / 9 % T60+3) ^ (9:Int).toNat % (2 * T60 - 1) - T60+1<10 ^ 61:=by
  have h1:=Int.emod_nonneg ((c / 9 % T60+3) ^ (9:Int).toNat) (b:=2 * T60 - 1) (by omega)
  have h2:=Int.emod_lt_of_pos ((c / 9 % T60+3) ^ (9:Int).toNat) t1
  generalize (c / 9 % T60+3) ^ (9:Int).toNat % (2 * T60 - 1)=v at *
  have e2:(10:Int) ^ 61=10 * T60:=by decide +kernel
  rw[e2]
  generalize T60=tt at *
  omega
 have g4:(U++x'++V).length≤200:=by rw[eV,eV];omega
 have g5:=Nat.le_trans (mul_len hx hm.1 hm.2) (show 100≤200 by decide)
 have key:Rex (al P X (n+1)) eD.body [("_law_cell",(false,.int c))] fun d fr=>r5 d∧fr=false:=by
  clear hm hz hW hW8 hWb hU hV hb0 hx hx' q5
  refine aY (bc (d:=.int (c % 9)) (fr:=false) (aw (ao (ae (aa af)) (ag _ _ _) (aJ (by decide))) rfl rfl) rfl) (aY (bc (d:=.int (c / 9)) (fr:=false) (aw (ao (ae (aa (ak rfl af))) (ag _ _ _) (a7 (by decide))) rfl rfl) rfl) ?_)
  have i1:Has (aC (aC [("_law_cell",(false,.int c))] "_law_way" (false,.int (c % 9))) "_law_rest" (false,.int (c / 9))) "_law_way" (.int (c % 9)):=ak rfl aB
  have i2:Has (aC (aC [("_law_cell",(false,.int c))] "_law_way" (false,.int (c % 9))) "_law_rest" (false,.int (c / 9))) "_law_rest" (.int (c / 9)):=aB
  generalize aC (aC [("_law_cell",(false,.int c))] "_law_way" (false,.int (c % 9))) "_law_rest" (false,.int (c / 9))=σ at *
  have rest:∀ {k:Int},0<k→evE (al P X (n+1)) (vis σ) (.bin .Mod (.var "_law_rest") (.int k))=some (.int (c / 9 % k)):=fun h=>ao (ae (aa i2)) (ag _ _ _) (aJ h)
  have way:∀ k:Int,evE (al P X (n+1)) (vis σ) (.cmp .Eq (.var "_law_way") (.int k))=some (.bool (c % 9 == k)):=fun _=>aD (ae (aa i1)) (ag _ _ _) rfl
  have t60:evE (al P X (n+1)) (vis σ) (.bin .Pow (.int 10) (.int 60))=some (.int T60):=ao (ag _ _ _) (ag _ _ _) p1
  refine cV (k:=decide (c % 9<4)) (aD (ae (aa i1)) (ag _ _ _) rfl) rfl (fun _=>b0 (aw (ao (rest (by decide)) (ag _ _ _) rY) rfl rfl) rfl ⟨.inl ⟨_,rfl,g1⟩,rfl⟩) fun _=>?_
  refine cV (way 4) rfl (fun _=>b0 (aw (ao (rest (by decide)) (ag _ _ _) rY) rfl rfl) rfl ⟨.inl ⟨_,rfl,g2⟩,rfl⟩) fun _=>?_
  refine cV (way 5) rfl (fun _=>b0 (aw (au (x:=.list [.str (Str.ofString "a"),.str (Str.ofString "b"),.str (Str.ofString "1"),.str (Str.ofString "0"),.str (Str.ofString "-1"),.str (Str.ofString "col"),.str (Str.ofString "is"),.str (Str.ofString "count")]) rfl (rest (by decide)) q5') rfl rfl) rfl ⟨.inr ⟨_,rfl,hy⟩,rfl⟩) fun _=>?_
  refine cV (way 6) rfl (fun _=>b0 (aw (ao (ax (ad (ae (aa i2)) (aj _ _)) hs) (ao (ao (ae (aa i2)) (ag _ _ _) (a7 (by decide))) (ag _ _ _) (aJ (by decide))) q6) rfl rfl) rfl ⟨.inr ⟨_,rfl,g5⟩,rfl⟩) fun _=>?_
  refine cV (way 7) rfl (fun _=>b0 (aw (ao (ao (ao (ao (ao (ao (ae (aa i2)) t60 (aJ t0)) (ag _ _ _) cw) (ag _ _ _) p2) (ao (ao (ag _ _ _) t60 p3) (ag _ _ _) rY) (aJ t1)) t60 rY) (ag _ _ _) cw) rfl rfl) rfl ⟨.inl ⟨_,rfl,g3⟩,rfl⟩) fun _=>?_
  refine aY (bc (d:=.str W) (fr:=false) (aw (nJ (aT _ _ _) (eZ _ _) (rest (by decide)) w1) rfl rfl) rfl) (aY (bc (d:=.int (c / 9 / 9 % ((W.length:Int)+1))) (fr:=false) (aw (ao (ao (ae (aa (ak rfl i2))) (ag _ _ _) (a7 (by decide))) (ao (bS (ad (ae (aa aB)) (aj _ _)) w2) (ag _ _ _) cw) (aJ w3)) rfl rfl) rfl) ?_)
  exact b0 (aw (ao (ao (nJ (ae (aa (ak rfl aB))) (eZ _ _) (ae (aa aB)) w4) (ax (ad (ao (ae (aa (ak rfl (ak rfl i2)))) (ag _ _ _) (a7 (by decide))) (aj _ _)) hs') w6) (nJ (ae (aa (ak rfl aB))) (ae (aa aB)) (eZ _ _) w5) w7) rfl rfl) rfl ⟨.inr ⟨_,rfl,g4⟩,rfl⟩
 obtain⟨d,fr,⟨hd,rfl⟩,hr⟩:=cP (X:=X) (n:=n+1) (args:=[.int c]) B.thing rfl key
 exact⟨d,hd,hr⟩
theorem ofS_eq(a b:String):(Str.ofString a=Str.ofString b)=(a=b):=propext ⟨cW,fun h=>by rw[h]⟩
theorem ofS_beq(a b:String):(Str.ofString a == Str.ofString b)=(a == b):=by
 rw[Bool.eq_iff_iff,beq_iff_eq,beq_iff_eq,ofS_eq]
theorem str_tri(x y:Str):(decide (y.cps.toList<x.cps.toList)||(x == y))=!decide (x.cps.toList<y.cps.toList):=by
 rw[Bool.eq_iff_iff]
 simp only[Bool.or_eq_true,decide_eq_true_eq,beq_iff_eq,Bool.not_eq_true',decide_eq_false_iff_not]
 constructor
 ·rintro (h | rfl)
  ·exact List.lt_asymm h
  ·exact List.lt_irrefl _
 ·intro h
  by_cases h2:y.cps.toList<x.cps.toList
  ·exact .inl h2
  ·refine .inr ?_
   have:x.cps.toList=y.cps.toList:=List.le_antisymm (List.not_lt.mp h2) (List.not_lt.mp h)
   cases x;cases y
   congr 1
   exact Array.toList_inj.mp this
theorem tri{a b:D}(ha:a.isCell=true)(hb:b.isCell=true):(aV b a||d9 a b)=!aV a b:=by
 cases a <;> first | (cases ha;done) | (cases b <;> first | (cases hb;done) | rfl | exact str_tri _ _ | skip)
 rename_i i j
 show (decide (j<i)||i == j)=!decide (i<j)
 rw[Bool.eq_iff_iff];simp;omega
theorem alike_comm{a b:D}(ha:a.isCell=true)(hb:b.isCell=true):d9 a b=d9 b a:=by
 cases a <;> first | (cases ha;done) | (cases b <;> first | (cases hb;done) | rfl | exact Bool.beq_comm)
theorem pj{k:Bool}{A B:Prop}(hh:k=true)(h:A):if k=true then A else B:=by rw[if_pos hh];exact h
theorem pk{k:Bool}{A B:Prop}(hh:k=false)(h:B):if k=true then A else B:=by rw[if_neg (by rw[hh];exact Bool.false_ne_true)];exact h
theorem pB{row:List D}{p:Nat}(h:p<row.length):a9 (.tup row) (.int p)=some (row.getD p .none):=sub_t h (by rw[List.getD_eq_getElem?_getD,List.getElem?_eq_getElem h];rfl)

set_option maxRecDepth 100000
set_option maxHeartbeats 400000
noncomputable def fH:Fn:=⟨["_law_cell","_law_many_here"],[
  .assign "_law_word" (.sub (.lst [.str "same",.str "unlike",.str "before",.str "upto",.str "behind",.str "from",.str "unlike",.str "upto",.str "from"]) (.bin .Mod (.var "_law_cell") (.int 9))),
  .assign "_law_place" (.bin .Mod (.bin .FloorDiv (.var "_law_cell") (.int 9)) (.var "_law_many_here")),
  .assign "_law_rest" (.bin .FloorDiv (.bin .FloorDiv (.var "_law_cell") (.int 9)) (.var "_law_many_here")),
  .ite (.cmp .Eq (.bin .Mod (.var "_law_rest") (.int 2)) (.int 0)) [.ret (.tup [.var "_law_word",.var "_law_place",.str "col",.bin .Mod (.bin .FloorDiv (.var "_law_rest") (.int 2)) (.var "_law_many_here")])] [],
  .ret (.tup [.var "_law_word",.var "_law_place",.str "is",.call "_law_thing_by" [.bin .FloorDiv (.var "_law_rest") (.int 2)]])]⟩
noncomputable def cX:Fn:=⟨["_law_cell","_law_many_here"],[
  .ite (.bop .Or [.cmp .Eq (.var "_law_many_here") (.int 0),.cmp .Eq (.bin .Mod (.var "_law_cell") (.int 32)) (.int 15)]) [.ret (.tup [])] [],
  .ite (.cmp .Eq (.bin .Mod (.var "_law_cell") (.int 16)) (.int 14)) [.ret (.tup [.tup [.str "same",.bin .Sub (.var "_law_many_here") (.int 1),.str "col",.int 0]])] [],
  .ite (.cmp .Eq (.bin .Mod (.var "_law_cell") (.int 16)) (.int 13)) [.ret (.tup [.tup [.str "same",.int 0,.str "col",.bin .Sub (.var "_law_many_here") (.int 1)]])] [],
  .assign "_law_count" (.bin .Add (.int 1) (.bin .Mod (.bin .FloorDiv (.var "_law_cell") (.int 16)) (.int 2))),
  .ite (.cmp .Eq (.bin .Mod (.bin .FloorDiv (.var "_law_cell") (.int 32)) (.int 11)) (.int 1)) [.assign "_law_count" (.bin .Mod (.bin .FloorDiv (.var "_law_cell") (.int 352)) (.int 13))] [],
  .ret (.blt "tuple" [.comp (.call "_law_one_by" [.call "_law_mixed" [.var "_law_cell",.bin .Add (.int 40) (.var "_law_k")],.var "_law_many_here"]) "_law_k" (.blt "range" [.var "_law_count"]) []])]⟩
structure BD(P:List (String×Fn)):Prop extends BG P where
 one:P.lookup "_law_one_by"=some fH
 clause:P.lookup "_law_clause_by"=some cX
noncomputable def gV:List String:=["same","unlike","before","upto","behind","from"]
noncomputable def tst(w:String)(p:Nat)(kd:String)(o:D):D:=.tup [.str (Str.ofString w),.int p,.str (Str.ofString kd),o]
noncomputable def Tst(m:Nat)(d:D):Prop:=∃ w p,w∈gV∧p<m∧((∃ q:Nat,q<m∧d=tst w p "col" (.int q))∨∃ o,r5 o∧d=tst w p "is" o)
theorem word_at(c:Int):∃ w,w∈gV∧a9 (.list [.str (Str.ofString "same"),.str (Str.ofString "unlike"),.str (Str.ofString "before"),.str (Str.ofString "upto"),.str (Str.ofString "behind"),.str (Str.ofString "from"),.str (Str.ofString "unlike"),.str (Str.ofString "upto"),.str (Str.ofString "from")]) (.int (c % 9))=some (.str (Str.ofString w)):=by
 obtain⟨d,⟨w,rfl,hw⟩,h⟩:=cE (l:=["same","unlike","before","upto","behind","from","unlike","upto","from"].map fun s=>D.str (Str.ofString s)) (by decide) c (R:=fun d=>∃ w,d=.str (Str.ofString w)∧w∈gV) (by
  intro d hd
  obtain⟨w,hw,rfl⟩:=List.mem_map.mp hd
  exact⟨w,rfl,(by decide:∀ w∈["same","unlike","before","upto","behind","from","unlike","upto","from"],w∈gV) w hw⟩)
 exact⟨w,hw,h⟩
section
variable {P:List (String×Fn)} {X:CF}
theorem one_by(B:BD P)(n:Nat)(c:Int)(m:Nat)(h0:0<m)(h1:m≤1000):∃ d,Tst m d∧(al P X (n+3)).call "_law_one_by" [.int c,.int m]=some (d,false):=by
 obtain⟨w,hw,q1⟩:=word_at c
 have q2:(0:Int)<(m:Int)∧(m:Int)<lim:=by unfold lim;omega
 have q3:=q2.1
 obtain⟨p,hp,hpm⟩:=bM (c / 9) h0
 obtain⟨q,hq,hqm⟩:=bM (c / 9 / m / 2) h0
 obtain⟨d,gd,hd⟩:=pW (X:=X) B.toBG n (c / 9 / m / 2)
 have key:Rex (al P X (n+2)) fH.body [("_law_cell",(false,.int c)),("_law_many_here",(false,.int m))] fun d fr=>Tst m d∧fr=false:=by
  refine aY (bc (d:=.str (Str.ofString w)) (fr:=false) (aw (au (x:=.list [.str (Str.ofString "same"),.str (Str.ofString "unlike"),.str (Str.ofString "before"),.str (Str.ofString "upto"),.str (Str.ofString "behind"),.str (Str.ofString "from"),.str (Str.ofString "unlike"),.str (Str.ofString "upto"),.str (Str.ofString "from")]) rfl (ao (ae (aa af)) (ag _ _ _) (aJ (by decide))) q1) rfl rfl) rfl) ?_
  refine aY (bc (d:=.int (c / 9 % m)) (fr:=false) (aw (ao (ao (ae (aa (ak rfl af))) (ag _ _ _) (a7 (by decide))) (ae (aa (ak rfl (ai rfl af)))) (aJ q3)) rfl rfl) rfl) ?_
  refine aY (bc (d:=.int (c / 9 / m)) (fr:=false) (aw (ao (ao (ae (aa (ak rfl (ak rfl af)))) (ag _ _ _) (a7 (by decide))) (ae (aa (ak rfl (ak rfl (ai rfl af))))) (a7 q2)) rfl rfl) rfl) ?_
  refine cV (k:=c / 9 / m % 2 == 0) (aD (ao (ae (aa aB)) (ag _ _ _) (aJ (by decide))) (ag _ _ _) rfl) rfl (fun _=>?_) fun _=>?_
  ·exact b0 (aw (bN (ad (ae (aa (ak rfl (ak rfl aB)))) (ad (ae (aa (ak rfl aB))) (ad (aT _ _ _) (ad (ao (ao (ae (aa aB)) (ag _ _ _) (a7 (by decide))) (ae (aa (ak rfl (ak rfl (ak rfl (ai rfl af)))))) (aJ q3)) (aj _ _))))) (Nat.le_of_ble_eq_true rfl)) rfl rfl) rfl ⟨⟨w,p,hw,hpm,.inl ⟨q,hqm,by rw[hp,hq];rfl⟩⟩,rfl⟩
  ·exact b0 (aw (bN (ad (ae (aa (ak rfl (ak rfl aB)))) (ad (ae (aa (ak rfl aB))) (ad (aT _ _ _) (ad (ax (ad (ao (ae (aa aB)) (ag _ _ _) (a7 (by decide))) (aj _ _)) hd) (aj _ _))))) (Nat.le_of_ble_eq_true rfl)) rfl rfl) rfl ⟨⟨w,p,hw,hpm,.inr ⟨d,gd,by rw[hp];rfl⟩⟩,rfl⟩
 obtain⟨d,fr,⟨hd,rfl⟩,hr⟩:=cP (X:=X) (n:=n+2) (args:=[.int c,.int m]) B.one rfl key
 exact⟨d,hd,hr⟩
noncomputable def Cls(m:Nat)(d:D):Prop:=∃ ts,d=.tup ts∧(∀ t∈ts,Tst m t)∧ts.length≤31
theorem clause_by(B:BD P)(n:Nat)(c:Int)(m:Nat)(h1:m≤1000):∃ d,Cls m d∧(al P X (n+4)).call "_law_clause_by" [.int c,.int m]=some (d,false):=by
 have key:Rex (al P X (n+3)) cX.body [("_law_cell",(false,.int c)),("_law_many_here",(false,.int m))] fun d fr=>Cls m d∧fr=false:=by
  have nilok:Cls m (.tup []):=⟨[],rfl,(fun _ h=>nomatch h),Nat.zero_le _⟩
  by_cases hm:m=0
  ·subst hm
   exact cV (k:=true) (hZ (k:=true) (l:=true) (aD (x:=.int (0:Nat)) (ae (aa (ai rfl af))) (ag _ _ _) rfl) nofun) rfl (fun _=>b0 (aw (bN (aj _ _) (Nat.zero_le _)) rfl rfl) rfl ⟨nilok,rfl⟩) nofun
  have h0:0<m:=by omega
  have em:(m:Int) - 1=((m - 1:Nat):Int):=by omega
  have one:∀ p q:Nat,p<m→q<m→Cls m (.tup [.tup [.str (Str.ofString "same"),.int p,.str (Str.ofString "col"),.int q]]):=fun p q hp hq=>⟨_,rfl,fun t ht=>List.mem_singleton.mp ht▸⟨"same",p,by decide,hp,.inl ⟨q,hq,rfl⟩⟩,Nat.le_of_ble_eq_true rfl⟩
  have s1:=one (m - 1) 0 (by omega) h0
  have s2:=one 0 (m - 1) h0 (by omega)
  rw[← em] at s1 s2
  have tail:∀ k:Nat,k≤13→Rex (al P X (n+3)) (cX.body.drop 5) [("_law_cell",(false,.int c)),("_law_many_here",(false,.int m)),("_law_count",(false,.int k))] fun d fr=>Cls m d∧fr=false:=by
   intro k hk
   obtain⟨ds,q1,q2,q3⟩:=jp (cf:=al P X (n+3)) (ρ:=vis [("_law_cell",(false,.int c)),("_law_many_here",(false,.int m)),("_law_count",(false,.int k))]) (elt:=.call "_law_one_by" [.call "_law_mixed" [.var "_law_cell",.bin .Add (.int 40) (.var "_law_k")],.var "_law_many_here"]) (z:="_law_k") (src:=.var "_law_count") (Nat.le_trans hk (by decide)) (Tst m) rfl (by
    intro i _
    obtain⟨r,_,hr⟩:=mixed (X:=X) B.toBG (n+2) c (40+i)
    obtain⟨d,td,hd⟩:=one_by (X:=X) B n r m h0 h1
    exact⟨d,td,(ax (ad (ax (ad (Eq.trans (uS (al P X (n+3)) (("_law_k",D.int ↑i)::vis [("_law_cell",false,D.int c),("_law_many_here",false,D.int ↑m),("_law_count",false,D.int ↑k)]) "_law_cell") rfl) (ad (ao (ag _ _ _) (Eq.trans (uS (al P X (n+3)) (("_law_k",D.int ↑i)::vis [("_law_cell",false,D.int c),("_law_many_here",false,D.int ↑m),("_law_count",false,D.int ↑k)]) "_law_k") rfl) cw) (aj _ _))) hr) (ad (Eq.trans (uS (al P X (n+3)) (("_law_k",D.int ↑i)::vis [("_law_cell",false,D.int c),("_law_many_here",false,D.int ↑m),("_law_count",false,D.int ↑k)]) "_law_many_here") rfl) (aj _ _))) hd)⟩)
   exact b0 (aw q3 rfl rfl) rfl ⟨⟨ds,rfl,q2,q1▸Nat.le_trans hk (by decide)⟩,rfl⟩
  obtain⟨k1,e1,l1⟩:∃ k:Nat,1+c / 16 % 2=k∧k≤13:=⟨(1+c / 16 % 2).toNat,by omega,by omega⟩
  obtain⟨k2,e2,l2⟩:=bM (c / 352) (k:=13) (by decide)
  have e2:c / 352 % 13=(k2:Int):=e2
  have cell:∀ {σ:St} (k:Int) (j:Int),0<k→Has σ "_law_cell" (.int c)→evE (al P X (n+3)) (vis σ) (.cmp .Eq (.bin .Mod (.var "_law_cell") (.int k)) (.int j))=some (.bool (c % k == j)):=fun k j hk i=>aD (ao (ae (aa i)) (ag _ _ _) (aJ hk)) (ag _ _ _) rfl
  refine cV (k:=(m:Int) == 0||c % 32 == 15) (hZ (aD (ae (aa (ai rfl af))) (ag _ _ _) rfl) fun _=>bA (cell 32 15 (by decide) af)) rfl (fun _=>b0 (aw (bN (aj _ _) (Nat.zero_le _)) rfl rfl) rfl ⟨nilok,rfl⟩) fun _=>?_
  refine cV (cell 16 14 (by decide) af) rfl (fun _=>b0 (aw (bN (ad (bN (ad (aT _ _ _) (ad (ao (ae (aa (ai rfl af))) (ag _ _ _) rY) (ad (aT _ _ _) (ad (ag _ _ _) (aj _ _))))) (Nat.le_of_ble_eq_true rfl)) (aj _ _)) (Nat.le_of_ble_eq_true rfl)) rfl rfl) rfl ⟨s1,rfl⟩) fun _=>?_
  refine cV (cell 16 13 (by decide) af) rfl (fun _=>b0 (aw (bN (ad (bN (ad (aT _ _ _) (ad (ag _ _ _) (ad (aT _ _ _) (ad (ao (ae (aa (ai rfl af))) (ag _ _ _) rY) (aj _ _))))) (Nat.le_of_ble_eq_true rfl)) (aj _ _)) (Nat.le_of_ble_eq_true rfl)) rfl rfl) rfl ⟨s2,rfl⟩) fun _=>?_
  refine aY (bc (d:=.int k1) (fr:=false) (by rw[← e1];exact aw (ao (ag _ _ _) (ao (ao (ae (aa af)) (ag _ _ _) (a7 (by decide))) (ag _ _ _) (aJ (by decide))) cw) rfl rfl) rfl) ?_
  refine cV (k:=c / 32 % 11 == 1) (aD (ao (ao (ae (aa (ak rfl af))) (ag _ _ _) (a7 (by decide))) (ag _ _ _) (aJ (by decide))) (ag _ _ _) rfl) rfl (fun _=>?_) fun _=>un rfl (tail k1 l1)
  exact aY (bc (d:=.int k2) (fr:=false) (by rw[← e2];exact aw (ao (ao (ae (aa (ak rfl af))) (ag _ _ _) (a7 (by decide))) (ag _ _ _) (aJ (by decide))) rfl rfl) rfl) (un rfl (tail k2 (Nat.le_of_lt l2)))
 obtain⟨d,fr,⟨hd,rfl⟩,hr⟩:=cP (X:=X) (n:=n+3) (args:=[.int c,.int m]) B.clause rfl key
 exact⟨d,hd,hr⟩
end

theorem ja{cf:CF}{ρ:List (String×D)}{elt c:ME}{x:String}{it y d:D}{k:Bool}(hc:evE cf ((x,it)::ρ) c=some d)(ht:bE d=some k)(he:k=true→evE cf ((x,it)::ρ) elt=some y):ni cf ρ elt x [c] it=some (if k=true then some y else none):=by
 have e:lG cf ((x,it)::ρ) [c]=some k:=by
  show (match evE cf ((x,it)::ρ) c with | some d=>(match bE d with | some t=>if t then some true else some false | none=>none) | none=>none)=_
  rw[hc];show (match bE d with | some t=>_ | none=>_)=_;rw[ht];cases k <;> rfl
 unfold ni;rw[e]
 cases k with
 | true=>show (match evE cf ((x,it)::ρ) elt with | some y=>_ | none=>_)=_;rw[he rfl];rfl
 | false=>rfl
theorem nh{α:Type}(f:D→Option (Option D))(h g:α→D):∀ (l:List α),(∀ a∈l,f (h a)=some (some (g a)))→bO f (l.map h)=some (l.map g)
 | [],_=>rfl
 | a::r,e=>by
  rw[List.map_cons,bO,e a (.head _)]
  show (match bO f (r.map h) with | none=>none | some ds=>_)=_
  rw[nh f h g r fun i hi=>e i (.tail _ hi)];rfl

set_option maxRecDepth 100000
set_option maxHeartbeats 400000
noncomputable def fn_places_of:Fn:=⟨["clause"],[
  .assign "found" (.lst []),
  .for_ "test" (.var "clause") [.append "found" (.sub (.var "test") (.int 1)),.ite (.cmp .Eq (.sub (.var "test") (.int 2)) (.str "col")) [.append "found" (.sub (.var "test") (.int 3))] []],
  .ret (.sset (.var "found"))]⟩
noncomputable def gZ:Fn:=⟨["places","many"],[
  .for_ "place" (.var "places") [.ite (.bop .Or [.cmp .Lt (.var "place") (.int 0),.cmp .GtE (.var "place") (.var "many")]) [.bad] []]]⟩
noncomputable def fn_width_upon:Fn:=⟨["query","within"],[
  .assign "word" (.sub (.var "query") (.int 0)),
  .ite (.cmp .Eq (.var "word") (.str "sieve")) [.for_ "clause" (.sub (.var "query") (.int 1)) [.expr (.call "need_columns" [.call "places_of" [.var "clause"],.var "within"])]] [],
  .ite (.cmp .Eq (.var "word") (.str "pick")) [.expr (.call "need_columns" [.sub (.var "query") (.int 1),.var "within"]),.ret (.blt "len" [.sub (.var "query") (.int 1)])] [],
  .ite (.cmp .Eq (.var "word") (.str "group")) [.expr (.call "need_columns" [.sub (.var "query") (.int 1),.var "within"]),.expr (.call "need_columns" [.comp (.sub (.var "one") (.int 1)) "one" (.sub (.var "query") (.int 2)) [],.var "within"]),.ret (.bin .Add (.blt "len" [.sub (.var "query") (.int 1)]) (.blt "len" [.sub (.var "query") (.int 2)]))] [],
  .ite (.cmp .Eq (.var "word") (.str "order")) [.expr (.call "need_columns" [.comp (.sub (.var "one") (.int 0)) "one" (.sub (.var "query") (.int 1)) [],.var "within"])] [],
  .ite (.bop .And [.cmp .Eq (.var "word") (.str "first"),.cmp .Lt (.sub (.var "query") (.int 1)) (.int 0)]) [.bad] [],
  .ret (.var "within")]⟩
noncomputable def fn_width_of_two:Fn:=⟨["query","first","second"],[
  .ite (.cmp .Eq (.sub (.var "query") (.int 0)) (.str "join")) [.expr (.call "need_columns" [.comp (.sub (.var "pair") (.int 0)) "pair" (.sub (.var "query") (.int 3)) [],.var "first"]),.expr (.call "need_columns" [.comp (.sub (.var "pair") (.int 1)) "pair" (.sub (.var "query") (.int 3)) [],.var "second"]),.ret (.bin .Add (.var "first") (.var "second"))] [],
  .ite (.cmp .NotEq (.var "first") (.var "second")) [.bad] [],
  .ret (.var "first")]⟩
noncomputable def fn_width:Fn:=⟨["query","widths"],[
  .assign "word" (.sub (.var "query") (.int 0)),
  .ite (.cmp .NotIn (.var "word") (.glob "STEPS")) [.bad] [],
  .ite (.cmp .Eq (.var "word") (.str "table")) [.ite (.cmp .NotIn (.sub (.var "query") (.int 1)) (.var "widths")) [.bad] [],.ret (.sub (.var "widths") (.sub (.var "query") (.int 1)))] [],
  .ite (.bop .Or [.cmp .Eq (.var "word") (.str "join"),.cmp .Eq (.var "word") (.str "both")]) [.assign "first" (.call "width" [.sub (.var "query") (.int 1),.var "widths"]),.assign "second" (.call "width" [.sub (.var "query") (.int 2),.var "widths"]),.ret (.call "width_of_two" [.var "query",.var "first",.var "second"])] [],
  .ret (.call "width_upon" [.var "query",.call "width" [.sub (.var "query") (.neg (.int 1)),.var "widths"]])]⟩
structure BW(P:List (String×Fn)):Prop where
 po:P.lookup "places_of"=some fn_places_of
 nc:P.lookup "need_columns"=some gZ
 wu:P.lookup "width_upon"=some fn_width_upon
 w2:P.lookup "width_of_two"=some fn_width_of_two
 wd:P.lookup "width"=some fn_width
noncomputable def mo(t:D):List Int:=match t with
 | .tup [_,.int p,.str k,o]=>if k == Str.ofString "col" then (match o with | .int q=>[p,q] | _=>[p]) else [p]
 | _=>[]
theorem col_t:(Str.ofString "col" == Str.ofString "col")=true:=by decide +kernel
theorem col_f:(Str.ofString "is" == Str.ofString "col")=false:=by decide +kernel
theorem pls_col(w:String)(p q:Nat):mo (tst w p "col" (.int q))=[(p:Int),(q:Int)]:=rfl
theorem pls_is(w:String)(p:Nat)(o:D):mo (tst w p "is" o)=[(p:Int)]:=rfl
theorem eq_col:eG .Eq (.str (Str.ofString "col")) (.str (Str.ofString "col"))=some (.bool true):=by show some (D.bool (_ == _))=_;rw[col_t]
theorem eq_is:eG .Eq (.str (Str.ofString "is")) (.str (Str.ofString "col"))=some (.bool false):=by show some (D.bool (_ == _))=_;rw[col_f]
theorem mZ{m:Nat}:∀ ts:List D,(∀ t∈ts,Tst m t)→(ts.flatMap mo).length≤2 * ts.length
 | [],_=>Nat.zero_le _
 | t::ts,h=>by
  rw[List.flatMap_cons,List.length_append,List.length_cons,Nat.mul_succ,Nat.add_comm]
  refine Nat.add_le_add (mZ ts fun u hu=>h u (.tail _ hu)) ?_
  obtain⟨w,p,_,_,⟨q,_,rfl⟩ | ⟨o,_,rfl⟩⟩:=h t (.head _)
  ·exact Nat.le_refl 2
  ·exact Nat.le_succ 1
theorem ot:∀ ns:List Int,mQ (ns.map .int)=some ns
 | []=>rfl
 | n::ns=>by
  show (mQ (ns.map .int)).map (n::·)=_
  rw[ot ns];rfl

inductive Q where
 | table (nm:Str)
 | sieve (cs:List (List D)) (q:Q)
 | pick (ps:List Nat) (q:Q)
 | group (ps:List Nat) (ss:List (String×Nat)) (q:Q)
 | order (ks:List (Nat×Bool)) (q:Q)
 | once (q:Q)
 | first (c:Nat) (q:Q)
 | join (a b:Q) (prs:List (Nat×Nat))
 | both (a b:Q)
noncomputable def sD(s:String):D:=.str (Str.ofString s)
noncomputable def br(n:Nat):D:=.int n
noncomputable def clD(c:List D):D:=.tup c
noncomputable def dJ(x:String×Nat):D:=.tup [sD x.1,br x.2]
noncomputable def d4(k:Nat×Bool):D:=.tup [br k.1,.bool k.2]
noncomputable def prT(k:Nat×Nat):D:=.tup [br k.1,br k.2]
noncomputable def Q.d:Q→D
 | table nm=>.tup [sD "table",.str nm]
 | sieve cs q=>.tup [sD "sieve",.tup (cs.map clD),q.d]
 | pick ps q=>.tup [sD "pick",.tup (ps.map br),q.d]
 | group ps ss q=>.tup [sD "group",.tup (ps.map br),.tup (ss.map dJ),q.d]
 | order ks q=>.tup [sD "order",.tup (ks.map d4),q.d]
 | once q=>.tup [sD "once",q.d]
 | first c q=>.tup [sD "first",br c,q.d]
 | join a b prs=>.tup [sD "join",a.d,b.d,.tup (prs.map prT)]
 | both a b=>.tup [sD "both",a.d,b.d]
noncomputable abbrev Wd:=List (Str×Nat)
noncomputable def Q.wd(W:Wd):Q→Nat
 | table nm=>(W.lookup nm).getD 0
 | sieve _ q | order _ q | once q | first _ q=>q.wd W
 | pick ps _=>ps.length
 | group ps ss _=>ps.length+ss.length
 | join a b _=>a.wd W+b.wd W
 | both a _=>a.wd W
noncomputable def lC(m:Nat)(c:List D):Prop:=(∀ t∈c,Tst m t)∧c.length≤31
noncomputable def Q.ok(W:Wd):Q→Prop
 | table nm=>∃ n,W.lookup nm=some n
 | sieve cs q=>q.ok W∧(∀ c∈cs,lC (q.wd W) c)∧cs.length≤1000
 | pick ps q=>q.ok W∧(∀ p∈ps,p<q.wd W)∧ps.length≤1000
 | group ps ss q=>q.ok W∧(∀ p∈ps,p<q.wd W)∧(∀ x∈ss,x.2<q.wd W)∧ps.length≤1000∧ss.length≤1000
 | order ks q=>q.ok W∧(∀ k∈ks,k.1<q.wd W)∧ks.length≤1000
 | once q | first _ q=>q.ok W
 | join a b prs=>a.ok W∧b.ok W∧(∀ k∈prs,k.1<a.wd W∧k.2<b.wd W)∧prs.length≤5000
 | both a b=>a.ok W∧b.ok W∧a.wd W=b.wd W
noncomputable def Q.dp:Q→Nat
 | table _=>0
 | sieve _ q | order _ q | once q | first _ q | pick _ q | group _ _ q=>q.dp+1
 | join a b _ | both a b=>max a.dp b.dp+1
noncomputable def Q.cp:Q→Nat
 | table _=>0
 | sieve cs q=>cs.length+q.cp
 | pick _ q | group _ _ q | order _ q | once q | first _ q=>q.cp
 | join a b _ | both a b=>max a.cp b.cp
noncomputable def Q.pr:Q→Nat
 | table _=>0
 | sieve _ q | pick _ q | group _ _ q | order _ q | once q | first _ q=>q.pr
 | join a b prs=>max prs.length (max a.pr b.pr)
 | both a b=>max a.pr b.pr
noncomputable def nU:List String:=["count","sum","least","most"]
noncomputable def Q.nar(W:Wd)(k:Nat):Q→Prop
 | table _=>True
 | sieve _ q | pick _ q | order _ q | once q | first _ q=>q.nar W k
 | group _ ss q=>q.nar W k∧∀ s∈ss,s.1∈nU
 | join a b _=>a.nar W k∧b.nar W k∧a.wd W+b.wd W≤k
 | both a b=>a.nar W k∧b.nar W k
section
variable {P:List (String×Fn)} {X:CF} {m:Nat}
theorem places_of(B:BW P)(n:Nat){ts:List D}(ht:∀ t∈ts,Tst m t)(hl:ts.length≤31):(al P X (n+1)).call "places_of" [.tup ts]=some (.list ((jN (ts.flatMap mo)).map .int),true):=by
 have hbig:2000<big:=by decide
 refine az B.po rfl ?_
 refine aL (av (d:=.list []) (fr:=true) rfl) ?_
 obtain⟨σ',i1,h3⟩:=mB (cf:=al P X n) (body:=[.append "found" (.sub (.var "test") (.int 1)),.ite (.cmp .Eq (.sub (.var "test") (.int 2)) (.str "col")) [.append "found" (.sub (.var "test") (.int 3))] []]) (z:="test")
  (fun a σ=>dA σ "found" (.list ((a.flatMap mo).map .int))) ts [] [("clause",(false,.tup ts)),("found",(true,.list []))] rfl (by
   rintro a it b σ hab i1
   rw[List.nil_append] at hab
   have hit:it∈ts:=by rw[hab];simp
   have hal:a.length<ts.length:=by rw[hab];simp
   have hfl:=mZ a fun t h=>ht t (by rw[hab];exact List.mem_append_left _ h)
   obtain⟨w,p,hw,hp,⟨q,hq,rfl⟩ | ⟨o,ho,rfl⟩⟩:=ht it hit
   ·rw[List.flatMap_append,List.flatMap_cons,List.flatMap_nil,pls_col,List.map_append]
    refine aN (cQ (d:=.int p) (ds:=(a.flatMap mo).map .int) (au (x:=tst w p "col" (.int q)) (y:=.int 1) (ae (aa aB)) (ag _ _ _) rfl) (?_:dA _ _ _) (by rw[List.length_map];omega)) ?_
    ·exact eQ rfl (cO rfl i1)
    refine cM (k:=true) (aD (au (x:=tst w p "col" (.int q)) (y:=.int 2) (ae (aa (ak rfl (ay aB)))) (ag _ _ _) rfl) (aT _ _ _) eq_col) rfl (fun _=>?_) nofun
    refine aN (cQ (d:=.int q) (ds:=(a.flatMap mo).map .int++[.int p]) (au (x:=tst w p "col" (.int q)) (y:=.int 3) (ae (aa (ak rfl (ay aB)))) (ag _ _ _) rfl) (?_:dA _ _ _) (by rw[List.length_append,List.length_map];simp only[List.length_cons,List.length_nil];omega)) (bJ ⟨rfl,?_⟩)
    ·exact eQ rfl et
    ·rw[List.append_assoc];exact et
   ·rw[List.flatMap_append,List.flatMap_cons,List.flatMap_nil,pls_is,List.map_append]
    refine aN (cQ (d:=.int p) (ds:=(a.flatMap mo).map .int) (au (x:=tst w p "is" o) (y:=.int 1) (ae (aa aB)) (ag _ _ _) rfl) (?_:dA _ _ _) (by rw[List.length_map];omega)) ?_
    ·exact eQ rfl (cO rfl i1)
    exact cM (k:=false) (aD (au (x:=tst w p "is" o) (y:=.int 2) (ae (aa (ak rfl (ay aB)))) (ag _ _ _) rfl) (aT _ _ _) eq_is) rfl nofun fun _=>bJ ⟨rfl,et⟩)
 have hs:md (.list ((ts.flatMap mo).map .int))=some (.list ((jN (ts.flatMap mo)).map .int)):=by
  show (if _<63 then (mQ _).map _ else _)=_
  have:=mZ ts ht
  rw[if_pos (by rw[List.length_map];omega),ot];rfl
 refine eH (x:=.tup ts) (its:=ts) rfl rfl h3 (aK (aw (v_sset (x:=.list ((ts.flatMap mo).map .int)) (ae (aa (qS i1))) hs) rfl rfl) rfl)

theorem fall_call{g:String}{ps:List String}{bd:List MS}{n:Nat}{args:List D}{σ':St}(h:P.lookup g=some ⟨ps,bd⟩)(hl:args.length=ps.length)(k:a8 (al P X n) bd ((ps.zip args).map fun p=>(p.1,(false,p.2)))=some (.next,σ')) :
  (al P X (n+1)).call g args=some (.none,false):=by rw[tB n args h hl];show fin (a8 _ bd _)=_;rw[k];rfl
theorem need_columns(B:BW P)(n:Nat){ls:D}{its:List D}(hi:ls.items=some its){w:Nat}(h:∀ d∈its,∃ p:Nat,p<w∧d=.int p):(al P X (n+1)).call "need_columns" [ls,.int w]=some (.none,false):=by
 have key:∃ σ',cj (cC (al P X n) [.ite (.bop .Or [.cmp .Lt (.var "place") (.int 0),.cmp .GtE (.var "place") (.var "many")]) [.bad] []] "place") its (freeze ["places"] [("places",(false,ls)),("many",(false,.int w))])=some (.next,σ'):=by
  obtain⟨σ',_,h3⟩:=mB (cf:=al P X n) (body:=[.ite (.bop .Or [.cmp .Lt (.var "place") (.int 0),.cmp .GtE (.var "place") (.var "many")]) [.bad] []]) (z:="place") (fun _ σ=>Has σ "many" (.int w)) its [] (freeze ["places"] [("places",(false,ls)),("many",(false,.int w))]) (b9 (ai rfl af)) (by
   rintro a it b σ hab i
   rw[List.nil_append] at hab
   obtain⟨p,hp,rfl⟩:=h it (by rw[hab];simp)
   have h1:eG .Lt (.int p) (.int 0)=some (.bool false):=by
    show some (D.bool (decide ((p:Int)<0)))=_
    rw[decide_eq_false (by omega)]
   have h2:eG .GtE (.int p) (.int w)=some (.bool false):=by
    show some (D.bool (decide ((p:Int) ≥ w)))=_
    rw[decide_eq_false (by omega)]
   exact cM (k:=false) (x:=.bool (false||false)) (hZ (k:=false) (l:=false) (aD (ae (aa aB)) (ag _ _ _) h1) fun _=>bA (aD (ae (aa aB)) (ae (aa (ak rfl i))) h2)) rfl nofun fun _=>bJ ⟨rfl,ak rfl i⟩)
  exact⟨σ',h3⟩
 obtain⟨σ',h3⟩:=key
 obtain⟨fl,σ2,rfl,q⟩:Out (al P X n) gZ.body [("places",(false,ls)),("many",(false,.int w))] fun fl _=>fl=.next:=sy (d:=ls) rfl hi h3 (bJ rfl)
 exact fall_call B.nc rfl q
end

set_option maxRecDepth 100000
set_option maxHeartbeats 400000
noncomputable def jg:List D:=[.str (Str.ofString "table"),.str (Str.ofString "sieve"),.str (Str.ofString "pick"),.str (Str.ofString "join"),.str (Str.ofString "group"),.str (Str.ofString "order"),.str (Str.ofString "both"),.str (Str.ofString "once"),.str (Str.ofString "first")]
section
variable {P:List (String×Fn)} {X:CF} {W:Wd}
end

set_option maxRecDepth 100000
set_option maxHeartbeats 400000
theorem ps_at{ps:List Nat}{p:Nat}(h:p<ps.length):a9 (.tup (ps.map br)) (.int p)=some (br (ps.getD p 0)):=by
 refine sub_t (by rw[List.length_map];exact h) ?_
 rw[List.getElem?_map,List.getElem?_eq_getElem h,List.getD_eq_getElem?_getD,List.getElem?_eq_getElem h];rfl
section
variable {P:List (String×Fn)} {X:CF}
end

set_option maxRecDepth 100000
set_option maxHeartbeats 400000
noncomputable def qW:Fn:=⟨["one","other"],[
  .ret (.bop .And [.cmp .Eq (.isi (.var "one") "str") (.isi (.var "other") "str"),.cmp .Eq (.var "one") (.var "other")])]⟩
noncomputable def pE:Fn:=⟨["test","row"],[
  .assign "one" (.sub (.var "row") (.sub (.var "test") (.int 1))),
  .assign "other" (.sub (.var "test") (.int 3)),
  .ite (.cmp .Eq (.sub (.var "test") (.int 2)) (.str "col")) [.assign "other" (.sub (.var "row") (.sub (.var "test") (.int 3)))] [],
  .assign "word" (.sub (.var "test") (.int 0)),
  .ite (.cmp .Eq (.var "word") (.str "same")) [.ret (.call "alike" [.var "one",.var "other"])] [],
  .ite (.cmp .Eq (.var "word") (.str "unlike")) [.ret (.not (.call "alike" [.var "one",.var "other"]))] [],
  .ite (.cmp .Eq (.var "word") (.str "before")) [.ret (.call "before" [.var "one",.var "other"])] [],
  .ite (.cmp .Eq (.var "word") (.str "upto")) [.ret (.bop .Or [.call "before" [.var "one",.var "other"],.call "alike" [.var "one",.var "other"]])] [],
  .ite (.cmp .Eq (.var "word") (.str "behind")) [.ret (.call "before" [.var "other",.var "one"])] [],
  .ret (.bop .Or [.call "before" [.var "other",.var "one"],.call "alike" [.var "one",.var "other"]])]⟩
noncomputable def mY:Fn:=⟨["clause","row"],[
  .for_ "test" (.var "clause") [.ite (.call "does" [.var "test",.var "row"]) [.ret (.bool true)] []],
  .ret (.bool false)]⟩
noncomputable def mX:Fn:=⟨["clauses","row"],[
  .for_ "clause" (.var "clauses") [.ite (.not (.call "holds" [.var "clause",.var "row"])) [.ret (.bool false)] []],
  .ret (.bool true)]⟩
noncomputable def lx:Fn:=⟨["row","places"],[
  .ret (.blt "tuple" [.comp (.sub (.var "row") (.var "place")) "place" (.var "places") []])]⟩
noncomputable def mW:Fn:=⟨["one","other","pairs"],[
  .for_ "pair" (.var "pairs") [.ite (.not (.call "alike" [.sub (.var "one") (.sub (.var "pair") (.int 0)),.sub (.var "other") (.sub (.var "pair") (.int 1))])) [.ret (.bool false)] []],
  .ret (.bool true)]⟩
noncomputable def rV:Fn:=⟨["first","second","pairs"],[
  .assign "found" (.lst []),
  .for_ "one" (.var "first") [.for_ "other" (.var "second") [.ite (.call "meets" [.var "one",.var "other",.var "pairs"]) [.append "found" (.bin .Add (.var "one") (.var "other"))] []]],
  .ret (.var "found")]⟩
noncomputable def jy:Fn:=⟨["one","rows"],[
  .assign "word" (.sub (.var "one") (.int 0)),
  .assign "place" (.sub (.var "one") (.int 1)),
  .ite (.cmp .Eq (.var "word") (.str "count")) [.ret (.blt "len" [.var "rows"])] [],
  .ite (.cmp .Eq (.var "word") (.str "sum")) [.ret (.blt "sum" [.comp (.sub (.var "row") (.var "place")) "row" (.var "rows") [.not (.isi (.sub (.var "row") (.var "place")) "str")]])] [],
  .assign "found" (.sub (.sub (.var "rows") (.int 0)) (.var "place")),
  .for_ "row" (.var "rows") [.ite (.bop .And [.cmp .Eq (.var "word") (.str "least"),.call "before" [.sub (.var "row") (.var "place"),.var "found"]]) [.assign "found" (.sub (.var "row") (.var "place"))] [],.ite (.bop .And [.cmp .Eq (.var "word") (.str "most"),.call "before" [.var "found",.sub (.var "row") (.var "place")]]) [.assign "found" (.sub (.var "row") (.var "place"))] []],
  .ret (.var "found")]⟩
noncomputable def jB:Fn:=⟨["rows","places","sums"],[
  .assign "groups" (.dct [] []),
  .grp,
  .assign "found" (.lst []),
  .for_ "own" (.var "groups") [.assign "told" (.comp (.call "told_of" [.var "one",.sub (.var "groups") (.var "own")]) "one" (.var "sums") []),.append "found" (.bin .Add (.var "own") (.blt "tuple" [.var "told"]))],
  .ret (.var "found")]⟩
noncomputable def tn:Fn:=⟨["cell"],[
  .ret (.tup [.isi (.var "cell") "str",.var "cell"])]⟩
noncomputable def jA:Fn:=⟨["rows","keys"],[
  .assign "found" (.lcp (.var "rows")),
  .forr "one" (.var "keys") [.assign "place" (.sub (.var "one") (.int 0)),.ite (.sub (.var "one") (.int 1)) [.assign "found" (.srt (.var "found") "rank" "row" "place" true)] [.assign "found" (.srt (.var "found") "rank" "row" "place" false)]],
  .ret (.var "found")]⟩
noncomputable def pD:Fn:=⟨["rows"],[
  .assign "known" (.dct [] []),
  .assign "found" (.lst []),
  .for_ "row" (.var "rows") [.ite (.cmp .NotIn (.var "row") (.var "known")) [.setk "known" (.var "row") (.bool true),.append "found" (.var "row")] []],
  .ret (.var "found")]⟩
noncomputable def jz:Fn:=⟨["query","rows"],[
  .assign "word" (.sub (.var "query") (.int 0)),
  .ite (.cmp .Eq (.var "word") (.str "sieve")) [.ret (.comp (.var "row") "row" (.var "rows") [.call "keeps" [.sub (.var "query") (.int 1),.var "row"]])] [],
  .ite (.cmp .Eq (.var "word") (.str "pick")) [.ret (.comp (.call "cells_at" [.var "row",.sub (.var "query") (.int 1)]) "row" (.var "rows") [])] [],
  .ite (.cmp .Eq (.var "word") (.str "group")) [.ret (.call "grouped" [.var "rows",.sub (.var "query") (.int 1),.sub (.var "query") (.int 2)])] [],
  .ite (.cmp .Eq (.var "word") (.str "order")) [.ret (.call "ordered" [.var "rows",.sub (.var "query") (.int 1)])] [],
  .ite (.cmp .Eq (.var "word") (.str "once")) [.ret (.call "once" [.var "rows"])] [],
  .ret (.sl (.var "rows") .none (.sub (.var "query") (.int 1)))]⟩
noncomputable def i9:Fn:=⟨["query","tables"],[
  .assign "word" (.sub (.var "query") (.int 0)),
  .ite (.cmp .NotIn (.var "word") (.glob "STEPS")) [.bad] [],
  .ite (.cmp .Eq (.var "word") (.str "table")) [.ite (.cmp .NotIn (.sub (.var "query") (.int 1)) (.var "tables")) [.bad] [],.ret (.lcp (.sub (.var "tables") (.sub (.var "query") (.int 1))))] [],
  .ite (.cmp .Eq (.var "word") (.str "join")) [.assign "first" (.call "answer" [.sub (.var "query") (.int 1),.var "tables"]),.ret (.call "met" [.var "first",.call "answer" [.sub (.var "query") (.int 2),.var "tables"],.sub (.var "query") (.int 3)])] [],
  .ite (.cmp .Eq (.var "word") (.str "both")) [.assign "first" (.call "answer" [.sub (.var "query") (.int 1),.var "tables"]),.ret (.bin .Add (.var "first") (.call "answer" [.sub (.var "query") (.int 2),.var "tables"]))] [],
  .ret (.call "stepped" [.var "query",.call "answer" [.sub (.var "query") (.neg (.int 1)),.var "tables"]])]⟩
structure BA(P:List (String×Fn)):Prop where
 before:P.lookup "before"=some kU
 alike:P.lookup "alike"=some qW
 does:P.lookup "does"=some pE
 holds:P.lookup "holds"=some mY
 keeps:P.lookup "keeps"=some mX
 cells_at:P.lookup "cells_at"=some lx
 meets:P.lookup "meets"=some mW
 met:P.lookup "met"=some rV
 told_of:P.lookup "told_of"=some jy
 grouped:P.lookup "grouped"=some jB
 rank:P.lookup "rank"=some tn
 ordered:P.lookup "ordered"=some jA
 once:P.lookup "once"=some pD
 stepped:P.lookup "stepped"=some jz
 answer:P.lookup "answer"=some i9
noncomputable def k9(w:String)(a b:D):Bool:=
 if w="same" then d9 a b else if w="unlike" then !d9 a b else if w="before" then aV a b else if w="upto" then !aV b a
 else if w="behind" then aV b a else !aV a b
noncomputable def othV(row:List D)(kd:String)(o:D):D:=if kd="col" then (match o with | .int q=>row.getD q.toNat .none | _=>.none) else o
noncomputable def tV(row:List D)(t:D):Bool:=match t with
 | .tup [.str w,.int p,.str kd,o]=>["same","unlike","before","upto","behind","from"].any fun x=>Str.ofString x == w&&k9 x (row.getD p.toNat .none) (othV row (if kd == Str.ofString "col" then "col" else "is") o)
 | _=>false
theorem oR(row:List D){w:String}(hw:w∈gV)(p:Nat)(kd:String)(o:D):tV row (tst w p kd o)=k9 w (row.getD p .none) (othV row (if kd == "col" then "col" else "is") o):=by
 unfold tV tst
 simp only[ofS_beq,Int.toNat_natCast]
 simp only[gV,List.mem_cons,List.not_mem_nil,or_false] at hw
 rcases hw with rfl | rfl | rfl | rfl | rfl | rfl <;> simp
section
variable {P:List (String×Fn)} {X:CF}
theorem pS{w:String}(hw:w∈gV):w="same"∨w="unlike"∨w="before"∨w="upto"∨w="behind"∨w="from":=by
 simpa only [gV,List.mem_cons,List.not_mem_nil,or_false] using hw
theorem rA(B:BA P)(n:Nat)(a b:D)(ha:a.isCell=true)(hb:b.isCell=true):(al P X (n+1)).call "alike" [a,b]=some (.bool (d9 a b),false):=by
 refine az B.alike rfl ?_
 cases a <;> first | (cases ha;done) | (cases b <;> first | (cases hb;done) | rfl)
theorem gS(B:BA P)(n:Nat)(a b:D)(ha:a.isCell=true)(hb:b.isCell=true):(al P X (n+1)).call "before" [a,b]=some (.bool (aV a b),false):=by
 refine az B.before rfl ?_
 cases a <;> first | (cases ha;done) | (cases b <;> first | (cases hb;done) | rfl)
theorem kZ{row:List D}(hr:∀ d∈row,d.isCell=true){p:Nat}(hp:p<row.length):(row.getD p .none).isCell=true:=by
 rw[List.getD_eq_getElem?_getD,List.getElem?_eq_getElem hp];exact hr _ (List.getElem_mem hp)
variable {cf:CF} {σ:St} {t r:List MS} {w w2:String} {R:D} {fr:Bool}
theorem skW(hne:(Str.ofString w == Str.ofString w2)=false)(h:Has σ "word" (sD w))(k:Run cf r σ R fr):Run cf (.ite (.cmp .Eq (.var "word") (.str w2)) t []::r) σ R fr:=
 cH (k:=false) (x:=.bool false) (aD (ae (aa h)) (aT _ _ _) (by show some (D.bool (Str.ofString w == Str.ofString w2))=_;rw[hne])) rfl nofun fun _=>k
theorem kO(h:Has σ "word" (sD w))(k:Run cf (t++r) σ R fr):Run cf (.ite (.cmp .Eq (.var "word") (.str w)) t []::r) σ R fr:=
 cH (k:=true) (x:=.bool true) (aD (ae (aa h)) (aT _ _ _) (by show some (D.bool (Str.ofString w == Str.ofString w))=_;rw[beq_self_eq_true])) rfl (fun _=>k) nofun
theorem ox(B:BA P)(n:Nat){w:String}(hw:w∈gV){a b:D}(ha:a.isCell=true)(hb:b.isCell=true){σ:St}(iw:Has σ "word" (sD w))(i1:Has σ "one" a)(i2:Has σ "other" b):Run (al P X (n+1)) (pE.body.drop 4) σ (.bool (k9 w a b)) false:=by
 have q1:=rA (X:=X) B n a b ha hb
 have q3:=gS (X:=X) B n a b ha hb
 have q4:=gS (X:=X) B n b a hb ha
 have t1:=tri ha hb
 have t2:=tri hb ha
 rw[alike_comm hb ha] at t2
 generalize al P X (n+1)=cf at *
 have ab:bV cf (vis σ) [.var "one",.var "other"]=some [a,b]:=ad (ae (aa i1)) (ad (ae (aa i2)) (aj _ _))
 have ba:bV cf (vis σ) [.var "other",.var "one"]=some [b,a]:=ad (ae (aa i2)) (ad (ae (aa i1)) (aj _ _))
 rcases pS hw with rfl | rfl | rfl | rfl | rfl | rfl
 ·exact kO iw (aK (aM ab q1) rfl)
 ·exact skW (by decide +kernel) iw (kO iw (aK (aw (fc (ax ab q1) rfl) rfl rfl) rfl))
 ·exact skW (by decide +kernel) iw (skW (by decide +kernel) iw (kO iw (aK (aM ab q3) rfl)))
 ·show Run cf _ _ (.bool (!aV b a)) _
  rw[← t2]
  exact skW (by decide +kernel) iw (skW (by decide +kernel) iw (skW (by decide +kernel) iw (kO iw (aK (aw (hZ (ax ab q3) fun _=>bA (ax ab q1)) rfl rfl) rfl))))
 ·exact skW (by decide +kernel) iw (skW (by decide +kernel) iw (skW (by decide +kernel) iw (skW (by decide +kernel) iw (kO iw (aK (aM ba q4) rfl)))))
 ·show Run cf _ _ (.bool (!aV a b)) _
  rw[← t1]
  exact skW (by decide +kernel) iw (skW (by decide +kernel) iw (skW (by decide +kernel) iw (skW (by decide +kernel) iw (skW (by decide +kernel) iw (aK (aw (hZ (ax ba q4) fun _=>bA (ax ab q1)) rfl rfl) rfl)))))
theorem does_eq(B:BA P)(n:Nat){row:List D}(hr:∀ d∈row,d.isCell=true){t:D}(ht:Tst row.length t):(al P X (n+2)).call "does" [t,.tup row]=some (.bool (tV row t),false):=by
 obtain⟨w,p,hw,hp,hcase⟩:=ht
 have ha:=kZ hr hp
 have h1:=pB hp
 refine az B.does rfl ?_
 rcases hcase with⟨q,hq,rfl⟩ | ⟨o,ho,rfl⟩
 ·rw[show tV row (tst w p "col" (.int q))=k9 w (row.getD p .none) (row.getD q .none) from oR row hw p "col" (.int q)]
  have hb:=kZ hr hq
  refine aL (bc (d:=row.getD p .none) (fr:=false) (aw (au (ae (aa (ai rfl af))) (au (x:=tst w p "col" (.int q)) (ae (aa af)) (ag _ _ _) rfl) h1) rfl rfl) ha) (aL (bc (d:=.int q) (fr:=false) (aw (au (x:=tst w p "col" (.int q)) (ae (aa (ak rfl af))) (ag _ _ _) rfl) rfl rfl) rfl) (cH (k:=true) (x:=.bool true) (aD (au (x:=tst w p "col" (.int q)) (ae (aa (ak rfl (ak rfl af)))) (ag _ _ _) rfl) (aT _ _ _) rfl) rfl (fun _=>?_) nofun))
  refine aL (bc (d:=row.getD q .none) (fr:=false) (aw (au (ae (aa (ak rfl (ak rfl (ai rfl af))))) (au (x:=tst w p "col" (.int q)) (ae (aa (ak rfl (ak rfl af)))) (ag _ _ _) rfl) (pB hq)) rfl rfl) hb) (aL (bc (d:=sD w) (fr:=false) (aw (au (x:=tst w p "col" (.int q)) (ae (aa (ak rfl (ak rfl (ak rfl af))))) (ag _ _ _) rfl) rfl rfl) rfl) ?_)
  exact ox B n hw ha hb aB (ak rfl (ak rfl (ak rfl aB))) (ak rfl aB)
 ·rw[show tV row (tst w p "is" o)=k9 w (row.getD p .none) o from oR row hw p "is" o]
  have hb:=ho.cell
  refine aL (bc (d:=row.getD p .none) (fr:=false) (aw (au (ae (aa (ai rfl af))) (au (x:=tst w p "is" o) (ae (aa af)) (ag _ _ _) rfl) h1) rfl rfl) ha) (aL (bc (d:=o) (fr:=false) (aw (au (x:=tst w p "is" o) (ae (aa (ak rfl af))) (ag _ _ _) rfl) rfl rfl) hb) (cH (k:=false) (x:=.bool false) (aD (au (x:=tst w p "is" o) (ae (aa (ak rfl (ak rfl af)))) (ag _ _ _) rfl) (aT _ _ _) rfl) rfl nofun fun _=>?_))
  exact aL (bc (d:=sD w) (fr:=false) (aw (au (x:=tst w p "is" o) (ae (aa (ak rfl (ak rfl af)))) (ag _ _ _) rfl) rfl rfl) rfl) (ox B n hw ha hb aB (ak rfl (ak rfl aB)) (ak rfl aB))
theorem holds_eq(B:BA P)(n:Nat){row:List D}(hr:∀ d∈row,d.isCell=true){ts:List D}(ht:∀ t∈ts,Tst row.length t):(al P X (n+3)).call "holds" [.tup ts,.tup row]=some (.bool (ts.any (tV row)),false):=by
 refine az B.holds rfl ?_
 show Run _ mY.body [("clause",(false,.tup ts)),("row",(false,.tup row))] _ _
 obtain⟨σ',k1,k2⟩:=kI (cf:=al P X (n+2)) (body:=[.ite (.call "does" [.var "test",.var "row"]) [.ret (.bool true)] []]) (z:="test") (tV row) (fun σ=>Has σ "row" (.tup row)) false (.bool true) ts (fun t hts σ hσ=>cM (ax (ad (ae (aa aB)) (ad (ae (aa (ak rfl hσ))) (aj _ _))) (does_eq B n hr (ht t hts))) rfl (fun q=>qx (aw (iL _ _ _) rfl rfl) rfl (pj q rfl)) fun q=>bJ (pk q ⟨rfl,ak rfl hσ⟩)) _ (b9 (ns:=["clause"]) (σ:=[("clause",(false,.tup ts)),("row",(false,.tup row))]) (ai rfl af))
 cases hb:ts.any (tV row) with
 | true=>exact kC (ae (aa af)) rfl (k1 hb)
 | false=>exact eH (ae (aa af)) rfl (k2 hb).2 (aK (aw (iL _ _ _) rfl rfl) rfl)
end

set_option maxRecDepth 100000
section
variable {α:Type} {cf:CF} {body:List MS} {z:String} {g:α→D}
theorem fV(I:List α→St→Prop):∀ (l a:List α) (σ:St),I a σ→(∀ (b:List α) (x:α) (σ:St),x∈l→b.length<a.length+l.length→I b σ→Out cf body (aC σ z (false,g x)) fun fl σ'=>fl=.next∧I (b++[x]) σ')→∃ σ',I (a++l) σ'∧cj (cC cf body z) (l.map g) σ=some (.next,σ')
 | [],a,σ,h,_=>⟨σ,(List.append_nil a).symm▸h,rfl⟩
 | x::l,a,σ,h,hs=>by
  obtain⟨fl,σ₁,⟨rfl,i1⟩,e⟩:=hs a x σ (.head _) (Nat.lt_add_of_pos_right (Nat.succ_pos _)) h
  obtain⟨σ₂,i2,e2⟩:=fV I l (a++[x]) σ₁ i1 fun b y s hy hb h=>hs b y s (.tail _ hy) (by rw[List.length_append] at hb;exact Nat.lt_of_lt_of_le hb (Nat.le_of_eq (by rw[Nat.add_assoc,Nat.add_comm [x].length];rfl))) h
  exact⟨σ₂,by rw[List.append_cons];exact i2,by rw[List.map_cons,cF,e];exact e2⟩
theorem findT(p:α→Bool)(I:St→Prop)(fr:Bool)(d:D):∀ (l:List α),(∀ x∈l,∀ σ,I σ→Out cf body (aC σ z (false,g x)) fun fl σ'=>if p x=true then fl=.ret fr d else fl=.next∧I σ') →
  ∀ σ,I σ→∃ σ',(l.any p=true→cj (cC cf body z) (l.map g) σ=some (.ret fr d,σ'))∧(l.any p=false→I σ'∧cj (cC cf body z) (l.map g) σ=some (.next,σ'))
 | [],_,σ,hσ=>⟨σ,nofun,fun _=>⟨hσ,rfl⟩⟩
 | x::r,h,σ,hσ=>by
  obtain⟨fl,σ₁,q,e⟩:=h x (.head _) σ hσ
  rw[List.any_cons,List.map_cons,cF,e]
  cases hp:p x with
  | true=>
   rw[if_pos hp] at q
   subst q
   exact⟨σ₁,fun _=>rfl,nofun⟩
  | false=>
   rw[if_neg (by rw[hp];exact Bool.false_ne_true)] at q
   obtain⟨rfl,i1⟩:=q
   exact findT p I fr d r (fun i hi=>h i (.tail _ hi)) σ₁ i1
theorem qj(p:α→Bool)(l:List α){s:String}{c:ME}{b:Bool}{σ:St}(hs:Has σ s (.tup (l.map g)))(I:St→Prop)(h0:I (freeze [s] σ))(hc:∀ x∈l,∀ σ,I σ→I (aC σ z (false,g x))∧evE cf (vis (aC σ z (false,g x))) c=some (.bool (p x))) :
  Run cf [.for_ z (.var s) [.ite c [.ret (.bool b)] []],.ret (.bool (!b))] σ (.bool (if l.any p=true then b else !b)) false:=by
 obtain⟨σ',k1,k2⟩:=findT (cf:=cf) (body:=[.ite c [.ret (.bool b)] []]) (z:=z) (g:=g) p I false (.bool b) l (fun x hx σ hσ=>cM (hc x hx σ hσ).2 rfl (fun h=>qx (aw (iL _ _ _) rfl rfl) rfl (by rw[if_pos h];rfl)) fun h=>bJ (by rw[h,if_neg Bool.false_ne_true];exact⟨rfl,(hc x hx σ hσ).1⟩)) _ h0
 cases hb:l.any p with
 | true=>exact kC (ae (aa hs)) rfl (k1 hb)
 | false=>exact eH (ae (aa hs)) rfl (k2 hb).2 (aK (aw (iL _ _ _) rfl rfl) rfl)
theorem fw{ρ:List (String×D)}{elt src:ME}{f:α→D}{l:List α}{d:D}(hs:evE cf ρ src=some d)(hi:d.items=some (l.map g))(hl:l.length≤big)(h:∀ x∈l,evE cf ((z,g x)::ρ) elt=some (f x)):evE cf ρ (.comp elt z src [])=some (.list (l.map f)):=
 jq hs hi (by rw[List.length_map];exact hl) (nh _ _ _ _ fun x hx=>kX (h x hx))
end
noncomputable abbrev Tab:=List (List D)
noncomputable def bx(m:Nat)(r:List D):Prop:=r.length=m∧∀ d∈r,d.isCell=true
noncomputable def aO(m:Nat)(t:Tab):Prop:=∀ r∈t,bx m r
noncomputable def aA(t:Tab):D:=.list (t.map .tup)
noncomputable def jw(cs:List (List D))(row:List D):Bool:=cs.all fun c=>c.any (tV row)
noncomputable def aS(ps:List Nat)(row:List D):List D:=ps.map fun p=>row.getD p .none
noncomputable def cn(prs:List (Nat×Nat))(a b:List D):Bool:=prs.all fun p=>d9 (a.getD p.1 .none) (b.getD p.2 .none)
theorem sR{α:Type}(q:α→Bool)(l:List α):(if (l.any fun x=>!q x)=true then false else !false)=l.all q:=by
 rw[← List.not_all_eq_any_not]
 cases l.all q <;> rfl
section
variable {P:List (String×Fn)} {X:CF}
theorem fM{m p:Nat}{r:List D}(hr:bx m r)(hp:p<m):a9 (.tup r) (.int p)=some (r.getD p .none):=pB (hr.1.symm▸hp)
theorem cU{m p:Nat}{r:List D}(hr:bx m r)(hp:p<m):(r.getD p .none).isCell=true:=kZ hr.2 (hr.1.symm▸hp)
theorem keeps_eq(B:BA P)(n:Nat){m:Nat}{row:List D}(hr:bx m row){cs:List (List D)}(hc:∀ c∈cs,lC m c):(al P X (n+4)).call "keeps" [.tup (cs.map clD),.tup row]=some (.bool (jw cs row),false):=by
 refine az B.keeps rfl ?_
 show Run _ mX.body [("clauses",(false,.tup (cs.map clD))),("row",(false,.tup row))] _ _
 have q:=qj (cf:=al P X (n+3)) (z:="clause") (g:=clD) (s:="clauses") (σ:=[("clauses",(false,.tup (cs.map clD))),("row",(false,.tup row))]) (c:=.not (.call "holds" [.var "clause",.var "row"])) (b:=false) (fun c=>!c.any (tV row)) cs af (fun σ=>Has σ "row" (.tup row)) (b9 (ai rfl af)) fun c hcs σ hσ=>⟨ak rfl hσ,fc (ax (ad (ae (aa aB)) (ad (ae (aa (ak rfl hσ))) (aj _ _))) (holds_eq B n hr.2 fun t ht=>hr.1.symm▸(hc c hcs).1 t ht)) rfl⟩
 rw[sR] at q
 exact q
theorem rj(B:BA P)(n:Nat){m:Nat}{row:List D}(hr:bx m row){ps:List Nat}(hp:∀ p∈ps,p<m)(hl:ps.length≤big):(al P X (n+1)).call "cells_at" [.tup row,.tup (ps.map br)]=some (.tup (aS ps row),false):=by
 refine az B.cells_at rfl (aK (aw (bS (ad (fw (g:=br) (l:=ps) (f:=fun p=>row.getD p .none) (ae (aa (ai rfl af))) rfl hl fun p hps=>au (ae (aX rfl (aa af))) (ae bw) (fM hr (hp p hps))) (aj _ _)) rfl) rfl rfl) rfl)
theorem meets_eq(B:BA P)(n:Nat){m k:Nat}{a b:List D}(ha:bx m a)(hb:bx k b){prs:List (Nat×Nat)}(hp:∀ p∈prs,p.1<m∧p.2<k):(al P X (n+2)).call "meets" [.tup a,.tup b,.tup (prs.map prT)]=some (.bool (cn prs a b),false):=by
 refine az B.meets rfl ?_
 show Run _ mW.body [("one",(false,.tup a)),("other",(false,.tup b)),("pairs",(false,.tup (prs.map prT)))] _ _
 have q:=qj (cf:=al P X (n+1)) (z:="pair") (g:=prT) (s:="pairs") (σ:=[("one",(false,.tup a)),("other",(false,.tup b)),("pairs",(false,.tup (prs.map prT)))]) (c:=.not (.call "alike" [.sub (.var "one") (.sub (.var "pair") (.int 0)),.sub (.var "other") (.sub (.var "pair") (.int 1))])) (b:=false) (fun p=>!d9 (a.getD p.1 .none) (b.getD p.2 .none)) prs (ai rfl (ai rfl af)) (fun σ=>Has σ "one" (.tup a)∧Has σ "other" (.tup b)) ⟨b9 af,b9 (ai rfl af)⟩ fun p hps σ hσ=>⟨⟨ak rfl hσ.1,ak rfl hσ.2⟩,
  fc (ax (ad (au (ae (aa (ak rfl hσ.1))) (au (x:=prT p) (ae (aa aB)) (ag _ _ _) rfl) (fM ha (hp p hps).1)) (ad (au (ae (aa (ak rfl hσ.2))) (au (x:=prT p) (ae (aa aB)) (ag _ _ _) rfl) (fM hb (hp p hps).2)) (aj _ _))) (rA B n _ _ (cU ha (hp p hps).1) (cU hb (hp p hps).2))) rfl⟩
 rw[sR] at q
 exact q
end

set_option maxRecDepth 100000
noncomputable def kH(prs:List (Nat×Nat))(t1 t2:Tab):Tab:=t1.flatMap fun a=>(t2.filter (cn prs a)).map (a++·)
theorem mw(prs:List (Nat×Nat))(t1 t2:Tab):(kH prs t1 t2).length≤t1.length * t2.length:=by
 induction t1 with
 | nil=>exact Nat.zero_le _
 | cons a t1 ih=>
  show (_++kH prs t1 t2).length≤_
  rw[List.length_append,List.length_map,List.length_cons,Nat.succ_mul,Nat.add_comm]
  exact Nat.add_le_add ih (List.length_filter_le _ _)
theorem ol(prs:List (Nat×Nat))(t1 t2:Tab)(a:List D):kH prs (t1++[a]) t2=kH prs t1 t2++(t2.filter (cn prs a)).map (a++·):=by
 unfold kH;rw[List.flatMap_append,List.flatMap_cons,List.flatMap_nil,List.append_nil]
theorem dD(t:Tab)(r:List D):aA (t++[r])=.list (t.map .tup++[.tup r]):=by unfold aA;rw[List.map_append];rfl
section
variable {P:List (String×Fn)} {X:CF}
noncomputable abbrev uw:List MS:=[.ite (.call "meets" [.var "one",.var "other",.var "pairs"]) [.append "found" (.bin .Add (.var "one") (.var "other"))] []]
structure MetI(t2:Tab)(prs:List (Nat×Nat))(acc:Tab)(σ:St):Prop where
 s:Has σ "second" (aA t2)
 p:Has σ "pairs" (.tup (prs.map prT))
 f:dA σ "found" (aA acc)
theorem met_in(B:BA P)(n:Nat){m k:Nat}{a:List D}{t2 acc:Tab}(ha:bx m a)(h2:aO k t2)(hw:m+k≤big){prs:List (Nat×Nat)}(hp:∀ p∈prs,p.1<m∧p.2<k)(hl:acc.length+t2.length≤big){σ:St}(h1:Has σ "one" (.tup a))(I:MetI t2 prs acc σ) :
  ∃ σ',MetI t2 prs (acc++(t2.filter (cn prs a)).map (a++·)) σ'∧cj (cC (al P X (n+2)) uw "other") (t2.map .tup) σ=some (.next,σ'):=by
 obtain⟨σ',I',e⟩:=fV (cf:=al P X (n+2)) (body:=uw) (z:="other") (g:=D.tup) (fun c σ=>Has σ "one" (.tup a)∧MetI t2 prs (acc++(c.filter (cn prs a)).map (a++·)) σ) t2 [] σ ⟨h1,by rw[List.filter_nil,List.map_nil,List.append_nil];exact I⟩ (by
  rintro c b σ hb hc ⟨i1,i2,i3,i4⟩
  refine cM (ax (ad (ae (aa (ak rfl i1))) (ad (ae (aa aB)) (ad (ae (aa (ak rfl i3))) (aj _ _)))) (meets_eq B n ha (h2 b hb) hp)) rfl (fun h=>?_) fun h=>?_
  ·refine aN (cQ (d:=.tup (a++b)) (ds:=((acc++(c.filter (cn prs a)).map (a++·)).map .tup)) (ao (ae (aa (ak rfl i1))) (ae (aa aB)) (if_pos (by rw[ha.1,(h2 b hb).1];exact hw))) (eQ rfl (cO rfl i4)) ?_) (bJ ⟨rfl,ak rfl (ay (ak rfl i1)),ak rfl (ay (ak rfl i2)),ak rfl (ay (ak rfl i3)),?_⟩)
   ·rw[List.length_map,List.length_append,List.length_map]
    exact Nat.lt_of_lt_of_le (Nat.add_lt_add_left (Nat.lt_of_le_of_lt (List.length_filter_le _ _) (Nat.zero_add t2.length▸hc)) _) hl
   ·rw[show acc++((c++[b]).filter (cn prs a)).map (a++·)=acc++(c.filter (cn prs a)).map (a++·)++[a++b] from by rw[List.filter_append,show[b].filter (cn prs a)=[b] from List.filter_cons_of_pos h,List.map_append,List.append_assoc];rfl,dD]
    exact et
  ·refine bJ ⟨rfl,ak rfl i1,ak rfl i2,ak rfl i3,?_⟩
   rw[List.filter_append,show[b].filter (cn prs a)=[] from List.filter_cons_of_neg (by rw[h];nofun),List.append_nil]
   exact cO rfl i4)
 exact⟨σ',I'.2,e⟩
theorem met_eq(B:BA P)(n:Nat){m k:Nat}{t1 t2:Tab}(h1:aO m t1)(h2:aO k t2)(l1:t1.length≤60)(l2:t2.length≤60)(hw:m+k≤big){prs:List (Nat×Nat)}(hp:∀ p∈prs,p.1<m∧p.2<k) :
  (al P X (n+3)).call "met" [aA t1,aA t2,.tup (prs.map prT)]=some (aA (kH prs t1 t2),true):=by
 refine az B.met rfl ?_
 show Run _ rV.body [("first",(false,aA t1)),("second",(false,aA t2)),("pairs",(false,.tup (prs.map prT)))] _ _
 refine aL (av (d:=.list []) (fr:=true) rfl) ?_
 obtain⟨σ',I',e⟩:=fV (cf:=al P X (n+2)) (body:=[.for_ "other" (.var "second") uw]) (z:="one") (g:=D.tup) (fun b σ=>MetI t2 prs (kH prs b t2) σ) t1 [] (freeze ["first"] (aC [("first",(false,aA t1)),("second",(false,aA t2)),("pairs",(false,.tup (prs.map prT)))] "found" (true,.list []))) ⟨b9 (ak rfl (ai rfl af)),b9 (ak rfl (ai rfl (ai rfl af))),jK rfl et⟩ (by
  rintro b a σ ha hb ⟨i2,i3,i4⟩
  obtain⟨σ2,J,e⟩:=met_in (X:=X) (σ:=freeze ["second"] (aC σ "one" (false,.tup a))) B n (h1 a ha) h2 hw hp (acc:=kH prs b t2) (Nat.le_trans (Nat.add_le_add (Nat.le_trans (mw prs b t2) (Nat.mul_le_mul (Nat.le_trans (Nat.le_of_lt (Nat.zero_add t1.length▸hb)) l1) l2)) l2) (by decide)) (b9 aB) ⟨b9 (ak rfl i2),b9 (ak rfl i3),jK rfl (cO rfl i4)⟩
  refine sy (ae (aa (ak rfl i2))) rfl e (bJ ⟨rfl,?_⟩)
  rw[ol];exact J)
 exact eH (ae (aa (ak rfl af))) rfl e (eB I'.f)
end

set_option maxRecDepth 100000
noncomputable def gX(acc:Tab)(r:List D):Tab:=if (acc.any fun x=>aE x r)=true then acc else acc++[r]
noncomputable def be(t:Tab):Tab:=t.foldl gX []
theorem gE(t:Tab)(r:List D):be (t++[r])=gX (be t) r:=by unfold be;rw[List.foldl_append];rfl
theorem onceS_len(t:Tab)(r:List D):(gX t r).length≤t.length+1:=by
 unfold gX;split
 ·exact Nat.le_succ _
 ·rw[List.length_append];exact Nat.le_refl _
theorem og{t:Tab}:(∀ r∈be t,r∈t)∧(be t).length≤t.length:=by
 have key:∀ (l acc:Tab),(∀ r∈l.foldl gX acc,r∈acc∨r∈l)∧(l.foldl gX acc).length≤acc.length+l.length:=by
  intro l
  induction l with
  | nil=>exact fun acc=>⟨fun r h=>.inl h,Nat.le_refl _⟩
  | cons x l ih=>
   intro acc
   have i:=ih (gX acc x)
   refine⟨fun r h=>(i.1 r h).elim (fun h=>?_) fun h=>.inr (.tail _ h),Nat.le_trans i.2 (Nat.le_trans (Nat.add_le_add_right (onceS_len acc x) _) (Nat.le_of_eq (by rw[Nat.add_assoc,Nat.add_comm 1];rfl)))⟩
   unfold gX at h
   split at h
   ·exact .inl h
   ·exact (List.mem_append.mp h).elim .inl fun h=>.inr (List.mem_singleton.mp h▸.head _)
 exact⟨fun r h=>((key t []).1 r h).elim (fun h=>nomatch h) id,Nat.le_trans (key t []).2 (Nat.le_of_eq (Nat.zero_add _))⟩
theorem pH{k d:D}:∀ {ks vs:List D},ks.length=vs.length→(∀ x∈ks,aR x k=false)→dK ks vs k d=(ks++[k],vs++[d])
 | [],[],_,_=>rfl
 | x::ks,v::vs,hl,h=>by
  rw[lV,h x (.head _),if_neg Bool.false_ne_true,pH (Nat.succ.inj hl) fun y hy=>h y (.tail _ hy)];rfl
theorem jt{m:Nat}{r:List D}(h:bx m r):(D.tup r).isTK=true:=List.all_eq_true.mpr h.2
theorem rJ{m:Nat}{t:Tab}(h:aO m t):(t.map D.tup).all D.isTK=true:=List.all_eq_true.mpr fun d hd=>(List.mem_map.mp hd).elim fun r q=>q.2▸jt (h r q.1)
section
variable {P:List (String×Fn)} {X:CF}
theorem iQ(acc:Tab)(r:List D):((acc.map D.tup).any fun x=>aR x (.tup r))=acc.any fun x=>aE x r:=by rw[List.any_map];rfl
theorem once_eq(B:BA P)(n:Nat){m:Nat}{t:Tab}(h:aO m t)(hl:t.length<big):(al P X (n+1)).call "once" [aA t]=some (aA (be t),true):=by
 refine az B.once rfl ?_
 show Run _ pD.body [("rows",(false,aA t))] _ _
 refine aL (av (d:=.dict [] []) (fr:=true) rfl) (aL (av (d:=.list []) (fr:=true) rfl) ?_)
 obtain⟨σ',I',e⟩:=fV (cf:=al P X n) (body:=[.ite (.cmp .NotIn (.var "row") (.var "known")) [.setk "known" (.var "row") (.bool true),.append "found" (.var "row")] []]) (z:="row") (g:=D.tup) (fun b σ=>aO m (be b)∧(be b).length≤b.length∧dA σ "known" (.dict ((be b).map .tup) ((be b).map fun _=>.bool true))∧dA σ "found" (aA (be b))) t []
  (freeze ["rows"] (aC (aC [("rows",(false,aA t))] "known" (true,.dict [] [])) "found" (true,.list []))) ⟨(fun _ h=>nomatch h),Nat.le_refl _,jK rfl (cO rfl et),jK rfl et⟩ (by
  rintro b r σ hr hb ⟨i1,i2,i3,i4⟩
  have hm:mz (.tup r) (.dict ((be b).map .tup) ((be b).map fun _=>.bool true))=some ((be b).any fun x=>aE x r):=by
   rw[← iQ]
   exact if_pos (by unfold dX;rw[jt (h r hr),rJ i1];exact Bool.or_true _)
  have hd:evE (al P X n) (vis (aC σ "row" (false,.tup r))) (.cmp .NotIn (.var "row") (.var "known"))=some (.bool (!(be b).any fun x=>aE x r)):=aD (ae (aa aB)) (ae (aa (ak rfl (qS i3)))) (by show (mz _ _).map _=_;rw[hm];rfl)
  have hlen:(be b).length<big:=Nat.lt_of_le_of_lt i2 (Nat.lt_trans (Nat.zero_add t.length▸hb) hl)
  refine cM hd rfl (fun hn=>?_) fun hn=>?_
  ·have hn:((be b).any fun x=>aE x r)=false:=by cases e:(be b).any fun x=>aE x r with | false=>rfl | true=>rw[e] at hn;cases hn
   have e1:be (b++[r])=be b++[r]:=by rw[gE];unfold gX;rw[hn,if_neg Bool.false_ne_true]
   have hnk:∀ x∈(be b).map D.tup,aR x (.tup r)=false:=fun x hx=>Bool.eq_false_iff.mpr fun q=>by
    have:=List.any_eq_true (p:=fun x=>aR x (.tup r)).mpr ⟨x,hx,q⟩
    rw[iQ,hn] at this;cases this
   refine aN (uo (d:=.bool true) (dk:=.tup r) (ks:=(be b).map .tup) (vs:=(be b).map fun _=>.bool true) (iL _ _ _) (ae (aa aB)) (eQ rfl (eQ rfl (cO rfl i3))) ?_) ?_
   ·unfold dX;rw[jt (h r hr),rJ i1,List.length_map,decide_eq_true hlen];cases (D.tup r).isCell&&((be b).map D.tup).all D.isCell <;> rfl
   refine aN (cQ (d:=.tup r) (ds:=(be b).map .tup) (ae (aa (ak rfl (ay (ay aB))))) (eQ rfl (cO rfl (eQ rfl (eQ rfl (cO rfl i4))))) (by rw[List.length_map];exact hlen)) (bJ ⟨rfl,?_,?_,?_,?_⟩)
   ·rw[e1];exact fun x hx=>(List.mem_append.mp hx).elim (i1 x) fun q=>List.mem_singleton.mp q▸h r hr
   ·rw[e1,List.length_append,List.length_append];exact Nat.succ_le_succ i2
   ·rw[e1,List.map_append,List.map_append,pH (by rw[List.length_map,List.length_map]) hnk]
    exact cO rfl (eQ rfl et)
   ·rw[e1,dD];exact et
  ·have hn:((be b).any fun x=>aE x r)=true:=by cases e:(be b).any fun x=>aE x r with | true=>rfl | false=>rw[e] at hn;cases hn
   have e1:be (b++[r])=be b:=by rw[gE];unfold gX;rw[hn,if_pos rfl]
   rw[e1]
   exact bJ ⟨rfl,i1,by rw[List.length_append];exact Nat.le_succ_of_le i2,cO rfl i3,cO rfl i4⟩)
 exact eH (ae (aa (ak rfl (ay (ak rfl (ay af)))))) rfl e (eB I'.2.2.2)
end

set_option maxRecDepth 100000
theorem iM{α:Type}{f:D→Option (Option D)}{h g:α→D}{p:α→Bool}:∀ l:List α,(∀ a∈l,f (h a)=some (if p a=true then some (g a) else none))→bO f (l.map h)=some ((l.filter p).map g)
 | [],_=>rfl
 | a::l,H=>by
  rw[List.map_cons,bO,H a (.head _),iM l fun b hb=>H b (.tail _ hb)]
  cases hp:p a with
  | true=>rw[List.filter_cons_of_pos hp];rfl
  | false=>rw[List.filter_cons_of_neg (by rw[hp];nofun)];rfl
noncomputable def col(p:Nat)(t:Tab):List D:=t.map (·.getD p .none)
noncomputable def eqW(w x:String):Bool:=Str.ofString w == Str.ofString x
noncomputable def rK(cs:List D):Int:=(lD (cs.filter fun c=>!cR c)).getD 0
noncomputable def fe(w:String)(f c:D):D:=
 if (eqW w "most"&&aV (if (eqW w "least"&&aV c f)=true then c else f) c)=true then c else if (eqW w "least"&&aV c f)=true then c else f
noncomputable def l6(w:String)(cs:List D):D:=if eqW w "count"=true then .int cs.length else if eqW w "sum"=true then .int (rK cs) else cs.foldl (fe w) (cs.headD .none)
theorem ky:∀ {cs:List D},(∀ c∈cs,c.isCell=true)→lD (cs.filter fun c=>!cR c)=some (rK cs)
 | [],_=>rfl
 | c::cs,h=>by
  have ih:=ky fun d hd=>h d (.tail _ hd)
  unfold rK
  refine aP (C:=fun c=>lD ((c::cs).filter fun c=>!cR c)=some ((lD ((c::cs).filter fun c=>!cR c)).getD 0)) (h c (.head _)) (fun i=>?_) fun x=>?_
  ·rw[List.filter_cons_of_pos rfl,lD,ih];rfl
  ·rw[List.filter_cons_of_neg (by nofun),ih];rfl
theorem qH{b:Bool}{x y:D}(hx:x.isCell=true)(hy:y.isCell=true):(if b=true then x else y).isCell=true:=by
 cases b with
 | true=>exact hx
 | false=>exact hy
theorem stepT_cell{w:String}{f c:D}(hf:f.isCell=true)(hc:c.isCell=true):(fe w f c).isCell=true:=qH hc (qH hc hf)
theorem kT{w:String}:∀ {cs:List D} {f:D},f.isCell=true→(∀ c∈cs,c.isCell=true)→(cs.foldl (fe w) f).isCell=true
 | [],_,hf,_=>hf
 | c::cs,_,hf,h=>kT (cs:=cs) (stepT_cell hf (h c (.head _))) fun d hd=>h d (.tail _ hd)
theorem told_cell{w:String}{c:D}{cs:List D}(h:∀ d∈c::cs,d.isCell=true):(l6 w (c::cs)).isCell=true:=by
 unfold l6;split
 ·rfl
 ·split
  ·rfl
  ·exact kT (h c (.head _)) h
theorem iN{m p:Nat}{t:Tab}(h:aO m t)(hp:p<m):∀ c∈col p t,c.isCell=true:=fun c hc=>(List.mem_map.mp hc).elim fun r q=>q.2▸cU (h r q.1) hp
theorem pp{c:D}(h:c.isCell=true):mM c "str"=some (cR c):=aP (C:=fun c=>mM c "str"=some (cR c)) h (fun _=>rfl) fun _=>rfl
section
variable {P:List (String×Fn)} {X:CF}
noncomputable abbrev ub:List MS:=[.ite (.bop .And [.cmp .Eq (.var "word") (.str "least"),.call "before" [.sub (.var "row") (.var "place"),.var "found"]]) [.assign "found" (.sub (.var "row") (.var "place"))] [],.ite (.bop .And [.cmp .Eq (.var "word") (.str "most"),.call "before" [.var "found",.sub (.var "row") (.var "place")]]) [.assign "found" (.sub (.var "row") (.var "place"))] []]
structure gz(w:String)(p:Nat)(f:D)(σ:St):Prop where
 w:Has σ "word" (sD w)
 p:Has σ "place" (br p)
 f:σ.lookup "found"=some (false,f)
theorem gz.set{w:String}{p:Nat}{f f':D}{σ:St}(I:gz w p f σ):gz w p f' (aC σ "found" (false,f')):=⟨ak rfl I.w,ak rfl I.p,by rw[aH,if_pos rfl]⟩
theorem gz.row{w:String}{p:Nat}{f d:D}{σ:St}(I:gz w p f σ):gz w p f (aC σ "row" (false,d)):=⟨ak rfl I.w,ak rfl I.p,by rw[aH,if_neg (by decide)];exact I.f⟩
theorem told_turn(B:BA P)(n:Nat){w:String}{p m:Nat}{f:D}{r:List D}(hf:f.isCell=true)(hr:bx m r)(hp:p<m){σ:St}(I:gz w p f σ)(h1:Has σ "row" (.tup r)):Out (al P X (n+1)) ub σ fun fl σ'=>fl=.next∧gz w p (fe w f (r.getD p .none)) σ':=by
 have hc:=cU hr hp
 have ev:∀ {σ f},gz w p f σ→Has σ "row" (.tup r)→evE (al P X (n+1)) (vis σ) (.sub (.var "row") (.var "place"))=some (r.getD p .none):=fun I h=>au (ae (aa h)) (ae (aa I.p)) (fM hr hp)
 have two:∀ {σ f},f.isCell=true→gz w p f σ→Has σ "row" (.tup r)→(∀ G,gz w p (if (eqW w "most"&&aV f (r.getD p .none))=true then r.getD p .none else f) G→True)→Out (al P X (n+1)) (ub.drop 1) σ fun fl σ'=>fl=.next∧gz w p (if (eqW w "most"&&aV f (r.getD p .none))=true then r.getD p .none else f) σ':=fun {σ f} hf I h _=>
  cM (dC (k:=eqW w "most") (l:=aV f (r.getD p .none)) (aD (ae (aa I.w)) (aT _ _ _) rfl) fun _=>bA (ax (ad (ae (aa ⟨_,I.f⟩)) (ad (ev I h) (aj _ _))) (gS B n _ _ hf hc))) rfl
   (fun q=>aN (bc (aw (ev I h) rfl rfl) hc) (bJ ⟨rfl,by rw[if_pos q];exact I.set⟩)) fun q=>bJ ⟨rfl,by rw[q,if_neg Bool.false_ne_true];exact I⟩
 unfold fe
 refine cM (dC (k:=eqW w "least") (l:=aV (r.getD p .none) f) (aD (ae (aa I.w)) (aT _ _ _) rfl) fun _=>bA (ax (ad (ev I h1) (ad (ae (aa ⟨_,I.f⟩)) (aj _ _))) (gS B n _ _ hc hf))) rfl (fun q=>?_) fun q=>?_
 ·rw[if_pos q]
  exact aN (bc (aw (ev I h1) rfl rfl) hc) (two hc I.set (ak rfl h1) fun _ _=>trivial)
 ·rw[q,if_neg Bool.false_ne_true]
  exact two hf I h1 fun _ _=>trivial
theorem told_eq(B:BA P)(n:Nat){m:Nat}{r0:List D}{rs:Tab}(h:aO m (r0::rs))(hl:(r0::rs).length≤big)(w:String){p:Nat}(hp:p<m):(al P X (n+2)).call "told_of" [dJ (w,p),aA (r0::rs)]=some (l6 w (col p (r0::rs)),false):=by
 refine az B.told_of rfl ?_
 show Run _ jy.body [("one",(false,dJ (w,p))),("rows",(false,aA (r0::rs)))] _ _
 have hcol:=iN h hp
 refine aL (bc (d:=sD w) (fr:=false) (aw (au (x:=dJ (w,p)) (ae (aa af)) (ag _ _ _) rfl) rfl rfl) rfl) (aL (bc (d:=br p) (fr:=false) (aw (au (x:=dJ (w,p)) (ae (aa (ak rfl af))) (ag _ _ _) rfl) rfl rfl) rfl) ?_)
 unfold l6
 have hlen:gt "len" [aA (r0::rs)]=some (.int (col p (r0::rs)).length):=by
  show some (D.int (((r0::rs).map D.tup).length:Nat))=_
  unfold col;rw[List.length_map,List.length_map]
 have hw:∀ {σ:St} {x:String},Has σ "word" (sD w)→evE (al P X (n+1)) (vis σ) (.cmp .Eq (.var "word") (.str x))=some (.bool (eqW w x)):=fun i=>aD (ae (aa i)) (aT _ _ _) rfl
 have i1:Has (aC (aC [("one",(false,dJ (w,p))),("rows",(false,aA (r0::rs)))] "word" (false,sD w)) "place" (false,br p)) "word" (sD w):=ak rfl aB
 have i2:Has (aC (aC [("one",(false,dJ (w,p))),("rows",(false,aA (r0::rs)))] "word" (false,sD w)) "place" (false,br p)) "rows" (aA (r0::rs)):=ak rfl (ak rfl (ai rfl af))
 have i3:Has (aC (aC [("one",(false,dJ (w,p))),("rows",(false,aA (r0::rs)))] "word" (false,sD w)) "place" (false,br p)) "place" (br p):=aB
 generalize aC (aC [("one",(false,dJ (w,p))),("rows",(false,aA (r0::rs)))] "word" (false,sD w)) "place" (false,br p)=σ at *
 refine cH (hw i1) rfl (fun q=>?_) fun q=>?_
 ·rw[if_pos q]
  exact aK (aw (bS (ad (ae (aa i2)) (aj _ _)) hlen) rfl rfl) rfl
 rw[q,if_neg Bool.false_ne_true]
 refine cH (hw i1) rfl (fun q=>?_) fun q=>?_
 ·rw[if_pos q]
  have hs:=ky hcol
  unfold col at hs
  rw[List.filter_map] at hs
  refine aK (aw (bS (ad (jq (z:="row") (its:=(r0::rs).map .tup) (ae (aa i2)) rfl (by rw[List.length_map];exact hl) (iM (g:=fun r:List D=>r.getD p .none) (p:=fun r=>!cR (r.getD p .none)) (r0::rs) fun r hr=>ja (fc (il (au (ae bw) (ae (aX rfl (aa i3))) (fM (h r hr) hp)) (pp (cU (h r hr) hp))) rfl) rfl fun _=>au (ae bw) (ae (aX rfl (aa i3))) (fM (h r hr) hp))) (aj _ _)) (d:=.int (rK (col p (r0::rs)))) ?_) rfl rfl) rfl
  show (lD _).map D.int=_
  rw[show lD (((r0::rs).filter fun r=>!cR (r.getD p .none)).map fun r=>r.getD p .none)=some (rK (col p (r0::rs))) from hs];rfl
 rw[q,if_neg Bool.false_ne_true]
 have hr0:=h r0 (.head _)
 refine aL (bc (d:=r0.getD p .none) (fr:=false) (aw (au (au (x:=aA (r0::rs)) (y:=.int 0) (d:=.tup r0) (ae (aa i2)) (ag _ _ _) (l9 (k:=0) (Nat.succ_pos _) rfl)) (ae (aa i3)) (fM hr0 hp)) rfl rfl) (cU hr0 hp)) ?_
 obtain⟨σ',I',e⟩:=fV (cf:=al P X (n+1)) (body:=ub) (z:="row") (g:=D.tup) (fun b σ=>(b.all fun r=>(r.getD p .none).isCell)=true∧gz w p ((col p b).foldl (fe w) (r0.getD p .none)) σ) (r0::rs) [] (freeze ["rows"] (aC σ "found" (false,r0.getD p .none))) ⟨rfl,b9 (ak rfl i1),b9 (ak rfl i3),by rw[bg,aH,if_pos rfl];rfl⟩ (by
  rintro b r σ hr hb ⟨j0,j⟩
  have e1:(col p (b++[r])).foldl (fe w) (r0.getD p .none)=fe w ((col p b).foldl (fe w) (r0.getD p .none)) (r.getD p .none):=by unfold col;rw[List.map_append,List.foldl_append];rfl
  have hf:((col p b).foldl (fe w) (r0.getD p .none)).isCell=true:=kT (cU hr0 hp) fun c hc=>(List.mem_map.mp hc).elim fun r q=>q.2▸List.all_eq_true.mp j0 r q.1
  obtain⟨fl,σ2,⟨q1,q2⟩,e⟩:=told_turn (X:=X) B n hf (h r hr) hp (j.row (d:=.tup r)) aB
  exact⟨fl,σ2,⟨q1,by rw[List.all_append,j0];show ((r.getD p .none).isCell&&true)=true;rw[cU (h r hr) hp];rfl,e1▸q2⟩,e⟩)
 exact eH (ae (aa (ak rfl i2))) rfl e (eB I'.2.f)
end

set_option maxRecDepth 100000
noncomputable abbrev Grp:=List (List D×Tab)
noncomputable def cY(k r:List D):Grp→Grp
 | []=>[(k,[r])]
 | q::G=>if aE q.1 k=true then (q.1,q.2++[r])::G else q::cY k r G
noncomputable def grV(q:List D×Tab):D×List D:=(.tup q.1,q.2.map .tup)
noncomputable def cJ(ps:List Nat)(t:Tab):Grp:=t.foldl (fun G r=>cY (aS ps r) r G) []
theorem uN(k r:List D):∀ G:Grp,tR (.tup k) (.tup r) (G.map grV)=(cY k r G).map grV
 | []=>rfl
 | q::G=>by
  show (if aE q.1 k=true then _ else _)=(if aE q.1 k=true then _ else _:Grp).map grV
  cases aE q.1 k with
  | true=>
   show _::_=_::_
   unfold grV
   rw[List.map_append];rfl
  | false=>exact congrArg (grV q::·) (uN k r G)
structure tX(m k n:Nat)(G:Grp):Prop where
 ke:∀ q∈G,bx k q.1
 ro:∀ q∈G,q.2≠[]∧aO m q.2∧q.2.length≤n
 le:G.length≤n
 pw:(G.map (·.1)).Pairwise fun a b=>aE a b=false
theorem kR{k r:List D}{x:List D×Tab}:∀ {G:Grp},x∈cY k r G→x∈G∨x=(k,[r])∨∃ q∈G,x=(q.1,q.2++[r])
 | [],h=>.inr (.inl (List.mem_singleton.mp h))
 | q::G,h=>by
  unfold cY at h
  split at h
  ·exact (List.mem_cons.mp h).elim (fun e=>.inr (.inr ⟨q,.head _,e⟩)) fun h=>.inl (.tail _ h)
  ·exact (List.mem_cons.mp h).elim (fun e=>.inl (e▸.head _)) fun h=>(kR h).imp (.tail _) fun h=>h.imp id fun⟨p,hp,e⟩=>⟨p,.tail _ hp,e⟩
theorem jx(k r:List D):∀ G:Grp,(cY k r G).map (·.1)=G.map (·.1)∨(cY k r G).map (·.1)=G.map (·.1)++[k]∧∀ q∈G,aE q.1 k=false
 | []=>.inr ⟨rfl,fun _ h=>nomatch h⟩
 | q::G=>by
  unfold cY
  cases h:aE q.1 k with
  | true=>exact .inl rfl
  | false=>exact (jx k r G).imp (fun e=>congrArg (q.1::·) e) fun e=>⟨congrArg (q.1::·) e.1,fun x hx=>(List.mem_cons.mp hx).elim (fun z=>z▸h) (e.2 x)⟩
theorem tX.put{m k n:Nat}{G:Grp}{key r:List D}(g:tX m k n G)(hk:bx k key)(hr:bx m r):tX m k (n+1) (cY key r G) where
 ke:=fun q hq=>(kR hq).elim (g.ke q) fun h=>h.elim (fun e=>e▸hk) fun⟨p,hp,e⟩=>e▸g.ke p hp
 ro:=fun q hq=>(kR hq).elim (fun h=>⟨(g.ro q h).1,(g.ro q h).2.1,Nat.le_succ_of_le (g.ro q h).2.2⟩) fun h=>h.elim (fun e=>e▸⟨(fun h=>nomatch h),fun x hx=>List.mem_singleton.mp hx▸hr,Nat.succ_le_succ (Nat.zero_le _)⟩)
  fun⟨p,hp,e⟩=>e▸⟨List.append_ne_nil_of_right_ne_nil _ (fun h=>nomatch h),fun x hx=>(List.mem_append.mp hx).elim ((g.ro p hp).2.1 x) fun h=>List.mem_singleton.mp h▸hr,by rw[List.length_append];exact Nat.succ_le_succ (g.ro p hp).2.2⟩
 le:=(jx key r G).elim (fun e=>Nat.le_succ_of_le (by have q:=congrArg List.length e;rw[List.length_map,List.length_map] at q;exact q▸g.le)) fun e=>by
  have q:=congrArg List.length e.1
  rw[List.length_map,List.length_append,List.length_map] at q
  exact q▸Nat.succ_le_succ g.le
 pw:=(jx key r G).elim (fun e=>e▸g.pw) fun e=>by
  rw[e.1,List.pairwise_append]
  exact⟨g.pw,List.pairwise_singleton _ _,fun a ha b hb=>List.mem_singleton.mp hb▸(List.mem_map.mp ha).elim fun q z=>z.2▸e.2 q z.1⟩
noncomputable def l5(ss:List (String×Nat))(t:Tab):List D:=ss.map fun s=>l6 s.1 (col s.2 t)
noncomputable def ul(ss:List (String×Nat))(q:List D×Tab):List D:=q.1++l5 ss q.2
noncomputable def gM(ps:List Nat)(ss:List (String×Nat))(t:Tab):Tab:=(cJ ps t).map (ul ss)
theorem e9{m:Nat}{row:List D}(hr:bx m row){ps:List Nat}(hp:∀ p∈ps,p<m):bx ps.length (aS ps row):=⟨List.length_map ..,fun d hd=>(List.mem_map.mp hd).elim fun p q=>q.2▸cU hr (hp p q.1)⟩
theorem kP{m:Nat}{ps:List Nat}(hp:∀ p∈ps,p<m){t:Tab}(h:aO m t):tX m ps.length t.length (cJ ps t):=by
 have key:∀ (l:Tab) (G:Grp) (n:Nat),aO m l→tX m ps.length n G→tX m ps.length (n+l.length) (l.foldl (fun G r=>cY (aS ps r) r G) G):=by
  intro l
  induction l with
  | nil=>exact fun G n _ g=>g
  | cons r l ih=>exact fun G n hl g=>(by rw[List.length_cons,Nat.add_comm l.length,← Nat.add_assoc];exact ih _ (n+1) (fun x hx=>hl x (.tail _ hx)) (g.put (e9 (hl r (.head _)) hp) (hl r (.head _))))
 exact Nat.zero_add t.length▸key t [] 0 h ⟨(fun _ h=>nomatch h),(fun _ h=>nomatch h),Nat.le_refl _,.nil⟩
section
variable {P:List (String×Fn)} {X:CF} {cf:CF}
theorem tm{m:Nat}{ps:List Nat}{pl:D}(hp:∀ p∈ps,p<m)(hc:∀ r,bx m r→cf.call "cells_at" [.tup r,pl]=some (.tup (aS ps r),false)):∀ (t:Tab) (G:Grp),aO m t→lF cf pl (t.map .tup) (G.map grV)=some ((t.foldl (fun G r=>cY (aS ps r) r G) G).map grV)
 | [],_,_=>rfl
 | r::t,G,h=>by
  have hr:=h r (.head _)
  rw[List.map_cons,lF,hc r hr]
  show (if ((D.tup (aS ps r)).isTK&&!false)=true then _ else _)=_
  rw[jt (e9 hr hp),if_pos (show (true&&!false)=true from rfl),uN]
  exact tm hp hc t _ fun x hx=>h x (.tail _ hx)
theorem eM{r:List D}(h:∀ d∈r,d.isCell=true):aE r r=true:=by
 induction r with
 | nil=>rfl
 | cons d r ih=>
  show (bv d d&&aE r r)=true
  rw[ih fun x hx=>h x (.tail _ hx)]
  exact aP (C:=fun d=>(bv d d&&true)=true) (h d (.head _)) (fun i=>by show ((i == i)&&true)=true;rw[beq_self_eq_true];rfl) fun x=>by show ((x == x)&&true)=true;rw[beq_self_eq_true];rfl
theorem ty{k:Nat}:∀ {G:Grp} {q:List D×Tab},(∀ q∈G,bx k q.1)→(G.map (·.1)).Pairwise (fun a b=>aE a b=false)→q∈G→pJ (G.map fun q=>.tup q.1) (G.map fun q=>aA q.2) (.tup q.1)=some (aA q.2)
 | p::G,q,hk,hw,hq=>by
  have hw:=List.pairwise_cons.mp hw
  rw[List.map_cons,List.map_cons,lW]
  show (if aE p.1 q.1=true then _ else _)=_
  rcases List.mem_cons.mp hq with e | hq
  ·subst e
   rw[eM (hk q (.head _)).2,if_pos rfl]
  ·rw[hw.1 q.1 (List.mem_map.mpr ⟨q,hq,rfl⟩),if_neg Bool.false_ne_true]
   exact ty (fun x hx=>hk x (.tail _ hx)) hw.2 hq
noncomputable abbrev grBody:List MS:=[.assign "told" (.comp (.call "told_of" [.var "one",.sub (.var "groups") (.var "own")]) "one" (.var "sums") []),.append "found" (.bin .Add (.var "own") (.blt "tuple" [.var "told"]))]
theorem grouped_eq(B:BA P)(n:Nat){m:Nat}{t:Tab}(h:aO m t)(hl:t.length≤60){ps:List Nat}(hp:∀ p∈ps,p<m)(hpl:ps.length≤1000){ss:List (String×Nat)}(hs:∀ s∈ss,s.2<m)(hsl:ss.length≤1000) :
  (al P X (n+3)).call "grouped" [aA t,.tup (ps.map br),.tup (ss.map dJ)]=some (aA (gM ps ss t),true):=by
 have g:=kP hp h
 have lb:∀ {k:Nat},k≤1000→k≤big:=fun h=>Nat.le_trans h (by decide)
 have hG:lF (al P X (n+2)) (.tup (ps.map br)) (t.map .tup) []=some ((cJ ps t).map grV):=tm hp (fun r hr=>rj B (n+1) hr hp (lb hpl)) t [] h
 have e1:((cJ ps t).map grV).map (·.1)=(cJ ps t).map fun q=>D.tup q.1:=by rw[List.map_map];rfl
 have e2:((cJ ps t).map grV).map (fun q=>D.list q.2)=(cJ ps t).map fun q=>aA q.2:=by rw[List.map_map];rfl
 unfold gM
 generalize cJ ps t=G at *
 refine az B.grouped rfl ?_
 show Run _ jB.body [("rows",(false,aA t)),("places",(false,.tup (ps.map br))),("sums",(false,.tup (ss.map dJ)))] _ _
 refine aL (av (d:=.dict [] []) (fr:=true) rfl) (aL (p_grp (σ':=[("rows",(false,aA t)),("places",(false,.tup (ps.map br))),("sums",(false,.tup (ss.map dJ))),("groups",(false,.dict (G.map fun q=>.tup q.1) (G.map fun q=>aA q.2)))]) ?_) (aL (av (d:=.list []) (fr:=true) rfl) ?_))
 ·show (lF (al P X (n+2)) (.tup (ps.map br)) (t.map .tup) []).map _=_
  rw[hG,Option.map_some]
  unfold uM
  rw[e1,e2];rfl
 obtain⟨σ',I',e⟩:=fV (cf:=al P X (n+2)) (body:=grBody) (z:="own") (g:=fun q:List D×Tab=>D.tup q.1) (fun b σ=>Has σ "groups" (.dict (G.map fun q=>.tup q.1) (G.map fun q=>aA q.2))∧Has σ "sums" (.tup (ss.map dJ))∧dA σ "found" (aA (b.map (ul ss)))) G []
  (freeze ["groups"] (aC [("rows",(false,aA t)),("places",(false,.tup (ps.map br))),("sums",(false,.tup (ss.map dJ))),("groups",(false,.dict (G.map fun q=>.tup q.1) (G.map fun q=>aA q.2)))] "found" (true,.list []))) ⟨b9 (ak rfl (ai rfl (ai rfl (ai rfl af)))),b9 (ak rfl (ai rfl (ai rfl af))),jK rfl et⟩ (by
  rintro b q σ hq hb ⟨i1,i2,i3⟩
  have hd:a9 (.dict (G.map fun q=>.tup q.1) (G.map fun q=>aA q.2)) (.tup q.1)=some (aA q.2):=(if_pos (by
   unfold dX
   rw[jt (g.ke q hq),show (G.map fun q=>D.tup q.1).all D.isTK=true from List.all_eq_true.mpr fun d hd=>(List.mem_map.mp hd).elim fun p z=>z.2▸jt (g.ke p z.1)]
   exact Bool.or_true _)).trans (ty g.ke g.pw hq)
  have hro:=g.ro q hq
  have ht:∀ s∈ss,(al P X (n+2)).call "told_of" [dJ s,aA q.2]=some (l6 s.1 (col s.2 q.2),false):=fun s hss=>by
   obtain⟨qk,qt⟩:=q
   cases qt with
   | nil=>exact absurd rfl hro.1
   | cons r0 rs=>exact told_eq B n hro.2.1 (Nat.le_trans hro.2.2 (Nat.le_trans hl (by decide))) s.1 (hs s hss)
  refine aN (av (d:=.list (l5 ss q.2)) (fr:=true) (aw (fw (g:=dJ) (l:=ss) (ae (aa (ak rfl i2))) rfl (lb hsl) fun s hss=>ax (ad (ae bw) (ad (au (ae (aX rfl (aa (ak rfl i1)))) (ae (aX rfl (aa aB))) hd) (aj _ _))) (ht s hss)) rfl rfl)) ?_
  refine aN (cQ (d:=.tup (ul ss q)) (ds:=(b.map (ul ss)).map .tup) (ao (x:=.tup q.1) (y:=.tup (l5 ss q.2)) (ae (aa (ak rfl (ay aB)))) (bS (ad (ae (aa aB)) (aj _ _)) rfl) (if_pos (by unfold l5;rw[(g.ke q hq).1,List.length_map];exact Nat.le_trans (Nat.add_le_add hpl hsl) (by decide)))) (eQ rfl (cO rfl (eQ rfl (cO rfl i3)))) ?_) (bJ ⟨rfl,ak rfl (ay (ak rfl (ay (ak rfl i1)))),ak rfl (ay (ak rfl (ay (ak rfl i2)))),?_⟩)
  ·rw[List.length_map,List.length_map]
   exact Nat.lt_of_lt_of_le (Nat.lt_of_lt_of_le (Nat.zero_add (List.length G)▸hb) g.le) (Nat.le_trans hl (by decide))
  ·rw[List.map_append]
   show dA _ _ (aA (_++[_]))
   rw[dD];exact et)
 exact eH (ae (aa (ak rfl (ai rfl (ai rfl (ai rfl af)))))) rfl (show cj _ ((G.map fun q=>D.tup q.1)) _=_ from e) (eB I'.2.2)
end

open PySem PySem.W
set_option maxRecDepth 100000
noncomputable def gD(k:Nat×Bool)(l:Tab):Tab:=fR [] k.2 (col k.1 l) l
noncomputable def fB(ks:List (Nat×Bool))(t:Tab):Tab:=ks.reverse.foldl (fun l k=>gD k l) t
theorem sN{α β:Type}(f:α→β)(b:Bool)(l:List α):katRev b (l.map f)=(katRev b l).map f:=by
 cases b with
 | false=>rfl
 | true=>exact List.map_reverse.symm
theorem sM{α:Type}{b:Bool}{l:List α}{x:α}:x∈katRev b l↔x∈l:=by
 cases b with
 | false=>exact Iff.rfl
 | true=>exact List.mem_reverse
theorem rQ{ks:List D}{i:Nat}(h:i∈kix ks):i<ks.length:=List.mem_range.mp ((j5 ks).mem_iff.mp h)
theorem srtL_map{ks:List D}{l:Tab}(hl:ks.length=l.length)(b:Bool):fR D.none b ks (l.map .tup)=(fR [] b ks l).map .tup:=by
 unfold fR
 rw[← sN D.tup b ((kix (katRev b ks)).map _),List.map_map,sN D.tup b l]
 refine congrArg (katRev b) (List.map_congr_left fun i hi=>?_)
 have hi':i<(katRev b l).length:=by have:=rQ hi;rw[kat_len] at this ⊢;rw[← hl];exact this
 show ((katRev b l).map D.tup).getD i .none=.tup ((katRev b l).getD i [])
 rw[List.getD_eq_getElem?_getD,List.getD_eq_getElem?_getD,List.getElem?_map,List.getElem?_eq_getElem hi'];rfl
theorem lP(k:Nat×Bool)(l:Tab):(gD k l).length=l.length∧∀ r∈gD k l,r∈l:=by
 have hl:(col k.1 l).length=l.length:=List.length_map ..
 refine⟨mf.trans hl,fun r hr=>?_⟩
 unfold gD fR at hr
 obtain⟨i,hi,e⟩:=List.mem_map.mp (sM.mp hr)
 have hi':i<(katRev k.2 l).length:=by have:=rQ hi;rw[kat_len] at this ⊢;rw[← hl];exact this
 rw[List.getD_eq_getElem?_getD,List.getElem?_eq_getElem hi'] at e
 exact sM.mp (show r∈katRev k.2 l from e▸List.getElem_mem hi')
section
variable {P:List (String×Fn)} {X:CF} {cf:CF}
theorem rank_eq(B:BA P)(n:Nat){c:D}(hc:c.isCell=true):(al P X (n+1)).call "rank" [c]=some (.tup [.bool (cR c),c],false):=
 az B.rank rfl (aK (aw (bN (ad (il (ae (aa af)) (pp hc)) (ad (ae (aa af)) (aj _ _))) (Nat.le_of_ble_eq_true rfl)) rfl rfl) rfl)
theorem oo(B:BA P)(n:Nat){m p:Nat}(hp:p<m):∀ {l:Tab},aO m l→gY (fA (al P X (n+1)) "rank" (.int p)) (l.map .tup)=some (col p l)
 | [],_=>rfl
 | r::l,h=>by
  have hr:=h r (.head _)
  have hc:=cU hr hp
  have e:fA (al P X (n+1)) "rank" (.int p) (.tup r)=some (.tup [.bool (cR (r.getD p .none)),r.getD p .none]):=by
   unfold fA;rw[fM hr hp];show ((al P X (n+1)).call "rank" [_]).map _=_;rw[rank_eq B n hc];rfl
  rw[List.map_cons,gY,e]
  show (match qF _ with | some c=>_ | none=>_)=_
  rw[show qF (.tup [.bool (cR (r.getD p .none)),r.getD p .none])=some (r.getD p .none) from if_pos (by rw[hc,beq_self_eq_true];rfl),oo B n hp fun x hx=>h x (.tail _ hx)]
  rfl
theorem v_srt{ρ:List (String×D)}{a:ME}{f x p:String}{rev:Bool}{ds ks:List D}{i:D}(ha:evE cf ρ a=some (.list ds))(hp:jH ρ p i)(hz:ds.length<64)(hk:gY (fA cf f i) ds=some ks):evE cf ρ (.srt a f x p rev)=some (.list (fR .none rev ks ds)):=by
 rw[ev_srt,ha];dsimp only;rw[show ρ.lookup p=some i from hp]
 show (if ds.length<64 then (gY _ ds).map _ else _)=_
 rw[if_pos hz,hk];rfl
noncomputable abbrev ordB:List MS:=[.assign "place" (.sub (.var "one") (.int 0)),.ite (.sub (.var "one") (.int 1)) [.assign "found" (.srt (.var "found") "rank" "row" "place" true)] [.assign "found" (.srt (.var "found") "rank" "row" "place" false)]]
theorem ordered_eq(B:BA P)(n:Nat){m:Nat}{t:Tab}(h:aO m t)(hl:t.length<64){ks:List (Nat×Bool)}(hk:∀ k∈ks,k.1<m) :
  (al P X (n+2)).call "ordered" [aA t,.tup (ks.map d4)]=some (aA (fB ks t),true):=by
 refine az B.ordered rfl ?_
 show Run _ jA.body [("rows",(false,aA t)),("keys",(false,.tup (ks.map d4)))] _ _
 refine aL (av (d:=aA t) (fr:=true) rfl) ?_
 obtain⟨σ',I',e⟩:=fV (cf:=al P X (n+1)) (body:=ordB) (z:="one") (g:=d4) (fun b σ=>aO m (b.foldl (fun l k=>gD k l) t)∧(b.foldl (fun l k=>gD k l) t).length=t.length∧dA σ "found" (aA (b.foldl (fun l k=>gD k l) t))) ks.reverse [] (freeze ["keys"] (aC (settle (aA t) ["rows"] [("rows",(false,aA t)),("keys",(false,.tup (ks.map d4)))]) "found" (true,aA t))) ⟨h,rfl,jK rfl et⟩ (by
  rintro b k σ hb _ ⟨i1,i2,i3⟩
  rw[List.foldl_append]
  show Out _ _ _ fun fl σ'=>fl=.next∧aO m (gD k _)∧(gD k _).length=t.length∧dA σ' "found" (aA (gD k _))
  generalize b.foldl (fun l k=>gD k l) t=l at *
  have hp:=hk k (List.mem_reverse.mp hb)
  have ok:=lP k l
  have hs:∀ {σ:St} {rev:Bool},rev=k.2→Has σ "found" (aA l)→Has σ "place" (br k.1)→evF (al P X (n+1)) (vis σ) (.srt (.var "found") "rank" "row" "place" rev)=some (aA (gD k l),true):=fun {σ rev} e j1 j2=>by
   subst e
   have q:=v_srt (cf:=al P X (n+1)) (x:="row") (f:="rank") (rev:=k.2) (ae (aa j1)) (aa j2) (by rw[List.length_map,i2];exact hl) (oo B n hp i1)
   rw[srtL_map (ks:=col k.1 l) (l:=l) (List.length_map ..)] at q
   exact aw q rfl rfl
  refine aN (bc (d:=br k.1) (fr:=false) (aw (au (x:=d4 k) (ae (aa aB)) (ag _ _ _) rfl) rfl rfl) rfl) (cM (k:=k.2) (au (x:=d4 k) (y:=.int 1) (d:=.bool k.2) (ae (aa (ak rfl aB))) (ag _ _ _) rfl) rfl (fun q=>?_) fun q=>?_)
  ·exact aN (av (hs q.symm (ak rfl (ak rfl (qS i3))) aB)) (bJ ⟨rfl,fun r hr=>i1 r (ok.2 r hr),ok.1.trans i2,et⟩)
  ·exact aN (av (hs q.symm (ak rfl (ak rfl (qS i3))) aB)) (bJ ⟨rfl,fun r hr=>i1 r (ok.2 r hr),ok.1.trans i2,et⟩))
 exact r_forr (ae (aa (ak rfl (ay (ai rfl af))))) (by rw[← List.map_reverse];exact e) (eB I'.2.2)
end

section
variable {α:Type} {G:α→Prop} {lt lt1 lt2:α→α→Bool} {l r r':List α}
noncomputable def eqv(lt:α→α→Bool)(x y:α):Bool:=!lt x y&&!lt y x
structure Stb(G:α→Prop)(lt:α→α→Bool)(l r:List α):Prop where
 pw:r.Pairwise fun a b=>lt b a=false
 fl:∀ x,G x→r.filter (eqv lt x)=l.filter (eqv lt x)
structure WkG(G:α→Prop)(lt:α→α→Bool):Prop where
 irr:∀ {a},G a→lt a a=false
 tr:∀ {a b c},G a→G b→G c→lt a b=true→lt b c=true→lt a c=true
 neg:∀ {a b c},G a→G b→G c→lt a b=false→lt b c=false→lt a c=false
theorem fZ{a:α}(h:lt a a=false):eqv lt a a=true:=by unfold eqv;rw[h];rfl
theorem uR{a b:α}(h1:lt a b=false)(h2:lt b a=false):eqv lt a b=true:=by unfold eqv;rw[h1,h2];rfl
theorem pF{a b:α}(h:eqv lt a b=true):lt a b=false∧lt b a=false:=by
 unfold eqv at h
 have h:=Bool.and_eq_true_iff.mp h
 exact⟨Bool.not_eq_true' _ |>.mp h.1,Bool.not_eq_true' _ |>.mp h.2⟩
theorem p7(hi:∀ a,G a→lt a a=false):∀ {r r':List α},(∀ a∈r,G a)→(∀ a∈r',G a)→r.Pairwise (fun a b=>lt b a=false)→r'.Pairwise (fun a b=>lt b a=false)→(∀ x,G x→r.filter (eqv lt x)=r'.filter (eqv lt x))→r=r'
 | [],[],_,_,_,_,_=>rfl
 | [],b::r',_,h2,_,_,hf=>by
  have q:=hf b (h2 b (.head _))
  rw[List.filter_cons_of_pos (fZ (hi b (h2 b (.head _))))] at q
  cases q
 | a::r,[],h1,_,_,_,hf=>by
  have q:=hf a (h1 a (.head _))
  rw[List.filter_cons_of_pos (fZ (hi a (h1 a (.head _))))] at q
  cases q
 | a::r,b::r',h1,h2,p1,p2,hf=>by
  have ga:=h1 a (.head _)
  have gb:=h2 b (.head _)
  have p1:=List.pairwise_cons.mp p1
  have p2:=List.pairwise_cons.mp p2
  have ma:a∈b::r':=(List.mem_filter.mp (hf a ga▸List.mem_filter.mpr ⟨.head _,fZ (hi a ga)⟩)).1
  have mb:b∈a::r:=(List.mem_filter.mp ((hf b gb).symm▸List.mem_filter.mpr ⟨.head _,fZ (hi b gb)⟩)).1
  have e1:lt b a=false:=(List.mem_cons.mp mb).elim (fun e=>e▸hi b gb) (p1.1 b)
  have e2:lt a b=false:=(List.mem_cons.mp ma).elim (fun e=>e▸hi a ga) (p2.1 a)
  have q:=hf a ga
  rw[List.filter_cons_of_pos (fZ (hi a ga)),List.filter_cons_of_pos (uR e2 e1)] at q
  have e:a=b:=(List.cons.inj q).1
  subst e
  refine congrArg (a::·) (p7 hi (fun x hx=>h1 x (.tail _ hx)) (fun x hx=>h2 x (.tail _ hx)) p1.2 p2.2 fun x gx=>?_)
  have q:=hf x gx
  cases hx:eqv lt x a with
  | true=>rw[List.filter_cons_of_pos hx,List.filter_cons_of_pos hx] at q;exact (List.cons.inj q).2
  | false=>rw[List.filter_cons_of_neg (by rw[hx];exact Bool.false_ne_true),List.filter_cons_of_neg (by rw[hx];exact Bool.false_ne_true)] at q;exact q
theorem Stb.uniq(hi:∀ a,G a→lt a a=false)(h:Stb G lt l r)(h':Stb G lt l r')(g:∀ a∈r,G a)(g':∀ a∈r',G a):r=r':=p7 hi g g' h.pw h'.pw fun x gx=>(h.fl x gx).trans (h'.fl x gx).symm
noncomputable def lE(lt1 lt2:α→α→Bool)(a b:α):Bool:=lt1 a b||(!lt1 b a&&lt2 a b)
theorem eqv_lex(x y:α):eqv (lE lt1 lt2) x y=(eqv lt1 x y&&eqv lt2 x y):=by
 unfold eqv lE
 cases lt1 x y <;> cases lt1 y x <;> cases lt2 x y <;> cases lt2 y x <;> rfl
theorem Stb.lex{l':List α}(hi:∀ a,G a→lt1 a a=false)(g:∀ a∈r,G a)(h1:Stb G lt1 l' r)(h2:Stb G lt2 l l'):Stb G (lE lt1 lt2) l r where
 fl:=fun x gx=>by
  rw[show eqv (lE lt1 lt2) x=fun y=>eqv lt1 x y&&eqv lt2 x y from funext (eqv_lex x)]
  show List.filter (fun a=>eqv lt1 x a&&eqv lt2 x a) r=List.filter (fun a=>eqv lt1 x a&&eqv lt2 x a) l
  rw[← List.filter_filter,← List.filter_filter,h2.fl x gx |>.symm,List.filter_filter,List.filter_filter]
  have:∀ t:List α,List.filter (fun a=>eqv lt1 x a&&eqv lt2 x a) t=(t.filter (eqv lt1 x)).filter (eqv lt2 x):=fun t=>by
   rw[List.filter_filter];exact List.filter_congr fun y _=>Bool.and_comm _ _
  rw[this,this,h1.fl x gx]
 pw:=List.pairwise_iff_forall_sublist.mpr fun {a b} hs=>by
  have l1:=List.pairwise_iff_forall_sublist.mp h1.pw hs
  have ga:=g a (hs.subset (.head _))
  unfold lE
  rw[l1]
  cases e:lt1 a b with
  | true=>rfl
  | false=>
   have q:=hs.filter (eqv lt1 a)
   rw[h1.fl a ga,List.filter_cons_of_pos (fZ (hi a ga)),List.filter_cons_of_pos (uR e l1)] at q
   have:=List.pairwise_iff_forall_sublist.mp h2.pw (q.trans List.filter_sublist)
   rw[this];rfl
theorem WkG.le_lt(W:WkG G lt){a b c:α}(ga:G a)(gb:G b)(gc:G c)(h:lt b a=false)(h2:lt b c=true):lt a c=true:=by
 cases e:lt a c with
 | true=>rfl
 | false=>rw[W.neg gb ga gc h e] at h2;cases h2
theorem WkG.lt_le(W:WkG G lt){a b c:α}(ga:G a)(gb:G b)(gc:G c)(h:lt a b=true)(h2:lt c b=false):lt a c=true:=by
 cases e:lt a c with
 | true=>rfl
 | false=>rw[W.neg ga gc gb e h2] at h;cases h
theorem WkG.asym(W:WkG G lt){a b:α}(ga:G a)(gb:G b)(h:lt a b=true):lt b a=false:=by
 cases e:lt b a with
 | false=>rfl
 | true=>have:=W.tr ga gb ga h e;rw[W.irr ga] at this;cases this
theorem WkG.lex(W1:WkG G lt1)(W2:WkG G lt2):WkG G (lE lt1 lt2) where
 irr:=fun ga=>by unfold lE;rw[W1.irr ga,W2.irr ga];rfl
 tr:=fun {a b c} ga gb gc h1 h2=>by
  unfold lE at *
  cases x:lt1 a b with
  | true=>
   have:lt1 a c=true:=W1.lt_le ga gb gc x (by cases y:lt1 c b with | false=>rfl | true=>rw[y,W1.asym gc gb y] at h2;cases h2)
   rw[this];rfl
  | false=>
   rw[x] at h1
   cases x':lt1 b a with
   | true=>rw[x'] at h1;cases h1
   | false=>
    rw[x'] at h1
    cases y:lt1 b c with
    | true=>rw[W1.le_lt ga gb gc x' y];rfl
    | false=>
     rw[y] at h2
     cases y':lt1 c b with
     | true=>rw[y'] at h2;cases h2
     | false=>
      rw[y'] at h2
      rw[W1.neg ga gb gc x y,W1.neg gc gb ga y' x',W2.tr ga gb gc h1 h2];rfl
 neg:=fun {a b c} ga gb gc h1 h2=>by
  unfold lE at *
  have h1':=Bool.or_eq_false_iff.mp h1
  have h2':=Bool.or_eq_false_iff.mp h2
  rw[W1.neg ga gb gc h1'.1 h2'.1]
  cases x:lt1 c a with
  | true=>rfl
  | false=>
   have x1:lt1 b a=false:=W1.neg gb gc ga h2'.1 x
   have x2:lt1 c b=false:=W1.neg gc ga gb x h1'.1
   have y1:=h1'.2
   have y2:=h2'.2
   rw[x1] at y1
   rw[x2] at y2
   exact W2.neg ga gb gc y1 y2
end

section
variable {α:Type} {G:α→Prop} {lt:α→α→Bool} {left:List α} {z:α}
theorem stb_cons(W:WkG G lt){p q r:List α}{a:α}(g:∀ y∈p++a::q,G y)(h1:∀ y∈p++q,lt y a=false)(h2:∀ y∈p,lt a y=true)(m:∀ y∈r,y∈p++q)(h:Stb G lt (p++q) r):Stb G lt (p++a::q) (a::r) where
 pw:=List.pairwise_cons.mpr ⟨fun y hy=>h1 y (m y hy),h.pw⟩
 fl:=fun x gx=>by
  have ga:=g a (List.mem_append_right _ (.head _))
  have q':=h.fl x gx
  rw[List.filter_append] at q' ⊢
  cases e:eqv lt x a with
  | true=>
   have hp:p.filter (eqv lt x)=[]:=List.filter_eq_nil_iff.mpr fun y hy hxy=>by
    have:=W.le_lt gx ga (g y (List.mem_append_left _ hy)) (pF e).2 (h2 y hy)
    rw[(pF hxy).1] at this;cases this
   rw[List.filter_cons_of_pos e,List.filter_cons_of_pos e,q',hp];rfl
  | false=>
   have e:¬ eqv lt x a=true:=by rw[e];exact Bool.false_ne_true
   rw[List.filter_cons_of_neg e,List.filter_cons_of_neg e,q']
noncomputable def gu(lt:α→α→Bool)(z:α)(left:List α)(b i:Nat):Nat:=if lt (left.getD (i+1) z) (left.getD b z)=true then i+1 else b
noncomputable def fq(lt:α→α→Bool)(z:α)(left:List α):Nat:=(List.range (left.length - 1)).foldl (gu lt z left) 0
structure vn(lt:α→α→Bool)(z:α)(left:List α)(k b:Nat):Prop where
 le:b≤k
 mn:∀ j,j≤k→lt (left.getD j z) (left.getD b z)=false
 fs:∀ j,j<b→lt (left.getD b z) (left.getD j z)=true
theorem nz(W:WkG G lt)(g:∀ j,j<left.length→G (left.getD j z)):∀ k,k<left.length→vn lt z left k ((List.range k).foldl (gu lt z left) 0)
 | 0,h=>⟨Nat.le_refl _,fun j hj=>by rw[Nat.le_zero.mp hj];exact W.irr (g 0 h),fun j hj=>absurd hj (Nat.not_lt_zero j)⟩
 | k+1,h=>by
  have i:=nz W g k (Nat.lt_of_succ_lt h)
  rw[List.range_succ,List.foldl_append]
  show vn lt z left (k+1) (gu lt z left _ k)
  generalize (List.range k).foldl (gu lt z left) 0=b at *
  have gk:=g _ h
  have gj:∀ j,j≤k→G (left.getD j z):=fun j hj=>g j (Nat.lt_of_le_of_lt hj (Nat.lt_of_succ_lt h))
  have gb:=gj b i.le
  unfold gu
  cases e:lt (left.getD (k+1) z) (left.getD b z) with
  | true=>
   rw[if_pos rfl]
   have all:∀ j,j≤k→lt (left.getD (k+1) z) (left.getD j z)=true:=fun j hj=>W.lt_le gk gb (gj j hj) e (i.mn j hj)
   exact⟨Nat.le_refl _,fun j hj=>(Nat.lt_or_eq_of_le hj).elim (fun h=>W.asym gk (gj j (Nat.le_of_lt_succ h)) (all j (Nat.le_of_lt_succ h))) fun h=>by rw[h];exact W.irr gk,fun j hj=>all j (Nat.le_of_lt_succ hj)⟩
  | false=>
   rw[if_neg Bool.false_ne_true]
   exact⟨Nat.le_succ_of_le i.le,fun j hj=>(Nat.lt_or_eq_of_le hj).elim (fun h=>i.mn j (Nat.le_of_lt_succ h)) fun h=>h▸e,i.fs⟩
noncomputable def io(left:List α)(b:Nat):List α:=left.take b++left.drop (b+1)
noncomputable def qi(lt:α→α→Bool)(z:α):Nat→List α→List α
 | 0,_=>[]
 | n+1,left=>left.getD (fq lt z left) z::qi lt z n (io left (fq lt z left))
theorem cS{left:List α}{z:α}{j:Nat}(h:j<left.length):left.getD j z∈left:=by
 rw[List.getD_eq_getElem?_getD,List.getElem?_eq_getElem h];exact List.getElem_mem h
theorem getD_left{α:Type}{l r:List α}{z:α}{k:Nat}(h:k<l.length):(l++r).getD k z=l.getD k z:=by
 rw[List.getD_eq_getElem?_getD,List.getD_eq_getElem?_getD,List.getElem?_append_left h]
theorem mh{b:Nat}(h:b<left.length):left=left.take b++left.getD b z::left.drop (b+1):=by
 rw[List.getD_eq_getElem?_getD,List.getElem?_eq_getElem h]
 exact (List.take_append_drop b left).symm.trans (congrArg _ (List.drop_eq_getElem_cons h))
theorem qm{b:Nat}(h:b<left.length):(io left b).length+1=left.length:=by
 conv=>rhs;rw[mh (z:=left[b]) h]
 unfold io
 rw[List.length_append,List.length_append,List.length_cons];rfl
theorem jU{b:Nat}(_:b<left.length){y:α}(hy:y∈io left b):y∈left:=(List.mem_append.mp hy).elim List.mem_of_mem_take List.mem_of_mem_drop
theorem tH(W:WkG G lt)(g:∀ j,j<left.length→G (left.getD j z))(h:0<left.length):fq lt z left<left.length:=Nat.lt_of_le_of_lt (nz W g _ (Nat.sub_lt h Nat.one_pos)).le (Nat.sub_lt h Nat.one_pos)
theorem sj(W:WkG G lt):∀ (n:Nat) (left:List α),left.length=n→(∀ a∈left,G a)→Stb G lt left (qi lt z n left)∧∀ y∈qi lt z n left,y∈left
 | 0,left,h,_=>by
  have:left=[]:=List.length_eq_zero_iff.mp h
  subst this
  exact⟨⟨.nil,fun _ _=>rfl⟩,fun _ h=>h⟩
 | n+1,left,h,g=>by
  have g':∀ j,j<left.length→G (left.getD j z):=fun j hj=>g _ (cS hj)
  have h0:0<left.length:=h▸Nat.succ_pos n
  have i:=nz W g' _ (Nat.sub_lt h0 Nat.one_pos)
  have hb:=tH W g' h0
  show Stb G lt left (left.getD (fq lt z left) z::qi lt z n (io left (fq lt z left)))∧∀ y∈left.getD (fq lt z left) z::qi lt z n (io left (fq lt z left)),y∈left
  replace i:vn lt z left (left.length - 1) (fq lt z left):=i
  generalize fq lt z left=b at *
  have ih:=sj W n (io left b) (Nat.succ.inj ((qm hb).trans h)) fun a ha=>g a (jU hb ha)
  have at_:∀ y∈left,∃ j,j<left.length∧left.getD j z=y:=fun y hy=>by
   obtain⟨j,hj,e⟩:=List.getElem_of_mem hy
   exact⟨j,hj,by rw[List.getD_eq_getElem?_getD,List.getElem?_eq_getElem hj];exact e⟩
  refine⟨?_,fun y hy=>(List.mem_cons.mp hy).elim (fun e=>e▸cS hb) fun hy=>jU hb (ih.2 y hy)⟩
  have q:=stb_cons (p:=left.take b) (q:=left.drop (b+1)) (a:=left.getD b z) W (mh hb▸g) (fun y hy=>by
   obtain⟨j,hj,rfl⟩:=at_ y (jU hb hy)
   exact i.mn j (Nat.le_pred_of_lt hj)) (fun y hy=>by
   obtain⟨j,hj,e⟩:=List.getElem_of_mem hy
   have hj':=List.length_take▸hj
   have hjb:=(Nat.lt_min.mp hj').1
   have:=i.fs j hjb
   rw[show left.getD j z=y from by rw[List.getD_eq_getElem?_getD,List.getElem?_eq_getElem (Nat.lt_trans hjb hb)];exact List.getElem_take.symm.trans e] at this
   exact this) ih.2 ih.1
  rw[← mh hb] at q
  exact q
end

open PySem PyProof.Rows PySem.W
section
variable {kl:Nat→Nat→Bool} {n k m q i j:Nat} {p:Array Nat}
theorem fS{α β:Type}(f:α→KasT β):∀ t:KasT α,bU kl (t.bind f)=bU kl (f (bU kl t))
 | .ret _=>rfl
 | .ask i j k=>fS f (k (kl i j))
theorem mm(hj:j≤p.size)(k:Nat):(kas_rev p i j).getD k 0=if i≤k∧k<j then p.getD (i+j - 1 - k) 0 else p.getD k 0:=by
 rw[Array.getD_eq_getD_getElem?,Array.getD_eq_getD_getElem?,Array.getD_eq_getD_getElem?]
 unfold kas_rev
 rw[getElem?_mirror_all hj,apply_ite (Option.getD · 0)]
theorem bub_at{l:Nat}(hk:k<p.size)(hl:l≤k)(i:Nat):(bubble p k (k - l)).getD i 0=if i=l then p.getD k 0 else if l<i∧i≤k then p.getD (i - 1) 0 else p.getD i 0:=by
 rw[Array.getD_eq_getD_getElem?,Array.getD_eq_getD_getElem?,Array.getD_eq_getD_getElem?,Array.getD_eq_getD_getElem?,getElem?_bubble hk _ (Nat.sub_le _ _),Nat.sub_sub_self hl,apply_ite (Option.getD · 0),apply_ite (Option.getD · 0)]
structure Pre(kl:Nat→Nat→Bool)(n k:Nat)(p:Array Nat):Prop where
 sz:p.size=n
 kn:k≤n
 so:∀ i j,i<j→j<k→Rk kl (p.getD i 0) (p.getD j 0)
 lo:∀ i,i<k→p.getD i 0<k
 hi:∀ i,k≤i→i<n→p.getD i 0=i
theorem pO(W:Wk kl)(h:∀ i,i+1<k→Rk kl (p.getD i 0) (p.getD (i+1) 0)):∀ i j,i<j→j<k→Rk kl (p.getD i 0) (p.getD j 0)
 | i,j+1,h1,h2=>(Nat.lt_or_eq_of_le (Nat.le_of_lt_succ h1)).elim (fun e=>(pO W h i j e (Nat.lt_of_succ_lt h2)).tr W (h j h2)) fun e=>e▸h j h2
theorem Pre.add(P:Pre kl n k p)(hk:k<n)(h:∀ i,i<k→Rk kl (p.getD i 0) (p.getD k 0)):Pre kl n (k+1) p where
 sz:=P.sz
 kn:=hk
 so:=fun i j h1 h2=>(Nat.lt_or_eq_of_le (Nat.le_of_lt_succ h2)).elim (P.so i j h1) fun e=>e▸h i (e▸h1)
 lo:=fun i h=>(Nat.lt_or_eq_of_le (Nat.le_of_lt_succ h)).elim (fun h=>Nat.lt_succ_of_lt (P.lo i h)) fun e=>e▸(P.hi i (Nat.le_of_eq e.symm) (e▸hk)).symm▸Nat.lt_succ_self i
 hi:=fun i h=>P.hi i (Nat.le_of_succ_le h)
theorem Pre.add'(W:Wk kl)(P:Pre kl n k p)(h1:1≤k)(hk:k<n)(h:kl (p.getD k 0) (p.getD (k - 1) 0)=false):Pre kl n (k+1) p:=P.add hk fun i hi=>by
 have e:Rk kl (p.getD (k - 1) 0) (p.getD k 0):=.inr ⟨h,by rw[P.hi k (Nat.le_refl _) hk];exact P.lo _ (Nat.sub_lt h1 Nat.one_pos)⟩
 exact (Nat.lt_or_eq_of_le (Nat.le_pred_of_lt hi)).elim (fun h=>(P.so i _ h (Nat.sub_lt h1 Nat.one_pos)).tr W e) fun h=>h▸e
structure Asc(kl:Nat→Nat→Bool)(n k:Nat)(p:Array Nat)(m:Nat):Prop where
 pre:Pre kl n m p
 le:k≤m
 st:m<n→kl (p.getD m 0) (p.getD (m - 1) 0)=true
theorem oX(W:Wk kl):∀ f k,Pre kl n k p→1≤k→k+f=n→Asc kl n k p (bU kl (kas_asc p f k))
 | 0,k,P,_,h=>⟨P,Nat.le_refl _,fun q=>absurd h (Nat.ne_of_lt q)⟩
 | f+1,k,P,h1,h=>by
  have hk:k<n:=h▸Nat.lt_add_of_pos_right (Nat.succ_pos f)
  show Asc kl n k p (bU kl (if kl (p.getD k 0) (p.getD (k - 1) 0)=true then .ret k else kas_asc p f (k+1)))
  cases e:kl (p.getD k 0) (p.getD (k - 1) 0) with
  | true=>exact⟨P,Nat.le_refl _,fun _=>e⟩
  | false=>
   have r:=oX W f (k+1) (P.add' W h1 hk e) (Nat.le_succ_of_le h1) ((Nat.succ_add k f).trans h)
   exact⟨r.pre,Nat.le_of_succ_le r.le,r.st⟩
structure Ds(kl:Nat→Nat→Bool)(n m:Nat)(p:Array Nat):Prop where
 sz:p.size=n
 mn:m≤n
 de:∀ i,i+1<m→Rk kl (p.getD (i+1) 0) (p.getD i 0)
 lo:∀ i,i<m→p.getD i 0<m
 hi:∀ i,m≤i→i<n→p.getD i 0=i
theorem Ds.pre(W:Wk kl)(D:Ds kl n m p):Pre kl n m (kas_rev p 0 m):=by
 have at_:=mm (p:=p) (i:=0) (D.sz.symm▸D.mn:m≤p.size)
 have a1:∀ i,i<m→(kas_rev p 0 m).getD i 0=p.getD (m - 1 - i) 0:=fun i h=>by rw[at_,if_pos ⟨Nat.zero_le _,h⟩,Nat.zero_add]
 refine⟨(mirror_size _ _ _ _).trans D.sz,D.mn,pO W fun i h=>?_,fun i h=>?_,fun i h h2=>?_⟩
 ·rw[a1 i (Nat.lt_of_succ_lt h),a1 _ h]
  have e:m - 1 - i=m - 1 - (i+1)+1:=by omega
  rw[e];exact D.de _ (by omega)
 ·rw[a1 i h];exact D.lo _ (by omega)
 ·rw[at_,if_neg fun q=>absurd q.2 (Nat.not_lt.mpr h)];exact D.hi i h h2
theorem Pre.ds(P:Pre kl n k p):Ds kl n k (kas_rev p 0 k):=by
 have at_:=mm (p:=p) (i:=0) (P.sz.symm▸P.kn:k≤p.size)
 have a1:∀ i,i<k→(kas_rev p 0 k).getD i 0=p.getD (k - 1 - i) 0:=fun i h=>by rw[at_,if_pos ⟨Nat.zero_le _,h⟩,Nat.zero_add]
 refine⟨(mirror_size _ _ _ _).trans P.sz,P.kn,fun i h=>?_,fun i h=>?_,fun i h h2=>?_⟩
 ·rw[a1 i (Nat.lt_of_succ_lt h),a1 _ h];exact P.so _ _ (by omega) (by omega)
 ·rw[a1 i h];exact P.lo _ (by omega)
 ·rw[at_,if_neg fun q=>absurd q.2 (Nat.not_lt.mpr h)];exact P.hi i h h2
structure Dn(kl:Nat→Nat→Bool)(n m b:Nat)(p:Array Nat):Prop where
 sz:p.size=n
 mn:m≤n
 bm:b<m
 de:∀ i,i+1<b→Rk kl (p.getD (i+1) 0) (p.getD i 0)
 bd:0<b→∀ i,b≤i→i<m→kl (p.getD i 0) (p.getD (b - 1) 0)=true
 eq:∀ i j,b≤i→i<j→j<m→kl (p.getD i 0) (p.getD j 0)=false∧kl (p.getD j 0) (p.getD i 0)=false∧p.getD i 0<p.getD j 0
 lo:∀ i,i<m→p.getD i 0<m
 hi:∀ i,m≤i→i<n→p.getD i 0=i
theorem Dn.ds{b:Nat}(D:Dn kl n m b p):Ds kl n m (kas_rev p b m):=by
 have at_:=mm (p:=p) (i:=b) (D.sz.symm▸D.mn:m≤p.size)
 have bm:=D.bm
 refine⟨(mirror_size _ _ _ _).trans D.sz,D.mn,fun i h=>?_,fun i h=>?_,fun i h h2=>?_⟩
 ·rw[at_,at_]
  by_cases h1:b≤i
  ·rw[if_pos ⟨Nat.le_succ_of_le h1,h⟩,if_pos ⟨h1,Nat.lt_of_succ_lt h⟩]
   have:=D.eq (b+m - 1 - (i+1)) (b+m - 1 - i) (by omega) (by omega) (by omega)
   exact .inr ⟨this.2.1,this.2.2⟩
  ·rw[if_neg (c:=b≤i∧i<m) fun q=>h1 q.1]
   by_cases h2:b≤i+1
   ·have e:i=b - 1:=by omega
    rw[if_pos ⟨h2,h⟩,e]
    exact .inl (D.bd (by omega) _ (by omega) (by omega))
   ·rw[if_neg fun q=>h2 q.1];exact D.de i (by omega)
 ·rw[at_];split
  ·exact D.lo _ (by omega)
  ·exact D.lo i h
 ·rw[at_,if_neg fun q=>absurd q.2 (Nat.not_lt.mpr h)];exact D.hi i h h2
theorem Dn.ds0(D:Dn kl n (m+1) m p):Ds kl n (m+1) p:=⟨D.sz,D.mn,fun i h=>(Nat.lt_or_eq_of_le (Nat.le_of_lt_succ h)).elim (D.de i) fun e=>by subst e;exact .inl (D.bd (Nat.succ_pos i) _ (Nat.le_refl _) (Nat.lt_succ_self _)),D.lo,D.hi⟩
theorem Ds.dn(D:Ds kl n m p)(h:m<n)(hk:kl (p.getD m 0) (p.getD (m - 1) 0)=true):Dn kl n (m+1) m p where
 sz:=D.sz
 mn:=h
 bm:=Nat.lt_succ_self m
 de:=D.de
 bd:=fun _ i h1 h2=>(Nat.le_antisymm h1 (Nat.le_of_lt_succ h2))▸hk
 eq:=fun i j h1 h2 h3=>absurd (Nat.lt_of_le_of_lt h1 h2) (Nat.not_lt.mpr (Nat.le_of_lt_succ h3))
 lo:=fun i hi=>(Nat.lt_or_eq_of_le (Nat.le_of_lt_succ hi)).elim (fun h=>Nat.lt_succ_of_lt (D.lo i h)) fun e=>by rw[D.hi i (Nat.le_of_eq e.symm) (e▸h)];exact hi
 hi:=fun i h=>D.hi i (Nat.le_of_succ_le h)
theorem Dn.more(W:Wk kl){b:Nat}(D:Dn kl n m b p)(h:m<n)(h1:kl (p.getD m 0) (p.getD (m - 1) 0)=false)(h2:kl (p.getD (m - 1) 0) (p.getD m 0)=false):Dn kl n (m+1) b p where
 sz:=D.sz
 mn:=h
 bm:=Nat.lt_succ_of_lt D.bm
 de:=D.de
 bd:=fun h0 i h3 h4=>(Nat.lt_or_eq_of_le (Nat.le_of_lt_succ h4)).elim (D.bd h0 i h3) fun e=>e▸W.le_lt h2 (D.bd h0 (m - 1) (Nat.le_pred_of_lt D.bm) (Nat.sub_lt (Nat.lt_of_le_of_lt (Nat.zero_le _) D.bm) Nat.one_pos))
 eq:=fun i j h3 h4 h5=>(Nat.lt_or_eq_of_le (Nat.le_of_lt_succ h5)).elim (D.eq i j h3 h4) fun e=>by
  subst e
  have hl:p.getD i 0<p.getD j 0:=by rw[D.hi j (Nat.le_refl _) h];exact D.lo i h4
  rcases Nat.lt_or_eq_of_le (Nat.le_pred_of_lt h4) with q | q
  ·have z:=D.eq i (j - 1) h3 q (Nat.sub_lt (Nat.lt_of_le_of_lt (Nat.zero_le _) h4) Nat.one_pos)
   exact⟨W.neg z.1 h2,W.neg h1 z.2.1,hl⟩
  ·subst q;exact⟨h2,h1,hl⟩
 lo:=fun i hi=>(Nat.lt_or_eq_of_le (Nat.le_of_lt_succ hi)).elim (fun h=>Nat.lt_succ_of_lt (D.lo i h)) fun e=>by rw[D.hi i (Nat.le_of_eq e.symm) (e▸h)];exact hi
 hi:=fun i h=>D.hi i (Nat.le_of_succ_le h)
noncomputable def DnR(kl:Nat→Nat→Bool)(n:Nat)(r:Array Nat×Nat×Nat):Prop:=r.2.2+1≤r.2.1∧Dn kl n r.2.1 (r.2.1 - (r.2.2+1)) r.1
theorem jR(W:Wk kl):∀ f (p:Array Nat) m q,DnR kl n (p,m,q)→m+f=n→DnR kl n (bU kl (kas_desc f p m q))
 | 0,_,_,_,D,_=>D
 | f+1,p,m,q,D,h=>by
  have hm:m<n:=h▸Nat.lt_add_of_pos_right (Nat.succ_pos f)
  have h':m+1+f=n:=(Nat.succ_add m f).trans h
  obtain⟨hq,D⟩:=D
  dsimp only at hq D
  show DnR kl n (bU kl (if kl (p.getD m 0) (p.getD (m - 1) 0)=true then (if q > 0 then kas_desc f (kas_rev p (m - (q+1)) m) (m+1) 0 else kas_desc f p (m+1) 0) else .ask (p.getD (m - 1) 0) (p.getD m 0) fun d=>if d=true then .ret (p,m,q) else kas_desc f p (m+1) (q+1)))
  have nx:∀ {p':Array Nat},Ds kl n m p'→kl (p'.getD m 0) (p'.getD (m - 1) 0)=true→DnR kl n (p',m+1,0):=fun D' e=>⟨Nat.succ_le_succ (Nat.zero_le _),D'.dn hm e⟩
  cases e:kl (p.getD m 0) (p.getD (m - 1) 0) with
  | true=>
   rw[if_pos rfl]
   by_cases h0:q > 0
   ·rw[if_pos h0]
    refine jR W f _ _ _ (nx D.ds ?_) h'
    have at_:=mm (p:=p) (i:=m - (q+1)) (D.sz.symm▸D.mn:m≤p.size)
    rw[at_,at_,if_neg fun z=>absurd z.2 (Nat.lt_irrefl m),if_pos (by omega),show m - (q+1)+m - 1 - (m - 1)=m - (q+1) from by omega]
    exact W.lt_le e (D.eq _ _ (Nat.le_refl _) (by omega) (by omega)).1
   ·rw[if_neg h0]
    have e0:q=0:=Nat.le_zero.mp (Nat.not_lt.mp h0)
    subst e0
    obtain⟨m,rfl⟩:∃ k,m=k+1:=⟨m - 1,(Nat.sub_add_cancel hq).symm⟩
    exact jR W f _ _ _ (nx D.ds0 e) h'
  | false=>
   rw[if_neg Bool.false_ne_true]
   show DnR kl n (bU kl (if kl (p.getD (m - 1) 0) (p.getD m 0)=true then .ret (p,m,q) else kas_desc f p (m+1) (q+1)))
   cases e2:kl (p.getD (m - 1) 0) (p.getD m 0) with
   | true=>exact⟨hq,D⟩
   | false=>
    refine jR W f _ _ _ ⟨Nat.succ_le_succ hq,?_⟩ h'
    show Dn kl n (m+1) (m+1 - (q+1+1)) p
    rw[Nat.add_sub_add_right]
    exact D.more W hm e e2
noncomputable def PreR(kl:Nat→Nat→Bool)(n:Nat)(r:Nat×Array Nat):Prop:=1≤r.1∧Pre kl n r.1 r.2
theorem n6(W:Wk kl)(D:Ds kl n m p)(h1:1≤m):PreR kl n (bU kl (kas_tail3 m n p)):=by
 unfold kas_tail3
 rw[fS]
 have r:=oX W (n - m) m (D.pre W) h1 (Nat.add_sub_cancel' D.mn)
 exact⟨Nat.le_trans h1 r.le,r.pre⟩
theorem jQ(W:Wk kl)(D:Ds kl n m p)(h:m<n)(h1:1≤m)(hk:kl (p.getD m 0) (p.getD (m - 1) 0)=true):PreR kl n (bU kl (kas_descPart m n p)):=by
 unfold kas_descPart
 rw[fS]
 have r:=jR (n:=n) W (n - (m+1)) p (m+1) 0 ⟨Nat.succ_le_succ (Nat.zero_le _),D.dn h hk⟩ (Nat.add_sub_cancel' h)
 generalize bU kl (kas_desc (n - (m+1)) p (m+1) 0)=t at *
 obtain⟨p',m',q⟩:=t
 obtain⟨hq,r⟩:=r
 dsimp only at hq r ⊢
 have h1':1≤m':=Nat.le_trans (Nat.succ_le_succ (Nat.zero_le _)) hq
 by_cases h0:q > 0
 ·rw[if_pos h0];exact n6 W r.ds h1'
 ·rw[if_neg h0]
  have e0:q=0:=Nat.le_zero.mp (Nat.not_lt.mp h0)
  subst e0
  obtain⟨m',rfl⟩:∃ k,m'=k+1:=⟨m' - 1,(Nat.sub_add_cancel hq).symm⟩
  exact n6 W r.ds0 h1'
theorem run_count(W:Wk kl)(P:Pre kl n 1 p)(h1:1≤n):PreR kl n (bU kl (kas_count n p)):=by
 unfold kas_count
 rw[fS]
 have r:=oX W (n - 1) 1 P (Nat.le_refl _) (Nat.add_sub_cancel' h1)
 generalize bU kl (kas_asc p (n - 1) 1)=k at *
 by_cases hn:(k == n)=true
 ·rw[if_pos hn];exact⟨r.le,r.pre⟩
 ·rw[if_neg hn]
  have hk:k<n:=Nat.lt_of_le_of_ne r.pre.kn fun e=>hn (beq_iff_eq.mpr e)
  have st:=r.st hk
  by_cases h2:k > 1
  ·rw[if_pos h2]
   show PreR kl n (bU kl (if kl (p.getD 0 0) (p.getD (k - 1) 0)=true then .ret (k,p) else kas_descPart k n (kas_rev p 0 k)))
   cases e:kl (p.getD 0 0) (p.getD (k - 1) 0) with
   | true=>exact⟨r.le,r.pre⟩
   | false=>
    refine jQ W r.pre.ds hk r.le ?_
    have at_:=mm (p:=p) (i:=0) (r.pre.sz.symm▸r.pre.kn:k≤p.size)
    rw[at_,at_,if_neg fun z=>absurd z.2 (Nat.lt_irrefl k),if_pos ⟨Nat.zero_le _,Nat.sub_lt r.le Nat.one_pos⟩,Nat.zero_add,Nat.sub_self]
    exact W.lt_le st e
  ·rw[if_neg h2]
   have ek:k=1:=Nat.le_antisymm (Nat.not_lt.mp h2) r.le
   subst ek
   exact jQ W ⟨r.pre.sz,r.pre.kn,fun i h=>absurd (Nat.lt_of_succ_lt_succ h) (Nat.not_lt_zero _),r.pre.lo,r.pre.hi⟩ hk (Nat.le_refl _) st
structure Plc(kl:Nat→Nat→Bool)(k:Nat)(p:Array Nat)(l:Nat):Prop where
 le:l≤k
 lo:∀ i,i<l→kl (p.getD k 0) (p.getD i 0)=false
 hi:∀ i,l≤i→i<k→kl (p.getD k 0) (p.getD i 0)=true
theorem kA(W:Wk kl)(P:Pre kl n k p):∀ f l r,r - l≤f→l≤r→r≤k→(∀ i,i<l→kl (p.getD k 0) (p.getD i 0)=false)→(∀ i,r≤i→i<k→kl (p.getD k 0) (p.getD i 0)=true)→Plc kl k p (bU kl (kas_place p k f l r))
 | 0,l,r,h,h1,h2,h3,h4=>⟨Nat.le_trans h1 h2,h3,fun i hi=>h4 i (Nat.le_trans (Nat.le_of_sub_eq_zero (Nat.le_zero.mp h)) hi)⟩
 | f+1,l,r,h,h1,h2,h3,h4=>by
  unfold kas_place
  by_cases hlr:l ≥ r
  ·rw[if_pos hlr];exact⟨Nat.le_trans h1 h2,h3,fun i hi=>h4 i (Nat.le_trans hlr hi)⟩
  ·rw[if_neg hlr]
   have hm:=uv (Nat.not_le.mp hlr)
   show Plc kl k p (bU kl (if kl (p.getD k 0) (p.getD ((l+r) / 2) 0)=true then kas_place p k f l ((l+r) / 2) else kas_place p k f ((l+r) / 2+1) r))
   generalize (l+r) / 2=c at *
   have hck:c<k:=Nat.lt_of_lt_of_le hm.2 h2
   cases e:kl (p.getD k 0) (p.getD c 0) with
   | true=>exact kA W P f l c (by omega) hm.1 (Nat.le_of_lt hck) h3 fun i hi hk=>(Nat.lt_or_eq_of_le hi).elim (fun h=>W.lt_le e ((P.so c i h hk).le W)) fun h=>h▸e
   | false=>exact kA W P f (c+1) r (by omega) hm.2 h2 (fun i hi=>(Nat.lt_or_eq_of_le (Nat.le_of_lt_succ hi)).elim (fun h=>W.neg e ((P.so i c h hck).le W)) fun h=>h▸e) h4
theorem Pre.ins(W:Wk kl)(P:Pre kl n k p)(hk:k<n){l:Nat}(L:Plc kl k p l):Pre kl n (k+1) (bubble p k (k - l)):=by
 have at_:=bub_at (P.sz.symm▸hk) L.le
 have hkk:=P.hi k (Nat.le_refl _) hk
 have le:=L.le
 refine⟨(bubble_size _ _ _).trans P.sz,hk,pO W fun i h=>?_,fun i h=>?_,fun i h h2=>?_⟩
 ·rw[at_,at_]
  rcases Nat.lt_trichotomy i l with c | c | c
  ·rw[if_neg (Nat.ne_of_lt c),if_neg fun z=>absurd z.1 (Nat.lt_asymm c)]
   by_cases d:i+1=l
   ·rw[if_pos d];exact .inr ⟨L.lo i c,by rw[hkk];exact P.lo i (Nat.lt_of_lt_of_le c le)⟩
   ·rw[if_neg d,if_neg fun z=>by omega];exact P.so _ _ (Nat.lt_succ_self i) (by omega)
  ·subst c
   rw[if_pos rfl,if_neg (Nat.succ_ne_self i),if_pos ⟨Nat.lt_succ_self i,Nat.le_of_lt_succ h⟩]
   exact .inl (L.hi i (Nat.le_refl _) (Nat.lt_of_succ_lt_succ h))
  ·rw[if_neg (Nat.ne_of_gt c),if_pos (c:=l<i∧i≤k) ⟨c,Nat.le_of_lt (Nat.lt_of_succ_lt_succ h)⟩,if_neg (c:=i+1=l) (Nat.ne_of_gt (Nat.lt_succ_of_lt c)),if_pos ⟨Nat.lt_succ_of_lt c,Nat.le_of_lt_succ h⟩]
   exact P.so _ _ (by omega) (Nat.lt_of_succ_lt_succ h)
 ·rw[at_];split
  ·rw[hkk];exact Nat.lt_succ_self k
  ·split
   ·exact Nat.lt_succ_of_lt (P.lo _ (by omega))
   ·exact Nat.lt_succ_of_lt (P.lo _ (by omega))
 ·rw[at_,if_neg (by omega),if_neg (by omega)];exact P.hi i (Nat.le_of_succ_le h) h2
theorem sn(W:Wk kl):∀ f (p:Array Nat) k,Pre kl n k p→k+f=n→Pre kl n n (bU kl (kas_bin f p k))
 | 0,_,k,P,h=>(show k=n from h)▸P
 | f+1,p,k,P,h=>by
  unfold kas_bin
  rw[fS]
  have hk:k<n:=h▸Nat.lt_add_of_pos_right (Nat.succ_pos f)
  have L:=kA W P k 0 k (Nat.le_refl _) (Nat.zero_le _) (Nat.le_refl _) (fun i h=>absurd h (Nat.not_lt_zero i)) fun i h1 h2=>absurd h2 (Nat.not_lt.mpr h1)
  exact sn W f _ _ (P.ins W hk L) ((Nat.succ_add k f).trans h)
theorem run_sort(W:Wk kl)(h1:1≤n):Pre kl n n (bU kl (kas_sort n)):=by
 unfold kas_sort
 rw[fS]
 have P0:Pre kl n 1 (List.toArray (List.range n)):=by
  have e:∀ i,i<n→(List.toArray (List.range n)).getD i 0=i:=fun i h=>by
   rw[Array.getD_eq_getD_getElem?,List.getElem?_toArray,List.getElem?_range h];rfl
  exact⟨by rw[List.size_toArray,List.length_range],h1,fun i j h2 h3=>absurd (Nat.lt_of_lt_of_le h2 (Nat.le_of_lt_succ h3)) (Nat.not_lt_zero _),fun i h=>by rw[e i (Nat.lt_of_lt_of_le h h1)];exact h,fun i _ h=>e i h⟩
 have r:=run_count W P0 h1
 generalize bU kl (kas_count n (List.toArray (List.range n)))=t at *
 by_cases h:t.1<n
 ·rw[if_pos h,Nat.max_eq_left r.1]
  exact sn W _ _ _ r.2 (Nat.add_sub_cancel' (Nat.le_of_lt h))
 ·rw[if_neg h]
  have e:t.1=n:=Nat.le_antisymm r.2.kn (Nat.not_lt.mp h)
  exact e▸r.2
theorem Pre.pw(P:Pre kl n n p):p.toList.Pairwise (Rk kl):=List.pairwise_iff_getElem.mpr fun i j hi hj h=>by
 have q:=P.so i j h (P.sz▸hj)
 rw[Array.getD_eq_getD_getElem?,Array.getD_eq_getD_getElem?,← Array.getElem?_toList,← Array.getElem?_toList,List.getElem?_eq_getElem hi,List.getElem?_eq_getElem hj] at q
 exact q
end

open PySem PySem.W
set_option maxRecDepth 100000
theorem cps_neg{a b c:List Nat}(h1:¬ a<b)(h2:¬ b<c):¬ a<c:=List.not_lt.mpr (List.le_trans (List.not_lt.mp h2) (List.not_lt.mp h1))
theorem wkD:WkG (fun d:D=>d.isCell=true) aI where
 irr:=fun ha=>aP (C:=fun a=>aI a a=false) ha (fun i=>decide_eq_false (Int.lt_irrefl i)) fun x=>decide_eq_false (List.lt_irrefl _)
 tr:=fun {a b c} ha hb hc=>aP (C:=fun a=>aI a b=true→aI b c=true→aI a c=true) ha
  (fun i=>aP (C:=fun b=>aI (.int i) b=true→aI b c=true→aI (.int i) c=true) hb
   (fun j=>aP (C:=fun c=>aI (.int i) (.int j)=true→aI (.int j) c=true→aI (.int i) c=true) hc (fun k h1 h2=>decide_eq_true (Int.lt_trans (of_decide_eq_true h1) (of_decide_eq_true h2))) fun _ _ _=>rfl)
   fun y=>aP (C:=fun c=>aI (.int i) (.str y)=true→aI (.str y) c=true→aI (.int i) c=true) hc (fun k _ h2=>nomatch h2) fun _ _ _=>rfl)
  fun x=>aP (C:=fun b=>aI (.str x) b=true→aI b c=true→aI (.str x) c=true) hb (fun j h1=>nomatch h1)
   fun y=>aP (C:=fun c=>aI (.str x) (.str y)=true→aI (.str y) c=true→aI (.str x) c=true) hc (fun k _ h2=>nomatch h2) fun z h1 h2=>decide_eq_true (List.lt_trans (of_decide_eq_true h1) (of_decide_eq_true h2))
 neg:=fun {a b c} ha hb hc=>aP (C:=fun a=>aI a b=false→aI b c=false→aI a c=false) ha
  (fun i=>aP (C:=fun b=>aI (.int i) b=false→aI b c=false→aI (.int i) c=false) hb
   (fun j=>aP (C:=fun c=>aI (.int i) (.int j)=false→aI (.int j) c=false→aI (.int i) c=false) hc (fun k h1 h2=>decide_eq_false (Int.not_lt.mpr (Int.le_trans (Int.not_lt.mp (of_decide_eq_false h2)) (Int.not_lt.mp (of_decide_eq_false h1))))) fun _ _ h2=>nomatch h2)
   fun y h1=>nomatch h1)
  fun x=>aP (C:=fun b=>aI (.str x) b=false→aI b c=false→aI (.str x) c=false) hb
   (fun j=>aP (C:=fun c=>aI (.str x) (.int j)=false→aI (.int j) c=false→aI (.str x) c=false) hc (fun _ _ _=>rfl) fun _ _ h2=>nomatch h2)
   fun y=>aP (C:=fun c=>aI (.str x) (.str y)=false→aI (.str y) c=false→aI (.str x) c=false) hc (fun _ _ _=>rfl) fun z h1 h2=>decide_eq_false (cps_neg (of_decide_eq_false h1) (of_decide_eq_false h2))
theorem du{ds:List D}(h:∀ d∈ds,d.isCell=true)(p:Nat):(dF ds p).isCell=true:=by
 unfold dF
 rw[List.getD_eq_getElem?_getD]
 cases e:ds[p]? with
 | none=>rfl
 | some d=>exact h d (List.mem_of_getElem? e)
theorem kix_pw{ks:List D}(h:∀ d∈ks,d.isCell=true):Wk (fun i j=>aI (dF ks i) (dF ks j))∧(kix ks).Pairwise (Rk fun i j=>aI (dF ks i) (dF ks j)):=by
 have W:Wk (fun i j=>aI (dF ks i) (dF ks j)):=⟨fun _=>wkD.irr (du h _),wkD.tr (du h _) (du h _) (du h _),wkD.neg (du h _) (du h _) (du h _)⟩
 refine⟨W,?_⟩
 unfold kix
 split
 ·next hl=>exact List.pairwise_iff_getElem.mpr fun i j _ hj hij=>by rw[List.length_range] at hj;exact absurd (Nat.lt_of_le_of_lt (Nat.succ_le_of_lt hij) hj) (Nat.not_lt.mpr (Nat.le_trans (Nat.le_of_lt_succ hl) (Nat.succ_le_succ (Nat.zero_le _))))
 ·next hl=>exact (run_sort W (Nat.le_of_lt (Nat.not_lt.mp hl))).pw
theorem uC{p i:Nat}{l:Tab}(h:i<l.length):dF (col p l) i=(l.getD i []).getD p .none:=by
 unfold dF col
 rw[List.getD_eq_getElem?_getD,List.getElem?_map,List.getD_eq_getElem?_getD (l:=l),List.getElem?_eq_getElem h];rfl
noncomputable def ltC(p:Nat)(a b:List D):Bool:=aI (a.getD p .none) (b.getD p .none)
theorem wkC{m p:Nat}(hp:p<m):WkG (bx m) (ltC p):=⟨fun ha=>wkD.irr (cU ha hp),fun ha hb hc=>wkD.tr (cU ha hp) (cU hb hp) (cU hc hp),fun ha hb hc=>wkD.neg (cU ha hp) (cU hb hp) (cU hc hp)⟩
theorem sf{m p:Nat}(hp:p<m){l:Tab}(h:aO m l):Stb (bx m) (ltC p) l ((kix (col p l)).map fun i=>l.getD i []):=by
 have hl:(col p l).length=l.length:=List.length_map ..
 obtain⟨W,pw⟩:=kix_pw (iN h hp)
 have pm:=j5 (col p l)
 have lt:∀ {i},i∈kix (col p l)→i<l.length:=fun hi=>hl▸rQ hi
 have kl:∀ {i j},i∈kix (col p l)→j∈kix (col p l)→aI (dF (col p l) i) (dF (col p l) j)=ltC p (l.getD i []) (l.getD j []):=fun hi hj=>by rw[uC (lt hi),uC (lt hj)];rfl
 rw[hl] at pm
 refine⟨List.pairwise_map.mpr (pw.imp_of_mem fun hi hj q=>(kl hj hi).symm.trans (q.le W)),fun x gx=>?_⟩
 conv=>rhs;rw[← qA (z:=([]:List D)) l]
 rw[List.filter_map,List.filter_map]
 refine congrArg (List.map _) (List.Perm.eq_of_pairwise (le:=fun a b:Nat=>a<b) (fun a b _ _ h1 h2=>absurd h1 (Nat.lt_asymm h2)) ?_ (List.pairwise_lt_range.filter _) (pm.filter _))
 have ok:∀ {i},i∈kix (col p l)→bx m (l.getD i []):=fun hi=>h _ (cS (lt hi))
 refine List.pairwise_filter.mpr (pw.imp_of_mem fun {i j} hi hj q e1 e2=>q.elim (fun q=>?_) (·.2))
 have q:aI (dF (col p l) i) (dF (col p l) j)=true:=q
 rw[kl hi hj,(wkC hp).neg (ok hi) gx (ok hj) (pF e1).2 (pF e2).1] at q
 cases q
theorem Stb.rev{α:Type}{G:α→Prop}{lt:α→α→Bool}{l r:List α}(h:Stb G lt l.reverse r):Stb G (fun a b=>lt b a) l r.reverse where
 pw:=List.pairwise_reverse.mpr h.pw
 fl:=fun x gx=>by
  have e:eqv (fun a b=>lt b a) x=eqv lt x:=funext fun y=>Bool.and_comm _ _
  rw[e,List.filter_reverse,h.fl x gx,List.filter_reverse,List.reverse_reverse]
noncomputable def ltK(k:Nat×Bool)(a b:List D):Bool:=match k.2 with | true=>ltC k.1 b a | false=>ltC k.1 a b
theorem wkK{m:Nat}{k:Nat×Bool}(hk:k.1<m):WkG (bx m) (ltK k):=by
 have W:=wkC hk
 obtain⟨p,b⟩:=k
 cases b with
 | false=>exact W
 | true=>exact⟨W.irr,fun ha hb hc h1 h2=>W.tr hc hb ha h2 h1,fun ha hb hc h1 h2=>W.neg hc hb ha h2 h1⟩
theorem ordS_stb{m:Nat}{k:Nat×Bool}(hk:k.1<m){l:Tab}(h:aO m l):Stb (bx m) (ltK k) l (gD k l):=by
 obtain⟨p,b⟩:=k
 cases b with
 | false=>exact sf hk h
 | true=>
  have q:=(sf (l:=l.reverse) hk fun r hr=>h r (List.mem_reverse.mp hr)).rev
  have e:col p l.reverse=(col p l).reverse:=List.map_reverse
  rw[e] at q
  exact q
noncomputable def fD:List (Nat×Bool)→List D→List D→Bool
 | []=>fun _ _=>false
 | k::ks=>lE (ltK k) (fD ks)
theorem wkL{m:Nat}:∀ {ks:List (Nat×Bool)},(∀ k∈ks,k.1<m)→WkG (bx m) (fD ks)
 | [],_=>⟨fun _=>rfl,(fun _ _ _ h=>nomatch h),fun _ _ _ _ _=>rfl⟩
 | k::ks,h=>(wkK (h k (.head _))).lex (wkL fun x hx=>h x (.tail _ hx))
theorem orderV_cons(k:Nat×Bool)(ks:List (Nat×Bool))(t:Tab):fB (k::ks) t=gD k (fB ks t):=by
 unfold fB;rw[List.reverse_cons,List.foldl_append];rfl
theorem od{m:Nat}{t:Tab}(h:aO m t):∀ {ks:List (Nat×Bool)},(∀ k∈ks,k.1<m)→Stb (bx m) (fD ks) t (fB ks t)∧aO m (fB ks t)
 | [],_=>⟨⟨List.pairwise_iff_forall_sublist.mpr fun _=>rfl,fun _ _=>rfl⟩,h⟩
 | k::ks,hk=>by
  have i:=od h fun x hx=>hk x (.tail _ hx)
  have hk:=hk k (.head _)
  have ok:aO m (gD k (fB ks t)):=fun r hr=>i.2 r ((lP k _).2 r hr)
  rw[orderV_cons]
  exact⟨(ordS_stb hk i.2).lex (fun a ha=>(wkK hk).irr ha) ok i.1,ok⟩
theorem order_sel{m:Nat}{t:Tab}(h:aO m t){ks:List (Nat×Bool)}(hk:∀ k∈ks,k.1<m):qi (fD ks) [] t.length t=fB ks t:=by
 have W:=wkL (m:=m) hk
 have o:=od h hk
 have s:=sj (z:=([]:List D)) W t.length t rfl h
 exact s.1.uniq (fun a ha=>W.irr ha) o.1 (fun a ha=>h a (s.2 a ha)) o.2

set_option maxRecDepth 100000
section
variable {α:Type} {G:α→Prop} {lt:α→α→Bool}
structure Mn(lt:α→α→Bool)(l p q:List α)(m:α):Prop where
 e:l=p++m::q
 mn:∀ y∈l,lt y m=false
 fs:∀ y∈p,lt m y=true
theorem pg(W:WkG G lt){step:α→α→α}(hs:∀ f x,step f x=if lt x f=true then x else f):∀ (cs l p q:List α) (m:α),(∀ y∈l++cs,G y)→Mn lt l p q m→∃ p' q',Mn lt (l++cs) p' q' (cs.foldl step m)
 | [],l,p,q,m,_,h=>⟨p,q,(List.append_nil l).symm▸h⟩
 | c::cs,l,p,q,m,g,h=>by
  have gl:∀ y∈l,G y:=fun y hy=>g y (List.mem_append_left _ hy)
  have gc:=g c (List.mem_append_right _ (.head _))
  have gm:G m:=gl m (h.e▸List.mem_append_right _ (.head _))
  rw[List.append_cons]
  rw[List.append_cons] at g
  show ∃ p' q',Mn lt (l++[c]++cs) p' q' (cs.foldl step (step m c))
  rw[hs]
  cases e:lt c m with
  | true=>
   have up:∀ y∈l,lt c y=true:=fun y hy=>W.lt_le gc gm (gl y hy) e (h.mn y hy)
   exact pg W hs cs (l++[c]) l [] c g ⟨rfl,fun y hy=>(List.mem_append.mp hy).elim (fun hy=>W.asym gc (gl y hy) (up y hy)) fun hy=>by rw[List.mem_singleton.mp hy];exact W.irr gc,up⟩
  | false=>exact pg W hs cs (l++[c]) p (q++[c]) m g ⟨by rw[h.e,List.append_assoc];rfl,fun y hy=>(List.mem_append.mp hy).elim (h.mn y) fun hy=>List.mem_singleton.mp hy▸e,h.fs⟩
theorem qX(W:WkG G lt){step:α→α→α}(hs:∀ f x,step f x=if lt x f=true then x else f){c:α}{cs:List α}(g:∀ y∈c::cs,G y):(c::cs).find? (fun x=>!(c::cs).any fun o=>lt o x)=some ((c::cs).foldl step c):=by
 have gc:=g c (.head _)
 obtain⟨p,q,h⟩:=pg W hs cs [c] [] [] c g ⟨rfl,fun y hy=>by rw[List.mem_singleton.mp hy];exact W.irr gc,fun _ hy=>nomatch hy⟩
 have e:(c::cs).foldl step c=cs.foldl step c:=by
  show cs.foldl step (step c c)=_
  rw[hs,W.irr gc,if_neg Bool.false_ne_true]
 rw[e]
 replace h:Mn lt (c::cs) p q (cs.foldl step c):=h
 generalize cs.foldl step c=m at *
 generalize c::cs=l at *
 have hm:m∈l:=h.e▸List.mem_append_right _ (.head _)
 have h1:p.find? (fun x=>!l.any fun o=>lt o x)=none:=List.find?_eq_none.mpr fun y hy=>by
  rw[List.any_eq_true.mpr ⟨m,hm,h.fs y hy⟩];exact Bool.false_ne_true
 have h2:(!l.any fun o=>lt o m)=true:=by
  rw[show (l.any fun o=>lt o m)=false from List.any_eq_false.mpr fun y hy=>by rw[h.mn y hy];exact Bool.false_ne_true];rfl
 conv=>lhs;rw[h.e]
 rw[List.find?_append,← h.e,h1,List.find?_cons,h2];rfl
end
theorem cq{a b:D}(ha:a.isCell=true)(hb:b.isCell=true):aV a b=aI a b:=
 aP (C:=fun a=>aV a b=aI a b) ha (fun i=>aP (C:=fun b=>aV (.int i) b=aI (.int i) b) hb (fun _=>rfl) fun _=>rfl) fun x=>aP (C:=fun b=>aV (.str x) b=aI (.str x) b) hb (fun _=>rfl) fun _=>rfl
theorem wkB:WkG (fun d:D=>d.isCell=true) aV where
 irr:=fun ha=>(cq ha ha).trans (wkD.irr ha)
 tr:=fun ha hb hc=>by rw[cq ha hb,cq hb hc,cq ha hc];exact wkD.tr ha hb hc
 neg:=fun ha hb hc=>by rw[cq ha hb,cq hb hc,cq ha hc];exact wkD.neg ha hb hc
theorem WkG.flip{α:Type}{G:α→Prop}{lt:α→α→Bool}(W:WkG G lt):WkG G fun a b=>lt b a:=⟨W.irr,fun ha hb hc h1 h2=>W.tr hc hb ha h2 h1,fun ha hb hc h1 h2=>W.neg hc hb ha h2 h1⟩
noncomputable def lh(w:String)(cs:List D)(c:D):Bool:=(eqW w "least"&&!cs.any fun o=>aV o c)||(eqW w "most"&&!cs.any fun o=>aV c o)
noncomputable def gJ(w:String)(cs:List D):D:=if eqW w "count"=true then .int cs.length else if eqW w "sum"=true then .int (rK cs) else (cs.find? (lh w cs)).getD .none
theorem told_law{w:String}(hw:w∈nU){c:D}{cs:List D}(h:∀ d∈c::cs,d.isCell=true):gJ w (c::cs)=l6 w (c::cs):=by
 rcases List.mem_cons.mp hw with rfl | hw
 ·rfl
 rcases List.mem_cons.mp hw with rfl | hw
 ·rfl
 rcases List.mem_cons.mp hw with rfl | hw
 ·show ((c::cs).find? (lh "least" (c::cs))).getD .none=(c::cs).foldl (fe "least") c
  rw[show lh "least" (c::cs)=fun x=>!(c::cs).any fun o=>aV o x from funext fun x=>Bool.or_false _,qX wkB (step:=fe "least") (fun f x=>rfl) h];rfl
 rcases List.mem_singleton.mp hw with rfl
 show ((c::cs).find? (lh "most" (c::cs))).getD .none=(c::cs).foldl (fe "most") c
 rw[show lh "most" (c::cs)=fun x=>!(c::cs).any fun o=>aV x o from rfl,qX wkB.flip (step:=fe "most") (fun f x=>rfl) h];rfl
noncomputable def eU(ps:List Nat)(a b:List D):Bool:=aE (aS ps a) (aS ps b)
noncomputable def ig(ps:List Nat)(t:Tab)(k:Nat):Bool:=!(t.take k).any fun a=>eU ps a (t.getD k [])
noncomputable def bL(ps:List Nat)(t:Tab)(k:Nat):List D×Tab:=(aS ps (t.getD k []),t.filter fun a=>eU ps a (t.getD k []))
noncomputable def om(ps:List Nat)(t:Tab):Grp:=((List.range t.length).filter (ig ps t)).map (bL ps t)
theorem oA{a b:D}(ha:a.isCell=true)(h:bv a b=true):a=b:=by
 revert h
 refine aP (C:=fun a=>bv a b=true→a=b) ha (fun i=>?_) fun x=>?_
 ·cases b <;> intro h <;> first | exact congrArg D.int (eq_of_beq h) | cases h
 ·cases b <;> intro h <;> first | exact congrArg D.str (eq_of_beq h) | cases h
theorem im:∀ {a b:List D},(∀ d∈a,d.isCell=true)→aE a b=true→a=b
 | [],[],_,_=>rfl
 | x::a,y::b,h,e=>by
  have e:=Bool.and_eq_true_iff.mp (show (bv x y&&aE a b)=true from e)
  rw[oA (h x (.head _)) e.1,im (fun d hd=>h d (.tail _ hd)) e.2]
theorem mj{a b:List D}(ha:∀ d∈a,d.isCell=true)(hb:∀ d∈b,d.isCell=true):aE a b=aE b a:=by
 cases e:aE a b with
 | true=>have:=im ha e;subst this;exact e.symm
 | false=>cases e2:aE b a with
  | false=>rfl
  | true=>have:=im hb e2;subst this;rw[e2] at e;cases e
noncomputable def pC(k r:List D)(q:List D×Tab):List D×Tab:=if aE q.1 k=true then (q.1,q.2++[r]) else q
theorem kQ{k r:List D}:∀ {G:Grp},(∀ q∈G,aE q.1 k=false)→cY k r G=G++[(k,[r])]∧G.map (pC k r)=G
 | [],_=>⟨rfl,rfl⟩
 | q::G,h=>by
  have i:=kQ (r:=r) fun x hx=>h x (.tail _ hx)
  have e:=h q (.head _)
  unfold cY
  rw[List.map_cons,i.2,i.1]
  unfold pC
  rw[e,if_neg Bool.false_ne_true];exact⟨rfl,rfl⟩
theorem ou{k r:List D}(hk:∀ d∈k,d.isCell=true):∀ {G:Grp},(∀ q∈G,∀ d∈q.1,d.isCell=true)→(G.map (·.1)).Pairwise (fun a b=>aE a b=false)→(∃ q∈G,aE q.1 k=true)→cY k r G=G.map (pC k r)
 | [],_,_,h=>h.elim fun _ h=>nomatch h.1
 | q::G,hc,pw,h=>by
  have pw:=List.pairwise_cons.mp pw
  rw[List.map_cons]
  unfold cY
  cases e:aE q.1 k with
  | true=>
   rw[if_pos rfl,(kQ (k:=k) (r:=r) (G:=G) fun x hx=>by have:aE q.1 x.1=false:=pw.1 x.1 (List.mem_map.mpr ⟨x,hx,rfl⟩);rw[im (hc q (.head _)) e,mj hk (hc x (.tail _ hx))] at this;exact this).2]
   unfold pC;rw[if_pos e]
  | false=>
   rw[if_neg Bool.false_ne_true,ou hk (fun x hx=>hc x (.tail _ hx)) pw.2 (h.elim fun x hx=>⟨x,(List.mem_cons.mp hx.1).elim (fun z=>by rw[z,e] at hx;cases hx.2) id,hx.2⟩)]
   unfold pC;rw[e];rfl
theorem uB{ps:List Nat}:∀ (l:Tab) (G:Grp),(∀ q∈G,∃ q'∈l.foldl (fun G r=>cY (aS ps r) r G) G,q'.1=q.1)∧∀ a∈l,(∀ d∈aS ps a,d.isCell=true)→∃ q∈l.foldl (fun G r=>cY (aS ps r) r G) G,aE q.1 (aS ps a)=true
 | [],G=>⟨fun q hq=>⟨q,hq,rfl⟩,fun _ h=>nomatch h⟩
 | r::l,G=>by
  have i:=uB (ps:=ps) l (cY (aS ps r) r G)
  have st:∀ {G:Grp} {k:List D},(∀ q∈G,∃ q'∈cY k r G,q'.1=q.1)∧((∀ d∈k,d.isCell=true)→∃ q∈cY k r G,aE q.1 k=true):=by
   intro G k
   induction G with
   | nil=>exact⟨(fun _ h=>nomatch h),fun hk=>⟨_,.head _,eM hk⟩⟩
   | cons p G ih=>
    unfold cY
    cases e:aE p.1 k with
    | true=>exact⟨fun q hq=>(List.mem_cons.mp hq).elim (fun z=>⟨_,.head _,z▸rfl⟩) fun hq=>⟨q,.tail _ hq,rfl⟩,fun _=>⟨_,.head _,e⟩⟩
    | false=>exact⟨fun q hq=>(List.mem_cons.mp hq).elim (fun z=>⟨p,.head _,z▸rfl⟩) fun hq=>(ih.1 q hq).elim fun x hx=>⟨x,.tail _ hx.1,hx.2⟩,fun hk=>(ih.2 hk).elim fun x hx=>⟨x,.tail _ hx.1,hx.2⟩⟩
  refine⟨fun q hq=>(st.1 q hq).elim fun x hx=>(i.1 x hx.1).elim fun y hy=>⟨y,hy.1,hy.2.trans hx.2⟩,fun a ha hc=>(List.mem_cons.mp ha).elim (fun z=>?_) fun ha=>i.2 a ha hc⟩
  subst z
  exact (st.2 hc).elim fun x hx=>(i.1 x hx.1).elim fun y hy=>⟨y,hy.1,by rw[hy.2];exact hx.2⟩
theorem mT{m:Nat}{ps:List Nat}(hp:∀ p∈ps,p<m):∀ (n:Nat) (t:Tab),t.length=n→aO m t→cJ ps t=om ps t
 | 0,t,hn,_=>by rw[List.length_eq_zero_iff.mp hn];rfl
 | n+1,t,hn,h=>by
  obtain⟨l,r,rfl⟩:∃ l r,t=l++[r]:=⟨t.dropLast,t.getLast (List.ne_nil_of_length_eq_add_one hn),(List.dropLast_concat_getLast _).symm⟩
  have hl:l.length=n:=by rw[List.length_append] at hn;exact Nat.succ.inj hn
  have okl:aO m l:=fun x hx=>h x (List.mem_append_left _ hx)
  have okr:bx m r:=h r (List.mem_append_right _ (.head _))
  have ck:∀ {x},bx m x→∀ d∈aS ps x,d.isCell=true:=fun hx=>(e9 hx hp).2
  have ih:=mT hp n l hl okl
  have g:=kP hp okl
  have e1:cJ ps (l++[r])=cY (aS ps r) r (cJ ps l):=by unfold cJ;rw[List.foldl_append];rfl
  have ge:∀ k,k<n→(l++[r]).getD k []=l.getD k []:=fun k hk=>getD_left (hl▸hk)
  have gn:(l++[r]).getD n []=r:=by rw[List.getD_eq_getElem?_getD,List.getElem?_append_right (Nat.le_of_eq hl),hl,Nat.sub_self];rfl
  have ok:∀ k,k<n→bx m (l.getD k []):=fun k hk=>okl _ (cS (hl▸hk))
  have f1:(List.range n).filter (ig ps (l++[r]))=(List.range n).filter (ig ps l):=List.filter_congr fun k hk=>by
   have hk:=List.mem_range.mp hk
   unfold ig
   rw[ge k hk,List.take_append_of_le_length (Nat.le_of_lt (hl▸hk))]
  have m1:((List.range n).filter (ig ps l)).map (bL ps (l++[r]))=(om ps l).map (pC (aS ps r) r):=by
   unfold om
   rw[List.map_map,hl]
   refine List.map_congr_left fun k hk=>?_
   have hk:=List.mem_range.mp (List.mem_filter.mp hk).1
   show bL ps (l++[r]) k=pC (aS ps r) r (bL ps l k)
   unfold pC bL
   rw[ge k hk,List.filter_append]
   have e:eU ps r (l.getD k [])=aE (aS ps (l.getD k [])) (aS ps r):=mj (ck okr) (ck (ok k hk))
   cases c:aE (aS ps (l.getD k [])) (aS ps r) with
   | true=>rw[List.filter_cons_of_pos (p:=fun a=>eU ps a (l.getD k [])) (e.trans c)];rfl
   | false=>rw[List.filter_cons_of_neg (p:=fun a=>eU ps a (l.getD k [])) (by rw[e,c];exact Bool.false_ne_true),List.filter_nil,List.append_nil];rfl
  have nx:ig ps (l++[r]) n=!l.any fun a=>eU ps a r:=by
   unfold ig
   rw[gn,← hl,List.take_left]
  have e2:om ps (l++[r])=(cJ ps l).map (pC (aS ps r) r)++if ig ps (l++[r]) n=true then [bL ps (l++[r]) n] else []:=by
   rw[ih,← m1,← f1]
   unfold om
   rw[hn,List.range_succ,List.filter_append,List.map_append]
   refine congrArg (_++·) ?_
   cases c:ig ps (l++[r]) n with
   | true=>rw[List.filter_cons_of_pos c];rfl
   | false=>rw[List.filter_cons_of_neg (by rw[c];exact Bool.false_ne_true)];rfl
  rw[e1,e2,nx]
  cases c:l.any fun a=>eU ps a r with
  | true=>
   obtain⟨a,ha,hr⟩:=List.any_eq_true.mp c
   obtain⟨q,hq,e⟩:=(uB l []).2 a ha (ck (okl a ha))
   have e':=im (g.ke q hq).2 e
   rw[ou (ck okr) (fun q hq=>(g.ke q hq).2) g.pw ⟨q,hq,by rw[e'];exact hr⟩]
   exact (List.append_nil _).symm
  | false=>
   have no:∀ a∈l,eU ps a r=false:=fun a ha=>Bool.eq_false_iff.mpr fun z=>by have:=List.any_eq_false.mp c a ha;exact this z
   have hnone:∀ q∈cJ ps l,aE q.1 (aS ps r)=false:=fun q hq=>by
    rw[ih] at hq
    obtain⟨k,hk,rfl⟩:=List.mem_map.mp hq
    exact no _ (cS (List.mem_range.mp (List.mem_filter.mp hk).1))
   have i:=kQ (r:=r) hnone
   rw[i.1,i.2]
   refine congrArg (_++·) ?_
   show[(aS ps r,[r])]=[bL ps (l++[r]) n]
   unfold bL
   rw[gn,List.filter_append,show l.filter (fun a=>eU ps a r)=[] from List.filter_eq_nil_iff.mpr fun a ha=>by rw[no a ha];exact Bool.false_ne_true,List.filter_cons_of_pos (p:=fun a=>eU ps a r) (show eU ps r r=true from eM (ck okr))];rfl

set_option maxRecDepth 100000
set_option maxHeartbeats 400000
noncomputable def iF:Fn:=⟨["_law_cell"],[
  .ite (.cmp .Eq (.bin .Mod (.bin .FloorDiv (.var "_law_cell") (.int 4)) (.int 9)) (.int 1)) [.ret (.bin .Mod (.bin .FloorDiv (.var "_law_cell") (.int 36)) (.int 13))] [],
  .ret (.bin .Mod (.var "_law_cell") (.int 4))]⟩
noncomputable def fY:Fn:=⟨["_law_cell","_law_wide"],[
  .ite (.cmp .Eq (.var "_law_wide") (.int 0)) [.ret (.tup [])] [],
  .ret (.blt "tuple" [.comp (.bin .Mod (.call "_law_mixed" [.var "_law_cell",.bin .Add (.int 60) (.var "_law_k")]) (.var "_law_wide")) "_law_k" (.blt "range" [.call "_law_many" [.var "_law_cell"]]) []])]⟩
noncomputable def iA:Fn:=⟨["_law_cell","_law_wide"],[
  .assign "_law_words" (.lst [.str "count",.str "sum",.str "least",.str "most"]),
  .assign "_law_places" (.call "_law_places_by" [.bin .FloorDiv (.var "_law_cell") (.int 5),.var "_law_wide"]),
  .ret (.blt "tuple" [.comp (.tup [.sub (.var "_law_words") (.bin .Mod (.call "_law_mixed" [.var "_law_cell",.bin .Add (.int 80) (.var "_law_k")]) (.int 4)),.sub (.var "_law_places") (.var "_law_k")]) "_law_k" (.blt "range" [.blt "len" [.var "_law_places"]]) []])]⟩
noncomputable def iH:Fn:=⟨["_law_cell","_law_wide"],[
  .assign "_law_places" (.call "_law_places_by" [.var "_law_cell",.var "_law_wide"]),
  .ret (.blt "tuple" [.comp (.tup [.sub (.var "_law_places") (.var "_law_k"),.cmp .Eq (.bin .Mod (.call "_law_mixed" [.var "_law_cell",.bin .Add (.int 90) (.var "_law_k")]) (.int 2)) (.int 1)]) "_law_k" (.blt "range" [.blt "len" [.var "_law_places"]]) []])]⟩
noncomputable def cK:Fn:=⟨["_law_cell","_law_many_here"],[
  .assign "_law_count" (.sub (.lst [.int 0,.int 1,.int 1,.int 2]) (.bin .Mod (.var "_law_cell") (.int 4))),
  .ite (.cmp .Eq (.bin .Mod (.bin .FloorDiv (.var "_law_cell") (.int 4)) (.int 9)) (.int 1)) [.assign "_law_count" (.bin .Mod (.bin .FloorDiv (.var "_law_cell") (.int 36)) (.int 13))] [],
  .ret (.blt "tuple" [.comp (.call "_law_clause_by" [.call "_law_mixed" [.var "_law_cell",.bin .Add (.int 20) (.var "_law_k")],.var "_law_many_here"]) "_law_k" (.blt "range" [.var "_law_count"]) []])]⟩
noncomputable def hM:Fn:=⟨["_law_cell","_law_one","_law_other"],[
  .ite (.bop .Or [.cmp .Eq (.var "_law_one") (.int 0),.cmp .Eq (.var "_law_other") (.int 0)]) [.ret (.tup [])] [],
  .assign "_law_many_here" (.sub (.lst [.int 0,.int 0,.int 0,.int 0,.int 1,.bin .Mod (.bin .FloorDiv (.var "_law_cell") (.int 6)) (.int 13)]) (.bin .Mod (.var "_law_cell") (.int 6))),
  .ret (.blt "tuple" [.comp (.tup [.bin .Mod (.call "_law_mixed" [.var "_law_cell",.bin .Add (.int 70) (.var "_law_k")]) (.var "_law_one"),.bin .Mod (.call "_law_mixed" [.var "_law_cell",.bin .Add (.int 75) (.var "_law_k")]) (.var "_law_other")]) "_law_k" (.blt "range" [.var "_law_many_here"]) []])]⟩
noncomputable def ej:Fn:=⟨["_law_word","_law_cell","_law_top"],[
  .ite (.cmp .Lt (.var "_law_word") (.int 3)) [.ret (.tup [.tup [.str "sieve",.call "_law_clauses_by" [.var "_law_cell",.sub (.var "_law_top") (.int 1)],.sub (.var "_law_top") (.int 0)],.sub (.var "_law_top") (.int 1),.sub (.var "_law_top") (.int 2),.sub (.var "_law_top") (.int 3)])] [],
  .ite (.cmp .Eq (.var "_law_word") (.int 4)) [.assign "_law_places" (.call "_law_places_by" [.var "_law_cell",.sub (.var "_law_top") (.int 1)]),.ret (.tup [.tup [.str "pick",.var "_law_places",.sub (.var "_law_top") (.int 0)],.blt "len" [.var "_law_places"],.sub (.var "_law_top") (.int 2),.sub (.var "_law_top") (.int 3)])] [],
  .ite (.bop .Or [.cmp .Eq (.var "_law_word") (.int 3),.cmp .Eq (.var "_law_word") (.int 5)]) [.assign "_law_places" (.call "_law_places_by" [.var "_law_cell",.sub (.var "_law_top") (.int 1)]),.assign "_law_sums" (.call "_law_sums_by" [.var "_law_cell",.sub (.var "_law_top") (.int 1)]),.ret (.tup [.tup [.str "group",.var "_law_places",.var "_law_sums",.sub (.var "_law_top") (.int 0)],.bin .Add (.blt "len" [.var "_law_places"]) (.blt "len" [.var "_law_sums"]),.sub (.var "_law_top") (.int 2),.sub (.var "_law_top") (.int 3)])] [],
  .ite (.cmp .Eq (.var "_law_word") (.int 6)) [.ret (.tup [.tup [.str "order",.call "_law_keys_by" [.var "_law_cell",.sub (.var "_law_top") (.int 1)],.sub (.var "_law_top") (.int 0)],.sub (.var "_law_top") (.int 1),.sub (.var "_law_top") (.int 2),.sub (.var "_law_top") (.int 3)])] [],
  .ite (.cmp .Eq (.var "_law_word") (.int 7)) [.ret (.tup [.tup [.str "once",.sub (.var "_law_top") (.int 0)],.sub (.var "_law_top") (.int 1),.sub (.var "_law_top") (.int 2),.sub (.var "_law_top") (.int 3)])] [],
  .assign "_law_count" (.bin .Add (.int 1) (.bin .Mod (.var "_law_cell") (.int 6))),
  .ite (.cmp .Eq (.bin .Mod (.bin .FloorDiv (.var "_law_cell") (.int 6)) (.int 4)) (.int 1)) [.assign "_law_count" (.bin .Mod (.bin .FloorDiv (.var "_law_cell") (.int 24)) (.int 70))] [],
  .ite (.cmp .Eq (.bin .Mod (.bin .FloorDiv (.var "_law_cell") (.int 6)) (.int 9)) (.int 2)) [.assign "_law_count" (.bin .Mod (.bin .FloorDiv (.var "_law_cell") (.int 54)) (.bin .Pow (.int 10) (.int 40)))] [],
  .ret (.tup [.tup [.str "first",.var "_law_count",.sub (.var "_law_top") (.int 0)],.sub (.var "_law_top") (.int 1),.blt "min" [.sub (.var "_law_top") (.int 2),.var "_law_count"],.sub (.var "_law_top") (.int 3)])]⟩
noncomputable def ef:Fn:=⟨["_law_word","_law_cell","_law_one","_law_two"],[
  .ite (.bop .Or [.cmp .Gt (.bin .Add (.sub (.var "_law_one") (.int 3)) (.sub (.var "_law_two") (.int 3))) (.int 24),.bop .And [.cmp .Eq (.var "_law_word") (.str "join"),.cmp .Gt (.bin .Add (.sub (.var "_law_one") (.int 1)) (.sub (.var "_law_two") (.int 1))) (.int 14)]]) [.ret (.lst [])] [],
  .ite (.cmp .Eq (.var "_law_word") (.str "join")) [.ite (.cmp .Gt (.bin .Mult (.sub (.var "_law_one") (.int 2)) (.sub (.var "_law_two") (.int 2))) (.int 36)) [.assign "_law_one" (.call "_law_around" [.int 8,.int 5,.var "_law_one"]),.assign "_law_two" (.call "_law_around" [.int 8,.int 5,.var "_law_two"])] [],.assign "_law_query" (.tup [.str "join",.sub (.var "_law_one") (.int 0),.sub (.var "_law_two") (.int 0),.call "_law_pairs_by" [.var "_law_cell",.sub (.var "_law_one") (.int 1),.sub (.var "_law_two") (.int 1)]]),.ret (.lst [.tup [.var "_law_query",.bin .Add (.sub (.var "_law_one") (.int 1)) (.sub (.var "_law_two") (.int 1)),.bin .Mult (.sub (.var "_law_one") (.int 2)) (.sub (.var "_law_two") (.int 2)),.bin .Add (.sub (.var "_law_one") (.int 3)) (.sub (.var "_law_two") (.int 3))]])] [],
  .ite (.bop .And [.cmp .Eq (.var "_law_word") (.str "both"),.cmp .Eq (.sub (.var "_law_one") (.int 1)) (.sub (.var "_law_two") (.int 1)),.cmp .LtE (.bin .Add (.sub (.var "_law_one") (.int 2)) (.sub (.var "_law_two") (.int 2))) (.int 36)]) [.ret (.lst [.tup [.tup [.str "both",.sub (.var "_law_one") (.int 0),.sub (.var "_law_two") (.int 0)],.sub (.var "_law_one") (.int 1),.bin .Add (.sub (.var "_law_one") (.int 2)) (.sub (.var "_law_two") (.int 2)),.bin .Add (.sub (.var "_law_one") (.int 3)) (.sub (.var "_law_two") (.int 3))]])] [],
  .ret (.lst [])]⟩
noncomputable def eE:Fn:=⟨["_law_top","_law_cell"],[
  .ite (.bop .And [.cmp .Eq (.bin .Mod (.bin .FloorDiv (.var "_law_cell") (.int 4)) (.int 2)) (.int 1),.cmp .Gt (.sub (.var "_law_top") (.int 1)) (.int 0)]) [.assign "_law_word" (.sub (.lst [.str "from",.str "upto",.str "unlike"]) (.bin .Mod (.bin .FloorDiv (.var "_law_cell") (.int 12)) (.int 3))),.assign "_law_test" (.tup [.var "_law_word",.bin .Mod (.call "_law_mixed" [.var "_law_cell",.int 8]) (.sub (.var "_law_top") (.int 1)),.str "is",.bin .Mod (.bin .FloorDiv (.var "_law_cell") (.int 36)) (.int 3)]),.ret (.tup [.tup [.str "sieve",.tup [.tup [.var "_law_test"]],.sub (.var "_law_top") (.int 0)],.sub (.var "_law_top") (.int 1),.sub (.var "_law_top") (.int 2),.sub (.var "_law_top") (.int 3)])] [],
  .ret (.call "_law_around" [.int 0,.bin .Add (.bin .Mult (.bin .FloorDiv (.call "_law_mixed" [.var "_law_cell",.int 6]) (.int 4)) (.int 4)) (.int 1),.var "_law_top"])]⟩
structure BN(P:List (String×Fn)):Prop extends BD P where
 mn:P.lookup "_law_many"=some iF
 pb:P.lookup "_law_places_by"=some fY
 sb:P.lookup "_law_sums_by"=some iA
 kb:P.lookup "_law_keys_by"=some iH
 cb:P.lookup "_law_clauses_by"=some cK
 rb:P.lookup "_law_pairs_by"=some hM
 ar:P.lookup "_law_around"=some ej
 o2:P.lookup "_law_of_two"=some ef
 so:P.lookup "_law_sieve_on"=some eE
theorem kK{α:Type}{g:α→D}{R:α→Prop}:∀ {ds:List D},(∀ d∈ds,∃ x,R x∧d=g x)→∃ xs:List α,ds=xs.map g∧∀ x∈xs,R x
 | [],_=>⟨[],rfl,fun _ h=>nomatch h⟩
 | d::ds,h=>by
  obtain⟨x,h1,rfl⟩:=h d (.head _)
  obtain⟨xs,rfl,h2⟩:=kK fun d hd=>h d (.tail _ hd)
  exact⟨x::xs,rfl,fun y hy=>(List.mem_cons.mp hy).elim (fun e=>e▸h1) (h2 y)⟩
section
variable {P:List (String×Fn)} {X:CF}
theorem many_eq(B:BN P)(n:Nat)(c:Int):∃ m:Nat,m≤12∧(al P X (n+1)).call "_law_many" [.int c]=some (.int m,false):=by
 obtain⟨m1,e1,h1⟩:=bM (c / 36) (k:=13) (by decide)
 obtain⟨m2,e2,h2⟩:=bM c (k:=4) (by decide)
 have e1:c / 36 % 13=(m1:Int):=e1
 have e2:c % 4=(m2:Int):=e2
 have key:Rex (al P X n) iF.body [("_law_cell",(false,.int c))] fun d fr=>(∃ m:Nat,m≤12∧d=.int m)∧fr=false:=by
  refine cV (k:=c / 4 % 9 == 1) (aD (ao (ao (ae (aa af)) (ag _ _ _) (a7 (by decide))) (ag _ _ _) (aJ (by decide))) (ag _ _ _) rfl) rfl (fun _=>?_) fun _=>?_
  ·exact b0 (aw (ao (ao (ae (aa af)) (ag _ _ _) (a7 (by decide))) (ag _ _ _) (aJ (by decide))) rfl rfl) rfl ⟨⟨m1,by omega,by rw[← e1]⟩,rfl⟩
  ·exact b0 (aw (ao (ae (aa af)) (ag _ _ _) (aJ (by decide))) rfl rfl) rfl ⟨⟨m2,by omega,by rw[← e2]⟩,rfl⟩
 obtain⟨d,fr,⟨⟨m,hm,rfl⟩,rfl⟩,hr⟩:=cP (X:=X) (args:=[.int c]) B.mn rfl key
 exact⟨m,hm,hr⟩
theorem kE(B:BN P)(n:Nat)(c:Int)(w:Nat):∃ ps:List Nat,(∀ p∈ps,p<w)∧ps.length≤12∧(al P X (n+2)).call "_law_places_by" [.int c,.int w]=some (.tup (ps.map br),false):=by
 by_cases hw:w=0
 ·subst hw
  exact⟨[],(fun _ h=>nomatch h),Nat.zero_le _,az B.pb rfl (cH (k:=true) (x:=.bool true) rfl rfl (fun _=>aK rfl rfl) nofun)⟩
 ·obtain⟨m,hm,k1⟩:=many_eq (X:=X) B n c
  have h0:0<w:=by omega
  have hpos:(0:Int)<(w:Int):=by omega
  obtain⟨ds,q1,q2,q3⟩:=jp (cf:=al P X (n+1)) (ρ:=vis [("_law_cell",(false,.int c)),("_law_wide",(false,.int w))]) (elt:=.bin .Mod (.call "_law_mixed" [.var "_law_cell",.bin .Add (.int 60) (.var "_law_k")]) (.var "_law_wide")) (z:="_law_k") (src:=.call "_law_many" [.var "_law_cell"]) (k:=m) (by omega) (fun d=>∃ p:Nat,p<w∧d=br p) (ax (ad (ae (aa af)) (aj _ _)) k1) (by
   intro i _
   obtain⟨r,_,hr⟩:=mixed (X:=X) B.toBG n c (60+i)
   obtain⟨p,ep,hp⟩:=bM r h0
   exact⟨br p,⟨p,hp,rfl⟩,by show _=some (D.int p);rw[← ep];exact ao (ax (ad (ae (aX rfl (aa af))) (ad (ao (ag _ _ _) (ae bw) cw) (aj _ _))) hr) (ae (aX rfl (aa (ai rfl af)))) (aJ hpos)⟩)
  obtain⟨ps,rfl,hps⟩:=kK q2
  have e:eG .Eq (.int w) (.int 0)=some (.bool false):=by
   show some (D.bool ((w:Int) == 0))=_
   rw[show ((w:Int) == 0)=false from by rw[beq_eq_false_iff_ne];omega]
  refine⟨ps,hps,by rw[List.length_map] at q1;omega,az B.pb rfl ?_⟩
  exact cH (k:=false) (aD (x:=.int w) (y:=.int 0) rfl rfl e) rfl nofun fun _=>aK (aw q3 rfl rfl) rfl
theorem sums_by(B:BN P)(n:Nat)(c:Int)(w:Nat):∃ ss:List (String×Nat),(∀ x∈ss,x.2<w∧x.1∈nU)∧ss.length≤12∧(al P X (n+3)).call "_law_sums_by" [.int c,.int w]=some (.tup (ss.map dJ),false):=by
 obtain⟨ps,hps,hpl,k1⟩:=kE (X:=X) B n (c / 5) w
 have hbig:2000<big:=by decide
 have hlen:gt "len" [.tup (ps.map br)]=some (.int ps.length):=by show some (D.int ((ps.map br).length:Nat))=_;rw[List.length_map]
 obtain⟨ds,q1,q2,q3⟩:=jp (cf:=al P X (n+2)) (ρ:=vis [("_law_cell",(false,.int c)),("_law_wide",(false,.int w)),("_law_words",(true,.list [sD "count",sD "sum",sD "least",sD "most"])),("_law_places",(false,.tup (ps.map br)))])
  (elt:=.tup [.sub (.var "_law_words") (.bin .Mod (.call "_law_mixed" [.var "_law_cell",.bin .Add (.int 80) (.var "_law_k")]) (.int 4)),.sub (.var "_law_places") (.var "_law_k")]) (z:="_law_k") (src:=.blt "len" [.var "_law_places"]) (k:=ps.length) (by omega) (fun d=>∃ x:String×Nat,(x.2<w∧x.1∈nU)∧d=dJ x) (bS (ad (ae (aa (ai rfl (ai rfl (ai rfl af))))) (aj _ _)) hlen) (by
   intro i hi
   obtain⟨r,_,hr⟩:=mixed (X:=X) B.toBG (n+1) c (80+i)
   obtain⟨d,⟨s,rfl,hs⟩,hd⟩:=cE (l:=[sD "count",sD "sum",sD "least",sD "most"]) (by decide) r (R:=fun d=>∃ s,d=sD s∧s∈nU) (by
    intro d hd
    simp only[List.mem_cons,List.not_mem_nil,or_false] at hd
    rcases hd with rfl | rfl | rfl | rfl <;> exact⟨_,rfl,by decide⟩)
   have hd:a9 (.list [sD "count",sD "sum",sD "least",sD "most"]) (.int (r % 4))=some (sD s):=hd
   have h2:=ps_at hi
   exact⟨dJ (s,ps.getD i 0),⟨(s,ps.getD i 0),⟨by show ps.getD i 0<w;rw[List.getD_eq_getElem?_getD,List.getElem?_eq_getElem hi];exact hps _ (List.getElem_mem hi),hs⟩,rfl⟩,bN (ad (au (ae (aX rfl (aa (ai rfl (ai rfl af))))) (ao (ax (ad (ae (aX rfl (aa af))) (ad (ao (ag _ _ _) (ae bw) cw) (aj _ _))) hr) (ag _ _ _) (aJ (of_decide_eq_true (id (Eq.refl true))))) hd) (ad (au (ae (aX rfl (aa (ai rfl (ai rfl (ai rfl af)))))) (ae bw) h2) (aj _ _))) (Nat.le_of_ble_eq_true rfl)⟩)
 obtain⟨ss,rfl,hss⟩:=kK q2
 refine⟨ss,hss,by rw[List.length_map] at q1;omega,az B.sb rfl ?_⟩
 refine aL (av (d:=.list [sD "count",sD "sum",sD "least",sD "most"]) (fr:=true) rfl) ?_
 refine aL (av (aM (ad (d:=.int (c / 5)) rfl (ad (d:=.int w) rfl (aj _ _))) k1)) ?_
 exact aK (aw q3 rfl rfl) rfl
theorem keys_by(B:BN P)(n:Nat)(c:Int)(w:Nat):∃ ks:List (Nat×Bool),(∀ x∈ks,x.1<w)∧ks.length≤12∧(al P X (n+3)).call "_law_keys_by" [.int c,.int w]=some (.tup (ks.map d4),false):=by
 obtain⟨ps,hps,hpl,k1⟩:=kE (X:=X) B n c w
 have hlen:gt "len" [.tup (ps.map br)]=some (.int ps.length):=by show some (D.int ((ps.map br).length:Nat))=_;rw[List.length_map]
 obtain⟨ds,q1,q2,q3⟩:=jp (cf:=al P X (n+2)) (ρ:=vis [("_law_cell",(false,.int c)),("_law_wide",(false,.int w)),("_law_places",(false,.tup (ps.map br)))])
  (elt:=.tup [.sub (.var "_law_places") (.var "_law_k"),.cmp .Eq (.bin .Mod (.call "_law_mixed" [.var "_law_cell",.bin .Add (.int 90) (.var "_law_k")]) (.int 2)) (.int 1)]) (z:="_law_k") (src:=.blt "len" [.var "_law_places"]) (k:=ps.length) (by omega) (fun d=>∃ x:Nat×Bool,x.1<w∧d=d4 x) (bS (ad (ae (aa (ai rfl (ai rfl af)))) (aj _ _)) hlen) (by
   intro i hi
   obtain⟨r,_,hr⟩:=mixed (X:=X) B.toBG (n+1) c (90+i)
   have h2:=ps_at hi
   exact⟨d4 (ps.getD i 0,r % 2 == 1),⟨(ps.getD i 0,r % 2 == 1),by show ps.getD i 0<w;rw[List.getD_eq_getElem?_getD,List.getElem?_eq_getElem hi];exact hps _ (List.getElem_mem hi),rfl⟩,bN (ad (au (ae (aX rfl (aa (ai rfl (ai rfl af))))) (ae bw) h2) (ad (aD (ao (ax (ad (ae (aX rfl (aa af))) (ad (ao (ag _ _ _) (ae bw) cw) (aj _ _))) hr) (ag _ _ _) (aJ (of_decide_eq_true (id (Eq.refl true))))) (ag _ _ _) rfl) (aj _ _))) (Nat.le_of_ble_eq_true rfl)⟩)
 obtain⟨ss,rfl,hss⟩:=kK q2
 refine⟨ss,hss,by rw[List.length_map] at q1;omega,az B.kb rfl ?_⟩
 refine aL (av (aM (ad (d:=.int c) rfl (ad (d:=.int w) rfl (aj _ _))) k1)) ?_
 exact aK (aw q3 rfl rfl) rfl
theorem clauses_by(B:BN P)(n:Nat)(c:Int)(m:Nat)(hm:m≤1000):∃ cs:List (List D),(∀ x∈cs,lC m x)∧cs.length≤12∧(al P X (n+5)).call "_law_clauses_by" [.int c,.int m]=some (.tup (cs.map clD),false):=by
 have tail:∀ k:Nat,k≤12→Rex (al P X (n+4)) (cK.body.drop 2) [("_law_cell",(false,.int c)),("_law_many_here",(false,.int m)),("_law_count",(false,.int k))] fun d fr=>(∃ cs:List (List D),(∀ x∈cs,lC m x)∧cs.length≤12∧d=.tup (cs.map clD))∧fr=false:=by
  intro k hk
  obtain⟨ds,q1,q2,q3⟩:=jp (cf:=al P X (n+4)) (ρ:=vis [("_law_cell",(false,.int c)),("_law_many_here",(false,.int m)),("_law_count",(false,.int k))]) (elt:=.call "_law_clause_by" [.call "_law_mixed" [.var "_law_cell",.bin .Add (.int 20) (.var "_law_k")],.var "_law_many_here"]) (z:="_law_k") (src:=.var "_law_count") (k:=k) (by omega) (fun d=>∃ x:List D,lC m x∧d=clD x) rfl (by
   intro i _
   obtain⟨r,_,hr⟩:=mixed (X:=X) B.toBG (n+3) c (20+i)
   obtain⟨d,⟨ts,rfl,h1,h2⟩,hd⟩:=clause_by (X:=X) B.toBD n r m hm
   exact⟨.tup ts,⟨ts,⟨h1,h2⟩,rfl⟩,(ax (ad (ax (ad (ae (aX rfl (aa af))) (ad (ao (ag _ _ _) (ae bw) cw) (aj _ _))) hr) (ad (ae (aX rfl (aa (ai rfl af)))) (aj _ _))) hd)⟩)
  obtain⟨cs,rfl,hcs⟩:=kK q2
  exact b0 (aw q3 rfl rfl) rfl ⟨⟨cs,hcs,by rw[List.length_map] at q1;omega,rfl⟩,rfl⟩
 obtain⟨d0,⟨k1,rfl,h1⟩,s0⟩:=cE (l:=[.int 0,.int 1,.int 1,.int 2]) (by decide) c (R:=fun d=>∃ k:Nat,d=.int k∧k≤12) (by
  intro d hd
  simp only[List.mem_cons,List.not_mem_nil,or_false] at hd
  rcases hd with rfl | rfl | rfl | rfl <;> first | exact⟨0,rfl,by decide⟩ | exact⟨1,rfl,by decide⟩ | exact⟨2,rfl,by decide⟩)
 have s0:a9 (.list [.int 0,.int 1,.int 1,.int 2]) (.int (c % 4))=some (.int k1):=s0
 obtain⟨k2,e2,h2⟩:=bM (c / 36) (k:=13) (by decide)
 have e2:c / 36 % 13=(k2:Int):=e2
 have key:Rex (al P X (n+4)) cK.body [("_law_cell",(false,.int c)),("_law_many_here",(false,.int m))] fun d fr=>(∃ cs:List (List D),(∀ x∈cs,lC m x)∧cs.length≤12∧d=.tup (cs.map clD))∧fr=false:=by
  refine aY (av (d:=.int k1) (fr:=false) (aw (au (cI (ad (ag _ _ _) (ad (ag _ _ _) (ad (ag _ _ _) (ad (ag _ _ _) (aj _ _))))) (of_decide_eq_true (id (Eq.refl true)))) (ao (ae (aa af)) (ag _ _ _) (aJ (of_decide_eq_true (id (Eq.refl true))))) s0) rfl rfl)) ?_
  refine cV (k:=c / 4 % 9 == 1) (aD (ao (ao (ae (aa (ak rfl (ay af)))) (ag _ _ _) (a7 (of_decide_eq_true (id (Eq.refl true))))) (ag _ _ _) (aJ (of_decide_eq_true (id (Eq.refl true))))) (ag _ _ _) rfl) rfl (fun _=>?_) fun _=>tail k1 h1
  refine aY (av (d:=.int k2) (fr:=false) (by rw[← e2];exact aw (ao (ao (ae (aa (ak rfl (ay af)))) (ag _ _ _) (a7 (of_decide_eq_true (id (Eq.refl true))))) (ag _ _ _) (aJ (of_decide_eq_true (id (Eq.refl true))))) rfl rfl)) (tail k2 (by omega))
 obtain⟨d,fr,⟨⟨cs,g1,g2,rfl⟩,rfl⟩,hr⟩:=cP (X:=X) (args:=[.int c,.int m]) B.cb rfl key
 exact⟨cs,g1,g2,hr⟩
theorem pairs_by(B:BN P)(n:Nat)(c:Int)(a b:Nat):∃ prs:List (Nat×Nat),(∀ k∈prs,k.1<a∧k.2<b)∧prs.length≤12∧(al P X (n+2)).call "_law_pairs_by" [.int c,.int a,.int b]=some (.tup (prs.map prT),false):=by
 by_cases h0:a=0∨b=0
 ·refine⟨[],(fun _ h=>nomatch h),Nat.zero_le _,az B.rb rfl ?_⟩
  have hz:evE (al P X (n+1)) (vis [("_law_cell",(false,.int c)),("_law_one",(false,.int a)),("_law_other",(false,.int b))]) (.bop .Or [.cmp .Eq (.var "_law_one") (.int 0),.cmp .Eq (.var "_law_other") (.int 0)])=some (.bool ((a:Int) == 0||(b:Int) == 0)):=hZ (k:=(a:Int) == 0) (l:=(b:Int) == 0) (aD (x:=.int a) (y:=.int 0) rfl rfl rfl) fun _=>bA (aD (x:=.int b) (y:=.int 0) rfl rfl rfl)
  have ht:((a:Int) == 0||(b:Int) == 0)=true:=by rcases h0 with rfl | rfl <;> simp
  exact cH (k:=true) (hz.trans (by rw[ht])) rfl (fun _=>aK rfl rfl) nofun
 ·have ha:0<a:=by omega
  have hb:0<b:=by omega
  have hpa:(0:Int)<a:=by omega
  have hpb:(0:Int)<b:=by omega
  obtain⟨k2,e2,hk2⟩:=bM (c / 6) (k:=13) (by decide)
  have e2:c / 6 % 13=(k2:Int):=e2
  obtain⟨d0,⟨k1,rfl,h1⟩,s0⟩:=cE (l:=[.int 0,.int 0,.int 0,.int 0,.int 1,.int (c / 6 % 13)]) (by simp) c (R:=fun d=>∃ k:Nat,d=.int k∧k≤12) (by
   intro d hd
   simp only[List.mem_cons,List.not_mem_nil,or_false] at hd
   rcases hd with rfl | rfl | rfl | rfl | rfl | rfl <;> first | exact⟨0,rfl,by decide⟩ | exact⟨1,rfl,by decide⟩ | exact⟨k2,by rw[e2],by omega⟩)
  have s0:a9 (.list [.int 0,.int 0,.int 0,.int 0,.int 1,.int (c / 6 % 13)]) (.int (c % 6))=some (.int k1):=s0
  obtain⟨ds,q1,q2,q3⟩:=jp (cf:=al P X (n+1)) (ρ:=vis [("_law_cell",(false,.int c)),("_law_one",(false,.int a)),("_law_other",(false,.int b)),("_law_many_here",(false,.int k1))])
   (elt:=.tup [.bin .Mod (.call "_law_mixed" [.var "_law_cell",.bin .Add (.int 70) (.var "_law_k")]) (.var "_law_one"),.bin .Mod (.call "_law_mixed" [.var "_law_cell",.bin .Add (.int 75) (.var "_law_k")]) (.var "_law_other")]) (z:="_law_k") (src:=.var "_law_many_here") (k:=k1) (by omega) (fun d=>∃ x:Nat×Nat,(x.1<a∧x.2<b)∧d=prT x) rfl (by
    intro i _
    obtain⟨r,_,hr⟩:=mixed (X:=X) B.toBG n c (70+i)
    obtain⟨r',_,hr'⟩:=mixed (X:=X) B.toBG n c (75+i)
    obtain⟨p,ep,hp⟩:=bM r ha
    obtain⟨q,eq,hq⟩:=bM r' hb
    refine⟨prT (p,q),⟨(p,q),⟨hp,hq⟩,rfl⟩,?_⟩
    show _=some (D.tup [.int p,.int q])
    rw[← ep,← eq]
    exact bN (ad (ao (ax (ad (ae (aX rfl (aa af))) (ad (ao (ag _ _ _) (ae bw) cw) (aj _ _))) hr) (ae (aX rfl (aa (ai rfl af)))) (aJ hpa)) (ad (ao (ax (ad (ae (aX rfl (aa af))) (ad (ao (ag _ _ _) (ae bw) cw) (aj _ _))) hr') (ae (aX rfl (aa (ai rfl (ai rfl af))))) (aJ hpb)) (aj _ _))) (Nat.le_of_ble_eq_true rfl))
  obtain⟨prs,rfl,hprs⟩:=kK q2
  refine⟨prs,hprs,by rw[List.length_map] at q1;omega,az B.rb rfl ?_⟩
  have hz:evE (al P X (n+1)) (vis [("_law_cell",(false,.int c)),("_law_one",(false,.int a)),("_law_other",(false,.int b))]) (.bop .Or [.cmp .Eq (.var "_law_one") (.int 0),.cmp .Eq (.var "_law_other") (.int 0)])=some (.bool ((a:Int) == 0||(b:Int) == 0)):=hZ (k:=(a:Int) == 0) (l:=(b:Int) == 0) (aD (x:=.int a) (y:=.int 0) rfl rfl rfl) fun _=>bA (aD (x:=.int b) (y:=.int 0) rfl rfl rfl)
  have ht:((a:Int) == 0||(b:Int) == 0)=false:=by rw[Bool.or_eq_false_iff,beq_eq_false_iff_ne,beq_eq_false_iff_ne];omega
  refine cH (k:=false) (hz.trans (by rw[ht])) rfl nofun fun _=>?_
  refine aL (av (d:=.int k1) (fr:=false) (aw (au (cI (ad (ag _ _ _) (ad (ag _ _ _) (ad (ag _ _ _) (ad (ag _ _ _) (ad (ag _ _ _) (ad (ao (ao (ae rfl) (ag _ _ _) (a7 (of_decide_eq_true (id (Eq.refl true))))) (ag _ _ _) (aJ (of_decide_eq_true (id (Eq.refl true))))) (aj _ _))))))) (Nat.le_of_ble_eq_true rfl)) (ao (ae rfl) (ag _ _ _) (aJ (of_decide_eq_true (id (Eq.refl true))))) s0) rfl rfl)) ?_
  exact aK (aw q3 rfl rfl) rfl
end

set_option maxRecDepth 100000
set_option maxHeartbeats 800000
noncomputable def Q.rb(R:Wd):Q→Nat→Prop
 | .table nm,r=>∃ k,R.lookup nm=some k∧k≤r
 | .sieve _ q,r | .pick _ q,r | .group _ _ q,r | .order _ q,r | .once q,r=>q.rb R r
 | .first a q,r=>∃ r',q.rb R r'∧r'≤60∧min a r'≤r
 | .join a b _,r=>∃ r1 r2,a.rb R r1∧b.rb R r2∧r1≤60∧r2≤60∧r1 * r2≤r
 | .both a b,r=>∃ r1 r2,a.rb R r1∧b.rb R r2∧r1≤60∧r2≤60∧r1+r2≤r
structure TpA(W R:Wd)(c dp:Nat)(q:Q)(rr k:Nat):Prop where
 ok:q.ok W
 wd:q.wd W≤24 * k
 k1:1≤k
 k2:k≤24
 r:rr≤60
 cp:q.cp≤c
 pr:q.pr≤12
 nar:q.nar W 5000
 dp:q.dp≤dp
 rb:q.rb R rr
theorem TpA.up{W R:Wd}{c dp c' dp':Nat}{q:Q}{r k:Nat}(h:TpA W R c dp q r k)(h1:c≤c')(h2:dp≤dp'):TpA W R c' dp' q r k:=⟨h.ok,h.wd,h.k1,h.k2,h.r,Nat.le_trans h.cp h1,h.pr,h.nar,Nat.le_trans h.dp h2,h.rb⟩
noncomputable def aF(W:Wd)(q:Q)(r k:Nat):D:=.tup [q.d,.int (q.wd W),.int r,.int k]
section
variable {P:List (String×Fn)} {X:CF} {W R:Wd} {c dp:Nat} {q:Q} {r k:Nat}
theorem d8(B:BN P)(n:Nat)(w z:Int)(h:TpA W R c dp q r k):∃ q' r',TpA W R (c+12) (dp+1) q' r' k∧(al P X (n+6)).call "_law_around" [.int w,.int z,aF W q r k]=some (aF W q' r' k,false):=by
 have hw:q.wd W≤1000:=by have:=h.wd;have:=h.k2;omega
 obtain⟨cs,c1,c2,c3⟩:=clauses_by (X:=X) B n z (q.wd W) hw
 obtain⟨ps,p1,p2,p3⟩:=kE (X:=X) B (n+3) z (q.wd W)
 obtain⟨ss,s1,s2,s3⟩:=sums_by (X:=X) B (n+2) z (q.wd W)
 obtain⟨ks,k1,k2,k3⟩:=keys_by (X:=X) B (n+2) z (q.wd W)
 obtain⟨a0,e0⟩:∃ a:Nat,1+z % 6=a:=⟨(1+z % 6).toNat,by omega⟩
 obtain⟨a1,e1⟩:∃ a:Nat,z / 24 % 70=a:=⟨(z / 24 % 70).toNat,by omega⟩
 have hp:(0:Int)<10 ^ 40:=by decide
 obtain⟨a2,e2⟩:∃ a:Nat,z / 54 % 10 ^ 40=a:=⟨(z / 54 % 10 ^ 40).toNat,(Int.toNat_of_nonneg (Int.emod_nonneg _ (by decide))).symm⟩
 have hpow:dQ .Pow (.int 10) (.int 40)=some (.int (10 ^ 40)):=tI ⟨by decide +kernel,by decide +kernel,by decide,by decide⟩
 have hmod:dQ .Mod (.int (z / 54)) (.int (10 ^ 40))=some (.int a2):=by rw[← e2];exact aJ hp
 have hmin:∀ a:Nat,gt "min" [.int r,.int a]=some (.int (min a r:Nat)):=fun a=>by
  show some (D.int (if (a:Int)<r then (a:Int) else r))=_
  congr 2
  split
  ·rw[Nat.min_eq_left (by omega)];try rfl
  ·rw[Nat.min_eq_right (by omega)]
 have l1:gt "len" [.tup (ps.map br)]=some (.int ps.length):=by show some (D.int ((ps.map br).length:Nat))=_;rw[List.length_map]
 have l2:gt "len" [.tup (ss.map dJ)]=some (.int ss.length):=by show some (D.int ((ss.map dJ).length:Nat))=_;rw[List.length_map]
 have hk:=h.k1
 have A1:TpA W R (c+12) (dp+1) (.sieve cs q) r k:=⟨⟨h.ok,c1,by omega⟩,h.wd,h.k1,h.k2,h.r,by show cs.length+q.cp≤_;have:=h.cp;omega,h.pr,h.nar,Nat.succ_le_succ h.dp,h.rb⟩
 have A2:TpA W R (c+12) (dp+1) (.pick ps q) r k:=⟨⟨h.ok,p1,by omega⟩,by show ps.length≤_;omega,h.k1,h.k2,h.r,Nat.le_trans h.cp (by omega),h.pr,h.nar,Nat.succ_le_succ h.dp,h.rb⟩
 have A3:TpA W R (c+12) (dp+1) (.group ps ss q) r k:=⟨⟨h.ok,p1,fun x hx=>(s1 x hx).1,by omega,by omega⟩,by show ps.length+ss.length≤_;omega,h.k1,h.k2,h.r,Nat.le_trans h.cp (by omega),h.pr,⟨h.nar,fun x hx=>(s1 x hx).2⟩,Nat.succ_le_succ h.dp,h.rb⟩
 have A4:TpA W R (c+12) (dp+1) (.order ks q) r k:=⟨⟨h.ok,k1,by omega⟩,h.wd,h.k1,h.k2,h.r,Nat.le_trans h.cp (by omega),h.pr,h.nar,Nat.succ_le_succ h.dp,h.rb⟩
 have A5:TpA W R (c+12) (dp+1) (.once q) r k:=⟨h.ok,h.wd,h.k1,h.k2,h.r,Nat.le_trans h.cp (by omega),h.pr,h.nar,Nat.succ_le_succ h.dp,h.rb⟩
 have A6:∀ a:Nat,TpA W R (c+12) (dp+1) (.first a q) (min a r) k:=fun a=>⟨h.ok,h.wd,h.k1,h.k2,Nat.le_trans (Nat.min_le_right _ _) h.r,Nat.le_trans h.cp (by omega),h.pr,h.nar,Nat.succ_le_succ h.dp,r,h.rb,h.r,Nat.le_refl _⟩
 have key:Rex (al P X (n+5)) ej.body [("_law_word",(false,.int w)),("_law_cell",(false,.int z)),("_law_top",(false,aF W q r k))] fun d fr=>(∃ q' r',TpA W R (c+12) (dp+1) q' r' k∧d=aF W q' r' k)∧fr=false:=by
  generalize al P X (n+5)=cf at *
  have t0:a9 (aF W q r k) (.int 0)=some q.d:=rfl
  have t1:a9 (aF W q r k) (.int 1)=some (.int (q.wd W)):=rfl
  have t2:a9 (aF W q r k) (.int 2)=some (.int r):=rfl
  have t3:a9 (aF W q r k) (.int 3)=some (.int k):=rfl
  generalize aF W q r k=T at *
  have fin:∀ (a:Nat) (σ:St),Has σ "_law_top" T→Has σ "_law_count" (.int a)→Rex cf [.ret (.tup [.tup [.str "first",.var "_law_count",.sub (.var "_law_top") (.int 0)],.sub (.var "_law_top") (.int 1),.blt "min" [.sub (.var "_law_top") (.int 2),.var "_law_count"],.sub (.var "_law_top") (.int 3)])] σ fun d fr=>(∃ q' r',TpA W R (c+12) (dp+1) q' r' k∧d=aF W q' r' k)∧fr=false:=by
   intro a σ i1 i2
   have:=hmin a
   refine b0 (d:=aF W (.first a q) (min a r) k) (fr:=false) (by unfold aF;show _=some (D.tup [.tup [.str (Str.ofString "first"),.int a,q.d],.int (q.wd W),.int (min a r:Nat),.int k],_);exact aw (bN (ad (bN (ad (aT _ _ _) (ad (ae (aa i2)) (ad (au (ae (aa i1)) (ag _ _ _) t0) (aj _ _)))) (Nat.le_of_ble_eq_true rfl)) (ad (au (ae (aa i1)) (ag _ _ _) t1) (ad (bS (ad (au (ae (aa i1)) (ag _ _ _) t2) (ad (ae (aa i2)) (aj _ _))) this) (ad (au (ae (aa i1)) (ag _ _ _) t3) (aj _ _))))) (Nat.le_of_ble_eq_true rfl)) rfl rfl) rfl ⟨⟨_,_,A6 a,rfl⟩,rfl⟩
  refine cV (k:=decide (w<3)) (aD (ae (aa af)) (ag _ _ _) rfl) rfl (fun _=>?_) fun _=>?_
  ·exact b0 (d:=aF W (.sieve cs q) r k) (fr:=false) (by unfold aF;show _=some (D.tup [.tup [.str (Str.ofString "sieve"),.tup (cs.map clD),q.d],.int (q.wd W),.int r,.int k],_);exact aw (bN (ad (bN (ad (aT _ _ _) (ad (ax (ad (ae (aa (ai rfl af))) (ad (au (ae (aa (ai rfl (ai rfl af)))) (ag _ _ _) t1) (aj _ _))) c3) (ad (au (ae (aa (ai rfl (ai rfl af)))) (ag _ _ _) t0) (aj _ _)))) (Nat.le_of_ble_eq_true rfl)) (ad (au (ae (aa (ai rfl (ai rfl af)))) (ag _ _ _) t1) (ad (au (ae (aa (ai rfl (ai rfl af)))) (ag _ _ _) t2) (ad (au (ae (aa (ai rfl (ai rfl af)))) (ag _ _ _) t3) (aj _ _))))) (Nat.le_of_ble_eq_true rfl)) rfl rfl) rfl ⟨⟨_,_,A1,rfl⟩,rfl⟩
  refine cV (k:=w == 4) (aD (ae (aa af)) (ag _ _ _) rfl) rfl (fun _=>?_) fun _=>?_
  ·refine aY (av (d:=.tup (ps.map br)) (fr:=false) (aM (ad (ae (aa (ai rfl af))) (ad (au (ae (aa (ai rfl (ai rfl af)))) (ag _ _ _) t1) (aj _ _))) p3)) ?_
   exact b0 (d:=aF W (.pick ps q) r k) (fr:=false) (by unfold aF;show _=some (D.tup [.tup [.str (Str.ofString "pick"),.tup (ps.map br),q.d],.int ps.length,.int r,.int k],_);exact aw (bN (ad (bN (ad (aT _ _ _) (ad (ae (aa aB)) (ad (au (ae (aa (ak rfl (ay (ai rfl (ai rfl af)))))) (ag _ _ _) t0) (aj _ _)))) (Nat.le_of_ble_eq_true rfl)) (ad (bS (ad (ae (aa aB)) (aj _ _)) l1) (ad (au (ae (aa (ak rfl (ay (ai rfl (ai rfl af)))))) (ag _ _ _) t2) (ad (au (ae (aa (ak rfl (ay (ai rfl (ai rfl af)))))) (ag _ _ _) t3) (aj _ _))))) (Nat.le_of_ble_eq_true rfl)) rfl rfl) rfl ⟨⟨_,_,A2,rfl⟩,rfl⟩
  refine cV (k:=w == 3||w == 5) (hZ (aD (ae (aa af)) (ag _ _ _) rfl) fun a=>bA (aD (ae (aa af)) (ag _ _ _) rfl)) rfl (fun _=>?_) fun _=>?_
  ·refine aY (av (d:=.tup (ps.map br)) (fr:=false) (aM (ad (ae (aa (ai rfl af))) (ad (au (ae (aa (ai rfl (ai rfl af)))) (ag _ _ _) t1) (aj _ _))) p3)) (aY (av (d:=.tup (ss.map dJ)) (fr:=false) (aM (ad (ae (aa (ak rfl (ay (ai rfl af))))) (ad (au (ae (aa (ak rfl (ay (ai rfl (ai rfl af)))))) (ag _ _ _) t1) (aj _ _))) s3)) ?_)
   have hadd:((ps.length+ss.length:Nat):Int)=(ps.length:Int)+ss.length:=Int.natCast_add _ _
   exact b0 (d:=aF W (.group ps ss q) r k) (fr:=false) (by unfold aF;show _=some (D.tup [.tup [.str (Str.ofString "group"),.tup (ps.map br),.tup (ss.map dJ),q.d],.int (ps.length+ss.length:Nat),.int r,.int k],_);rw[hadd];exact aw (bN (ad (bN (ad (aT _ _ _) (ad (ae (aa (ak rfl (ay aB)))) (ad (ae (aa aB)) (ad (au (ae (aa (ak rfl (ay (ak rfl (ay (ai rfl (ai rfl af)))))))) (ag _ _ _) t0) (aj _ _))))) (Nat.le_of_ble_eq_true rfl)) (ad (ao (bS (ad (ae (aa (ak rfl (ay aB)))) (aj _ _)) l1) (bS (ad (ae (aa aB)) (aj _ _)) l2) cw) (ad (au (ae (aa (ak rfl (ay (ak rfl (ay (ai rfl (ai rfl af)))))))) (ag _ _ _) t2) (ad (au (ae (aa (ak rfl (ay (ak rfl (ay (ai rfl (ai rfl af)))))))) (ag _ _ _) t3) (aj _ _))))) (Nat.le_of_ble_eq_true rfl)) rfl rfl) rfl ⟨⟨_,_,A3,rfl⟩,rfl⟩
  refine cV (k:=w == 6) (aD (ae (aa af)) (ag _ _ _) rfl) rfl (fun _=>?_) fun _=>?_
  ·exact b0 (d:=aF W (.order ks q) r k) (fr:=false) (by unfold aF;show _=some (D.tup [.tup [.str (Str.ofString "order"),.tup (ks.map d4),q.d],.int (q.wd W),.int r,.int k],_);exact aw (bN (ad (bN (ad (aT _ _ _) (ad (ax (ad (ae (aa (ai rfl af))) (ad (au (ae (aa (ai rfl (ai rfl af)))) (ag _ _ _) t1) (aj _ _))) k3) (ad (au (ae (aa (ai rfl (ai rfl af)))) (ag _ _ _) t0) (aj _ _)))) (Nat.le_of_ble_eq_true rfl)) (ad (au (ae (aa (ai rfl (ai rfl af)))) (ag _ _ _) t1) (ad (au (ae (aa (ai rfl (ai rfl af)))) (ag _ _ _) t2) (ad (au (ae (aa (ai rfl (ai rfl af)))) (ag _ _ _) t3) (aj _ _))))) (Nat.le_of_ble_eq_true rfl)) rfl rfl) rfl ⟨⟨_,_,A4,rfl⟩,rfl⟩
  refine cV (k:=w == 7) (aD (ae (aa af)) (ag _ _ _) rfl) rfl (fun _=>?_) fun _=>?_
  ·exact b0 (d:=aF W (.once q) r k) (fr:=false) (by unfold aF;show _=some (D.tup [.tup [.str (Str.ofString "once"),q.d],.int (q.wd W),.int r,.int k],_);exact aw (bN (ad (bN (ad (aT _ _ _) (ad (au (ae (aa (ai rfl (ai rfl af)))) (ag _ _ _) t0) (aj _ _))) (Nat.le_of_ble_eq_true rfl)) (ad (au (ae (aa (ai rfl (ai rfl af)))) (ag _ _ _) t1) (ad (au (ae (aa (ai rfl (ai rfl af)))) (ag _ _ _) t2) (ad (au (ae (aa (ai rfl (ai rfl af)))) (ag _ _ _) t3) (aj _ _))))) (Nat.le_of_ble_eq_true rfl)) rfl rfl) rfl ⟨⟨_,_,A5,rfl⟩,rfl⟩
  refine aY (av (d:=.int a0) (fr:=false) (by rw[← e0];exact aw (ao (ag _ _ _) (ao (ae (aa (ai rfl af))) (ag _ _ _) (aJ (of_decide_eq_true (id (Eq.refl true))))) cw) rfl rfl)) ?_
  refine cV (k:=z / 6 % 4 == 1) (aD (ao (ao (ae (aa (ak rfl (ay (ai rfl af))))) (ag _ _ _) (a7 (of_decide_eq_true (id (Eq.refl true))))) (ag _ _ _) (aJ (of_decide_eq_true (id (Eq.refl true))))) (ag _ _ _) rfl) rfl (fun _=>?_) fun _=>?_
  ·refine aY (av (d:=.int a1) (fr:=false) (by rw[← e1];exact aw (ao (ao (ae (aa (ak rfl (ay (ai rfl af))))) (ag _ _ _) (a7 (of_decide_eq_true (id (Eq.refl true))))) (ag _ _ _) (aJ (of_decide_eq_true (id (Eq.refl true))))) rfl rfl)) ?_
   refine cV (k:=z / 6 % 9 == 2) (aD (ao (ao (ae (aa (ak rfl (ay (ak rfl (ay (ai rfl af))))))) (ag _ _ _) (a7 (of_decide_eq_true (id (Eq.refl true))))) (ag _ _ _) (aJ (of_decide_eq_true (id (Eq.refl true))))) (ag _ _ _) rfl) rfl (fun _=>?_) fun _=>fin a1 _ (ak rfl (ay (ak rfl (ay (ai rfl (ai rfl af)))))) aB
   exact aY (av (d:=.int a2) (fr:=false) (aw (ao (ao (ae (aa (ak rfl (ay (ak rfl (ay (ai rfl af))))))) (ag _ _ _) (a7 (of_decide_eq_true (id (Eq.refl true))))) (ao (ag _ _ _) (ag _ _ _) hpow) hmod) rfl rfl)) (fin a2 _ (ak rfl (ay (ak rfl (ay (ak rfl (ay (ai rfl (ai rfl af)))))))) aB)
  ·refine cV (k:=z / 6 % 9 == 2) (aD (ao (ao (ae (aa (ak rfl (ay (ai rfl af))))) (ag _ _ _) (a7 (of_decide_eq_true (id (Eq.refl true))))) (ag _ _ _) (aJ (of_decide_eq_true (id (Eq.refl true))))) (ag _ _ _) rfl) rfl (fun _=>?_) fun _=>fin a0 _ (ak rfl (ay (ai rfl (ai rfl af)))) aB
   exact aY (av (d:=.int a2) (fr:=false) (aw (ao (ao (ae (aa (ak rfl (ay (ai rfl af))))) (ag _ _ _) (a7 (of_decide_eq_true (id (Eq.refl true))))) (ao (ag _ _ _) (ag _ _ _) hpow) hmod) rfl rfl)) (fin a2 _ (ak rfl (ay (ak rfl (ay (ai rfl (ai rfl af)))))) aB)
 obtain⟨d,fr,⟨⟨q',r',g1,rfl⟩,rfl⟩,hr⟩:=cP (X:=X) (args:=[.int w,.int z,aF W q r k]) B.ar rfl key
 exact⟨q',r',g1,hr⟩
theorem nC(B:BN P)(n:Nat):(al P X (n+1)).call "_law_around" [.int 8,.int 5,aF W q r k]=some (aF W (.first 6 q) (min 6 r) k,false):=by
 have hmin:gt "min" [.int r,.int 6]=some (.int (min 6 r:Nat)):=by
  show some (D.int (if (6:Int)<r then (6:Int) else r))=_
  congr 2
  split
  ·rw[Nat.min_eq_left (by omega)];try rfl
  ·rw[Nat.min_eq_right (by omega)]
 refine az B.ar rfl ?_
 show Run _ ej.body [("_law_word",(false,.int 8)),("_law_cell",(false,.int 5)),("_law_top",(false,aF W q r k))] _ _
 generalize al P X n=cf at *
 refine cH (k:=false) (x:=.bool false) rfl rfl nofun fun _=>cH (k:=false) (x:=.bool false) rfl rfl nofun fun _=>cH (k:=false) (x:=.bool false) rfl rfl nofun fun _=>cH (k:=false) (x:=.bool false) rfl rfl nofun fun _=>cH (k:=false) (x:=.bool false) rfl rfl nofun fun _=>?_
 refine aL (av (d:=.int 6) (fr:=false) rfl) ?_
 refine cH (k:=false) (x:=.bool false) rfl rfl nofun fun _=>cH (k:=false) (x:=.bool false) rfl rfl nofun fun _=>?_
 exact aK (aw (bN (ad (d:=.tup [.str (Str.ofString "first"),.int 6,q.d]) rfl (ad (d:=.int (q.wd W)) rfl (ad (bS (ad (d:=.int r) rfl (ad (d:=.int 6) rfl (aj _ _))) hmin) (ad (d:=.int k) rfl (aj _ _))))) (Nat.le_of_ble_eq_true rfl)) rfl rfl) rfl
theorem qf(B:BN P)(n:Nat)(z:Int)(h:TpA W R c dp q r k):∃ q' r',TpA W R (c+12) (dp+1) q' r' k∧(al P X (n+7)).call "_law_sieve_on" [aF W q r k,.int z]=some (aF W q' r' k,false):=by
 obtain⟨x6,_,m6⟩:=mixed (X:=X) B.toBG (n+5) z 6
 obtain⟨q1,r1,g1,g2⟩:=d8 (X:=X) B n 0 (x6 / 4 * 4+1) h
 obtain⟨x8,_,m8⟩:=mixed (X:=X) B.toBG (n+5) z 8
 have key:Rex (al P X (n+6)) eE.body [("_law_top",(false,aF W q r k)),("_law_cell",(false,.int z))] fun d fr=>(∃ q' r',TpA W R (c+12) (dp+1) q' r' k∧d=aF W q' r' k)∧fr=false:=by
  generalize al P X (n+6)=cf at *
  have t0:a9 (aF W q r k) (.int 0)=some q.d:=rfl
  have t1:a9 (aF W q r k) (.int 1)=some (.int (q.wd W)):=rfl
  have t2:a9 (aF W q r k) (.int 2)=some (.int r):=rfl
  have t3:a9 (aF W q r k) (.int 3)=some (.int k):=rfl
  have last:∀ σ:St,Has σ "_law_top" (aF W q r k)→Has σ "_law_cell" (.int z)→Rex cf [.ret (.call "_law_around" [.int 0,.bin .Add (.bin .Mult (.bin .FloorDiv (.call "_law_mixed" [.var "_law_cell",.int 6]) (.int 4)) (.int 4)) (.int 1),.var "_law_top"])] σ fun d fr=>(∃ q' r',TpA W R (c+12) (dp+1) q' r' k∧d=aF W q' r' k)∧fr=false:=fun σ i1 i2=>
   b0 (d:=aF W q1 r1 k) (fr:=false) (aM (ad (ag _ _ _) (ad (ao (ao (ao (ax (ad (ae (aa i2)) (ad (ag _ _ _) (aj _ _))) m6) (ag _ _ _) (a7 (of_decide_eq_true (id (Eq.refl true))))) (ag _ _ _) (ry (of_decide_eq_true (id (Eq.refl true))))) (ag _ _ _) cw) (ad (ae (aa i1)) (aj _ _)))) g2) rfl ⟨⟨q1,r1,g1,rfl⟩,rfl⟩
  refine cV (k:=z / 4 % 2 == 1&&decide ((q.wd W:Int) > 0)) (dC (k:=z / 4 % 2 == 1) (l:=decide ((q.wd W:Int) > 0)) (by clear last;exact aD (ao (ao (ae (aa (ai rfl af))) (ag _ _ _) (a7 (of_decide_eq_true (id (Eq.refl true))))) (ag _ _ _) (aJ (of_decide_eq_true (id (Eq.refl true))))) (ag _ _ _) rfl) fun _=>bA (aD (au (x:=aF W q r k) (y:=.int 1) rfl rfl t1) (ag _ _ _) rfl)) rfl (fun hc=>?_) fun _=>last _ ⟨_,rfl⟩ ⟨_,rfl⟩
  rw[Bool.and_eq_true,decide_eq_true_eq] at hc
  have hpos:0<q.wd W:=by omega
  have hposI:(0:Int)<q.wd W:=hc.2
  obtain⟨dw,⟨s,hs,rfl⟩,hd⟩:=cE (l:=[sD "from",sD "upto",sD "unlike"]) (by decide) (z / 12) (R:=fun d=>∃ s,s∈gV∧d=sD s) (by
   intro d hd
   simp only[List.mem_cons,List.not_mem_nil,or_false] at hd
   rcases hd with rfl | rfl | rfl <;> exact⟨_,by decide,rfl⟩)
  have hd:a9 (.list [.str (Str.ofString "from"),.str (Str.ofString "upto"),.str (Str.ofString "unlike")]) (.int (z / 12 % 3))=some (.str (Str.ofString s)):=hd
  obtain⟨p,ep,hp⟩:=bM x8 hpos
  have hg:r5 (.int (z / 36 % 3)):=.inl ⟨_,rfl,by omega,by omega⟩
  have A:TpA W R (c+12) (dp+1) (.sieve [[tst s p "is" (.int (z / 36 % 3))]] q) r k:=by
   refine⟨⟨h.ok,fun x hx=>?_,Nat.le_of_ble_eq_true rfl⟩,h.wd,h.k1,h.k2,h.r,by show 1+q.cp≤_;have:=h.cp;omega,h.pr,h.nar,Nat.succ_le_succ h.dp,h.rb⟩
   rw[List.mem_singleton.mp hx]
   exact⟨fun t ht=>by rw[List.mem_singleton.mp ht];exact⟨s,p,hs,hp,.inr ⟨_,hg,rfl⟩⟩,Nat.le_of_ble_eq_true rfl⟩
  refine aY (av (d:=.str (Str.ofString s)) (fr:=false) (aw (au (cI (ad (aT _ _ _) (ad (aT _ _ _) (ad (aT _ _ _) (aj _ _)))) (of_decide_eq_true (id (Eq.refl true)))) (ao (ao (ae (aa (ai rfl af))) (ag _ _ _) (a7 (of_decide_eq_true (id (Eq.refl true))))) (ag _ _ _) (aJ (of_decide_eq_true (id (Eq.refl true))))) hd) rfl rfl)) ?_
  have hx:dQ .Mod (.int x8) (.int (q.wd W))=some (.int p):=by rw[← ep];exact aJ hposI
  refine aY (av (d:=tst s p "is" (.int (z / 36 % 3))) (fr:=false) (aw (bN (ad (ae (aa aB)) (ad (ao (ax (ad (ae (aa (ak rfl (ay (ai rfl af))))) (ad (ag _ _ _) (aj _ _))) m8) (au (ae (aa (ak rfl (ay af)))) (ag _ _ _) t1) hx) (ad (aT _ _ _) (ad (ao (ao (ae (aa (ak rfl (ay (ai rfl af))))) (ag _ _ _) (a7 (of_decide_eq_true (id (Eq.refl true))))) (ag _ _ _) (aJ (of_decide_eq_true (id (Eq.refl true))))) (aj _ _))))) (Nat.le_of_ble_eq_true rfl)) rfl rfl)) ?_
  have j1:Has (aC (settle (tst s p "is" (.int (z / 36 % 3))) (ME.names (.tup [.var "_law_word",.bin .Mod (.call "_law_mixed" [.var "_law_cell",.int 8]) (.sub (.var "_law_top") (.int 1)),.str "is",.bin .Mod (.bin .FloorDiv (.var "_law_cell") (.int 36)) (.int 3)])) (aC (settle (.str (Str.ofString s)) (ME.names (.sub (.lst [.str "from",.str "upto",.str "unlike"]) (.bin .Mod (.bin .FloorDiv (.var "_law_cell") (.int 12)) (.int 3)))) [("_law_top",(false,aF W q r k)),("_law_cell",(false,.int z))]) "_law_word" (false,.str (Str.ofString s)))) "_law_test" (false,tst s p "is" (.int (z / 36 % 3)))) "_law_top" (aF W q r k):=(ak rfl (ay (ak rfl (ay af))))
  refine b0 (d:=aF W (.sieve [[tst s p "is" (.int (z / 36 % 3))]] q) r k) (fr:=false) (aw (bN (ad (bN (ad (aT _ _ _) (ad (bN (ad (bN (ad (ae (aa aB)) (aj _ _)) (Nat.le_of_ble_eq_true rfl)) (aj _ _)) (Nat.le_of_ble_eq_true rfl)) (ad (au (ae (aa j1)) (ag _ _ _) t0) (aj _ _)))) (Nat.le_of_ble_eq_true rfl)) (ad (au (ae (aa j1)) (ag _ _ _) t1) (ad (au (ae (aa j1)) (ag _ _ _) t2) (ad (au (ae (aa j1)) (ag _ _ _) t3) (aj _ _))))) (Nat.le_of_ble_eq_true rfl)) rfl rfl) rfl ⟨⟨_,_,A,rfl⟩,rfl⟩
 obtain⟨d,fr,⟨⟨q',r',h1,rfl⟩,rfl⟩,hr⟩:=cP (X:=X) (args:=[aF W q r k,.int z]) B.so rfl key
 exact⟨q',r',h1,hr⟩
end

set_option maxRecDepth 100000
noncomputable abbrev Tbs:=List (Str×Tab)
noncomputable def Tbs.d(T:Tbs):D:=.dict (T.map fun p=>.str p.1) (T.map fun p=>aA p.2)
noncomputable def Q.ans(T:Tbs):Q→Tab
 | .table nm=>(T.lookup nm).getD []
 | .sieve cs q=>(q.ans T).filter (jw cs)
 | .pick ps q=>(q.ans T).map (aS ps)
 | .group ps ss q=>gM ps ss (q.ans T)
 | .order ks q=>fB ks (q.ans T)
 | .once q=>be (q.ans T)
 | .first c q=>(q.ans T).take c
 | .join a b prs=>kH prs (a.ans T) (b.ans T)
 | .both a b=>a.ans T++b.ans T
noncomputable def tJ(W R:Wd)(T:Tbs):Prop:=∀ nm k,W.lookup nm=some k→∃ t,T.lookup nm=some t∧aO k t∧∀ r,R.lookup nm=some r→t.length≤r
theorem mq:∀ (ks:List (Nat×Bool)) (t:Tab),(ks.foldl (fun l k=>gD k l) t).length=t.length∧∀ r∈ks.foldl (fun l k=>gD k l) t,r∈t
 | [],_=>⟨rfl,fun _ h=>h⟩
 | k::ks,t=>⟨(mq ks (gD k t)).1.trans (lP k t).1,fun r h=>(lP k t).2 r ((mq ks (gD k t)).2 r h)⟩
theorem group_rows{m:Nat}{ps:List Nat}{ss:List (String×Nat)}{t:Tab}(h:aO m t)(hp:∀ p∈ps,p<m)(hs:∀ s∈ss,s.2<m):aO (ps.length+ss.length) (gM ps ss t)∧(gM ps ss t).length≤t.length:=by
 have g:=kP hp h
 refine⟨fun r hr=>?_,by unfold gM;rw[List.length_map];exact g.le⟩
 obtain⟨q,hq,e⟩:=List.mem_map.mp hr
 subst e
 have hk:=g.ke q hq
 have ro:=g.ro q hq
 refine⟨by unfold ul l5;rw[List.length_append,List.length_map,hk.1],fun d hd=>(List.mem_append.mp hd).elim (hk.2 d) fun hd=>(List.mem_map.mp hd).elim fun s z=>z.2▸?_⟩
 obtain⟨qk,qt⟩:=q
 cases qt with
 | nil=>exact absurd rfl ro.1
 | cons r0 rs=>exact told_cell (iN ro.2.1 (hs s z.1))
theorem met_rows{m k:Nat}{prs:List (Nat×Nat)}{a b:Tab}(ha:aO m a)(hb:aO k b):aO (m+k) (kH prs a b):=fun r hr=>by
 obtain⟨x,hx,hr⟩:=List.mem_flatMap.mp hr
 obtain⟨y,hy,e⟩:=List.mem_map.mp hr
 have h1:=ha x hx
 have h2:=hb y ((List.mem_filter.mp hy).1)
 exact e▸⟨by rw[List.length_append,h1.1,h2.1],fun d hd=>(List.mem_append.mp hd).elim (h1.2 d) (h2.2 d)⟩
theorem bD{W R:Wd}{T:Tbs}(hT:tJ W R T):∀ (q:Q) (r:Nat),q.ok W→q.rb R r→aO (q.wd W) (q.ans T)∧(q.ans T).length≤r
 | .table nm,r,⟨k,hk⟩,⟨k',h1,h2⟩=>by
  obtain⟨t,e,h3,h4⟩:=hT nm k hk
  show aO ((W.lookup nm).getD 0) ((T.lookup nm).getD [])∧((T.lookup nm).getD []).length≤r
  rw[hk,e]
  exact⟨h3,Nat.le_trans (h4 _ h1) h2⟩
 | .sieve cs q,r,⟨h,_⟩,hr=>have i:=bD hT q r h hr;⟨fun x hx=>i.1 x ((List.mem_filter.mp hx).1),Nat.le_trans (List.length_filter_le _ _) i.2⟩
 | .pick ps q,r,⟨h,hp,_⟩,hr=>have i:=bD hT q r h hr;⟨fun x hx=>(List.mem_map.mp hx).elim fun y z=>z.2▸e9 (i.1 y z.1) hp,Nat.le_trans (Nat.le_of_eq (List.length_map ..)) i.2⟩
 | .group ps ss q,r,⟨h,hp,hs,_⟩,hr=>have i:=bD hT q r h hr;have g:=group_rows i.1 hp hs;⟨g.1,Nat.le_trans g.2 i.2⟩
 | .order ks q,r,⟨h,_⟩,hr=>have i:=bD hT q r h hr;have o:=mq ks.reverse (q.ans T);⟨fun x hx=>i.1 x (o.2 x hx),Nat.le_trans (Nat.le_of_eq o.1) i.2⟩
 | .once q,r,h,hr=>have i:=bD hT q r h hr;⟨fun x hx=>i.1 x (og.1 x hx),Nat.le_trans og.2 i.2⟩
 | .first c q,r,h,⟨r',hr,_,h2⟩=>have i:=bD hT q r' h hr;⟨fun x hx=>i.1 x (List.mem_of_mem_take hx),Nat.le_trans (Nat.le_of_eq List.length_take) (Nat.le_trans (Nat.le_min.mpr ⟨Nat.min_le_left _ _,Nat.le_trans (Nat.min_le_right _ _) i.2⟩) h2)⟩
 | .join a b prs,r,⟨ha,hb,_⟩,⟨r1,r2,h1,h2,_,_,h3⟩=>have i:=bD hT a r1 ha h1;have j:=bD hT b r2 hb h2;⟨met_rows i.1 j.1,Nat.le_trans (mw prs _ _) (Nat.le_trans (Nat.mul_le_mul i.2 j.2) h3)⟩
 | .both a b,r,⟨ha,hb,hw⟩,⟨r1,r2,h1,h2,_,_,h3⟩=>have i:=bD hT a r1 ha h1;have j:=bD hT b r2 hb h2;⟨fun x hx=>(List.mem_append.mp hx).elim (i.1 x) fun hx=>hw▸j.1 x hx,Nat.le_trans (Nat.le_of_eq List.length_append) (Nat.le_trans (Nat.add_le_add i.2 j.2) h3)⟩

set_option maxRecDepth 100000
section
variable {P:List (String×Fn)} {X:CF} {cf:CF} {σ:St} {t r:List MS} {w w2:String} {R:D} {fr:Bool}
noncomputable def nT:List String:=["sieve","pick","group","order","once","first"]
theorem r9:∀ w∈nT,(Str.ofString w == Str.ofString "table")=false∧(Str.ofString w == Str.ofString "join")=false∧(Str.ofString w == Str.ofString "both")=false:=by decide +kernel
theorem steps_in:∀ w∈"table"::"join"::"both"::nT,eG .NotIn (sD w) (.tup jg)=some (.bool false):=by
 intro w hw
 simp only[nT,List.mem_cons,List.not_mem_nil,or_false] at hw
 rcases hw with rfl | rfl | rfl | rfl | rfl | rfl | rfl | rfl | rfl <;> rfl
theorem lY(B:BA P)(hX:X.glob "STEPS"=some (.tup jg))(n:Nat){q T:D}(hw:w∈"table"::"join"::"both"::nT)(h0:a9 q (.int 0)=some (sD w))(k:Run (al P X n) (i9.body.drop 2) [("query",(false,q)),("tables",(false,T)),("word",(false,sD w))] R fr):(al P X (n+1)).call "answer" [q,T]=some (R,fr):=by
 refine az B.answer rfl ?_
 show Run _ i9.body [("query",(false,q)),("tables",(false,T))] _ _
 refine aL (bc (d:=sD w) (fr:=false) (aw (au (ae (aa af)) (ag _ _ _) h0) rfl rfl) rfl) (cH (k:=false) (x:=.bool false) (aD (ae (aa aB)) (Eq.trans (e_glob _ _ _) ((glob_x P X n "STEPS").trans hX)) (steps_in w hw)) rfl nofun fun _=>k)
theorem gy(B:BA P)(hX:X.glob "STEPS"=some (.tup jg))(n:Nat){q I T A:D}{fr1:Bool}(hw:w∈nT)(h0:a9 q (.int 0)=some (sD w))(hl:a9 q (.int (-1))=some I)
  (k1:(al P X n).call "answer" [I,T]=some (A,fr1)) (k2:(al P X n).call "stepped" [q,A]=some (R,fr)):(al P X (n+1)).call "answer" [q,T]=some (R,fr):=by
 have hne:=r9 w hw
 have hh:Has [("query",(false,q)),("tables",(false,T)),("word",(false,sD w))] "word" (sD w):=ai rfl (ai rfl af)
 exact lY B hX n (.tail _ (.tail _ (.tail _ hw))) h0 (skW hne.1 hh (skW hne.2.1 hh (skW hne.2.2 hh (aK (aM (ad (ae (aa af)) (ad (ax (ad (au (ae (aa af)) v_neg1 hl) (ad (ae (aa (ai rfl af))) (aj _ _))) k1) (aj _ _))) k2) rfl))))
theorem ans_join(B:BA P)(hX:X.glob "STEPS"=some (.tup jg))(n:Nat){I J S T A C:D}{f1 f2:Bool}(k1:(al P X n).call "answer" [I,T]=some (A,f1))(k2:(al P X n).call "answer" [J,T]=some (C,f2))(k3:(al P X n).call "met" [A,C,S]=some (R,fr)) :
  (al P X (n+1)).call "answer" [.tup [sD "join",I,J,S],T]=some (R,fr):=by
 have hh:Has [("query",(false,.tup [sD "join",I,J,S])),("tables",(false,T)),("word",(false,sD "join"))] "word" (sD "join"):=ai rfl (ai rfl af)
 exact lY B hX n (by decide) rfl (skW (by decide +kernel) hh (kO hh (aL (av (aM (ad (au (x:=.tup [sD "join",I,J,S]) (y:=.int 1) (ae (aa af)) (ag _ _ _) rfl) (ad (ae (aa (ai rfl af))) (aj _ _))) k1)) (aK (aM (ad (ae (aa aB)) (ad (ax (ad (au (x:=.tup [sD "join",I,J,S]) (y:=.int 2) (ae (aa (ak rfl (ay af)))) (ag _ _ _) rfl) (ad (ae (aa (ak rfl (ay (ai rfl af))))) (aj _ _))) k2) (ad (au (x:=.tup [sD "join",I,J,S]) (y:=.int 3) (ae (aa (ak rfl (ay af)))) (ag _ _ _) rfl) (aj _ _)))) k3) rfl))))
theorem ans_both(B:BA P)(hX:X.glob "STEPS"=some (.tup jg))(n:Nat){I J T:D}{a b:Tab}{f1 f2:Bool}(hl:a.length+b.length≤big)(k1:(al P X n).call "answer" [I,T]=some (aA a,f1))(k2:(al P X n).call "answer" [J,T]=some (aA b,f2)) :
  (al P X (n+1)).call "answer" [.tup [sD "both",I,J],T]=some (aA (a++b),true):=by
 have hh:Has [("query",(false,.tup [sD "both",I,J])),("tables",(false,T)),("word",(false,sD "both"))] "word" (sD "both"):=ai rfl (ai rfl af)
 refine lY B hX n (by decide) rfl (skW (by decide +kernel) hh (skW (by decide +kernel) hh (kO hh (aL (av (aM (ad (au (x:=.tup [sD "both",I,J]) (y:=.int 1) (ae (aa af)) (ag _ _ _) rfl) (ad (ae (aa (ai rfl af))) (aj _ _))) k1)) (aK (aw (ao (x:=aA a) (y:=aA b) (ae (aa aB)) (ax (ad (au (x:=.tup [sD "both",I,J]) (y:=.int 2) (ae (aa (ak rfl (ay af)))) (ag _ _ _) rfl) (ad (ae (aa (ak rfl (ay (ai rfl af))))) (aj _ _))) k2) ?_) rfl rfl) rfl)))))
 unfold aA
 rw[List.map_append]
 exact if_pos (by rw[List.length_map,List.length_map];exact hl)
end

set_option maxRecDepth 100000
section
variable {P:List (String×Fn)} {X:CF}
theorem kz(B:BA P)(n:Nat){q A R:D}{fr:Bool}{w:String}(h0:a9 q (.int 0)=some (sD w))(k:Run (al P X n) (jz.body.drop 1) [("query",(false,q)),("rows",(false,A)),("word",(false,sD w))] R fr):(al P X (n+1)).call "stepped" [q,A]=some (R,fr):=
 az B.stepped rfl (aL (bc (d:=sD w) (fr:=false) (aw (au (ae (aa af)) (ag _ _ _) h0) rfl rfl) rfl) k)
theorem fX{q A:D}{w:String}:Has [("query",(false,q)),("rows",(false,A)),("word",(false,sD w))] "word" (sD w):=ai rfl (ai rfl af)
theorem tQ{q A:D}{w:String}:Has [("query",(false,q)),("rows",(false,A)),("word",(false,sD w))] "rows" A:=ai rfl af
theorem st_sieve(B:BA P)(n:Nat){m:Nat}{t:Tab}(h:aO m t)(hl:t.length≤big){cs:List (List D)}(hc:∀ c∈cs,lC m c){I:D}:(al P X (n+5)).call "stepped" [.tup [sD "sieve",.tup (cs.map clD),I],aA t]=some (aA (t.filter (jw cs)),true):=by
 refine kz B (n+4) rfl (kO fX (aK (aw (jq (z:="row") (its:=t.map .tup) (ae (aa tQ)) rfl (by rw[List.length_map];exact hl) (iM (g:=D.tup) (p:=jw cs) t fun r hr=>ja (ax (ad (au (x:=.tup [sD "sieve",.tup (cs.map clD),I]) (y:=.int 1) (ae (aX rfl (aa af))) (ag _ _ _) rfl) (ad (ae bw) (aj _ _))) (keeps_eq B n (h r hr) hc)) rfl fun _=>ae bw)) rfl rfl) rfl))
theorem st_pick(B:BA P)(n:Nat){m:Nat}{t:Tab}(h:aO m t)(hl:t.length≤big){ps:List Nat}(hp:∀ p∈ps,p<m)(hpl:ps.length≤big){I:D}:(al P X (n+2)).call "stepped" [.tup [sD "pick",.tup (ps.map br),I],aA t]=some (aA (t.map (aS ps)),true):=by
 unfold aA
 rw[List.map_map]
 exact kz B (n+1) rfl (skW (by decide +kernel) fX (kO fX (aK (aw (fw (g:=D.tup) (l:=t) (f:=D.tup ∘ aS ps) (ae (aa tQ)) rfl hl fun r hr=>ax (ad (ae bw) (ad (au (x:=.tup [sD "pick",.tup (ps.map br),I]) (y:=.int 1) (ae (aX rfl (aa af))) (ag _ _ _) rfl) (aj _ _))) (rj B n (h r hr) hp hpl)) rfl rfl) rfl)))
theorem st_group(B:BA P)(n:Nat){A R S U I:D}{fr:Bool}(k:(al P X n).call "grouped" [A,S,U]=some (R,fr)):(al P X (n+1)).call "stepped" [.tup [sD "group",S,U,I],A]=some (R,fr):=
 kz B n rfl (skW (by decide +kernel) fX (skW (by decide +kernel) fX (kO fX (aK (aM (ad (ae (aa tQ)) (ad (au (x:=.tup [sD "group",S,U,I]) (y:=.int 1) (ae (aa af)) (ag _ _ _) rfl) (ad (au (x:=.tup [sD "group",S,U,I]) (y:=.int 2) (ae (aa af)) (ag _ _ _) rfl) (aj _ _)))) k) rfl))))
theorem st_order(B:BA P)(n:Nat){A R S I:D}{fr:Bool}(k:(al P X n).call "ordered" [A,S]=some (R,fr)):(al P X (n+1)).call "stepped" [.tup [sD "order",S,I],A]=some (R,fr):=
 kz B n rfl (skW (by decide +kernel) fX (skW (by decide +kernel) fX (skW (by decide +kernel) fX (kO fX (aK (aM (ad (ae (aa tQ)) (ad (au (x:=.tup [sD "order",S,I]) (y:=.int 1) (ae (aa af)) (ag _ _ _) rfl) (aj _ _))) k) rfl)))))
theorem st_once(B:BA P)(n:Nat){A R I:D}{fr:Bool}(k:(al P X n).call "once" [A]=some (R,fr)):(al P X (n+1)).call "stepped" [.tup [sD "once",I],A]=some (R,fr):=
 kz B n rfl (skW (by decide +kernel) fX (skW (by decide +kernel) fX (skW (by decide +kernel) fX (skW (by decide +kernel) fX (kO fX (aK (aM (ad (ae (aa tQ)) (aj _ _)) k) rfl))))))
theorem st_first(B:BA P)(n:Nat){t:Tab}{c:Nat}{I:D}:(al P X (n+1)).call "stepped" [.tup [sD "first",br c,I],aA t]=some (aA (t.take c),true):=by
 refine kz B n rfl (skW (by decide +kernel) fX (skW (by decide +kernel) fX (skW (by decide +kernel) fX (skW (by decide +kernel) fX (skW (by decide +kernel) fX (aK (aw (nJ (x:=aA t) (u:=.none) (v:=br c) (ae (aa tQ)) (eZ _ _) (au (x:=.tup [sD "first",br c,I]) (y:=.int 1) (ae (aa af)) (ag _ _ _) rfl) ?_) rfl rfl) rfl))))))
 have e:bnd (br c) (t.map D.tup).length=some c:=by
  show (if (0:Int)≤(c:Int) then some (c:Int).toNat else none)=_
  rw[if_pos (Int.natCast_nonneg c)];rfl
 show ((bnd D.none 0).bind fun a=>(bnd (br c) (t.map D.tup).length).map fun b=>D.list (((t.map D.tup).take b).drop a))=_
 rw[e]
 show some (D.list (((t.map D.tup).take c).drop 0))=_
 rw[List.drop_zero,← List.map_take];rfl
theorem oQ:∀ {T:Tbs} {nm:Str} {t:Tab},T.lookup nm=some t→pJ (T.map fun p=>D.str p.1) (T.map fun p=>aA p.2) (.str nm)=some (aA t)∧((T.map fun p=>D.str p.1).any fun x=>aR x (.str nm))=true
 | [],_,_,h=>nomatch h
 | p::T,nm,t,h=>by
  rw[List.lookup_cons] at h
  rw[List.map_cons,List.map_cons,lW,List.any_cons]
  show (if (p.1 == nm)=true then _ else _)=_∧((p.1 == nm)||_)=true
  cases e:nm == p.1 with
  | true=>
   rw[e] at h
   have e':=eq_of_beq e
   rw[e',beq_self_eq_true,if_pos rfl]
   exact⟨congrArg some (congrArg aA (Option.some.inj h)),rfl⟩
  | false=>
   rw[e] at h
   have e':(p.1 == nm)=false:=beq_false_of_ne fun q=>by rw[q,beq_self_eq_true] at e;cases e
   rw[e',if_neg Bool.false_ne_true]
   exact oQ h
theorem oP(T:Tbs)(nm:Str):dX (.str nm) (T.map fun p=>D.str p.1)=true:=by
 unfold dX
 rw[show (T.map fun p=>D.str p.1).all D.isCell=true from List.all_eq_true.mpr fun d hd=>(List.mem_map.mp hd).elim fun p z=>z.2▸rfl];rfl
theorem tb_sub{T:Tbs}{nm:Str}{t:Tab}(h:T.lookup nm=some t):a9 T.d (.str nm)=some (aA t):=(if_pos (oP T nm)).trans (oQ h).1
theorem ans_table(B:BA P)(hX:X.glob "STEPS"=some (.tup jg))(n:Nat){T:Tbs}{nm:Str}{t:Tab}(h:T.lookup nm=some t):(al P X (n+1)).call "answer" [.tup [sD "table",.str nm],T.d]=some (aA t,true):=by
 have g:=oQ h
 have hs:a9 T.d (.str nm)=some (aA t):=(if_pos (oP T nm)).trans g.1
 have hm:eG .NotIn (.str nm) T.d=some (.bool false):=by
  show (mz (.str nm) T.d).map _=_
  rw[show mz (.str nm) T.d=some true from (if_pos (oP T nm)).trans (congrArg some g.2)];rfl
 have hh:Has [("query",(false,.tup [sD "table",.str nm])),("tables",(false,T.d)),("word",(false,sD "table"))] "word" (sD "table"):=ai rfl (ai rfl af)
 exact lY B hX n (by decide) rfl (kO hh (cH (k:=false) (x:=.bool false) (aD (x:=.str nm) (au (x:=.tup [sD "table",.str nm]) (y:=.int 1) (ae (aa af)) (ag _ _ _) rfl) (ae (aa (ai rfl af))) hm) rfl nofun fun _=>aK (aw (pT (au (ae (aa (ai rfl af))) (au (x:=.tup [sD "table",.str nm]) (y:=.int 1) (ae (aa af)) (ag _ _ _) rfl) hs) rfl) rfl rfl) rfl))
theorem cr(B:BA P)(hX:X.glob "STEPS"=some (.tup jg)){W R:Wd}{T:Tbs}(hT:tJ W R T):∀ (q:Q) (r n:Nat),q.ok W→q.rb R r→r≤60→q.nar W 5000→q.dp≤n→(al P X (n+5)).call "answer" [q.d,T.d]=some (aA (q.ans T),true)
 | .table nm,r,n,⟨k,hk⟩,_,_,_,_=>by
  obtain⟨t,e,_⟩:=hT nm k hk
  have:=ans_table B hX (n+4) (P:=P) (X:=X) e
  show _=some (aA ((T.lookup nm).getD []),true)
  rw[e];exact this
 | .sieve cs q,r,n+1,h,hr,h6,hn,hd=>have a:=bD hT q r h.1 hr;gy B hX _ (w:="sieve") (by decide) rfl rfl (cr B hX hT q r n h.1 hr h6 hn (Nat.le_of_succ_le_succ hd)) (st_sieve B n a.1 (Nat.le_trans a.2 (Nat.le_trans h6 (by decide))) h.2.1)
 | .pick ps q,r,n+1,h,hr,h6,hn,hd=>have a:=bD hT q r h.1 hr;gy B hX _ (w:="pick") (by decide) rfl rfl (cr B hX hT q r n h.1 hr h6 hn (Nat.le_of_succ_le_succ hd)) (st_pick B (n+3) a.1 (Nat.le_trans a.2 (Nat.le_trans h6 (by decide))) h.2.1 (Nat.le_trans h.2.2 (by decide)))
 | .group ps ss q,r,n+1,h,hr,h6,hn,hd=>have a:=bD hT q r h.1 hr;gy B hX _ (w:="group") (by decide) rfl rfl (cr B hX hT q r n h.1 hr h6 hn.1 (Nat.le_of_succ_le_succ hd)) (st_group B (n+4) (grouped_eq B (n+1) a.1 (Nat.le_trans a.2 h6) h.2.1 h.2.2.2.1 h.2.2.1 h.2.2.2.2))
 | .order ks q,r,n+1,h,hr,h6,hn,hd=>have a:=bD hT q r h.1 hr;gy B hX _ (w:="order") (by decide) rfl rfl (cr B hX hT q r n h.1 hr h6 hn (Nat.le_of_succ_le_succ hd)) (st_order B (n+4) (ordered_eq B (n+2) a.1 (Nat.lt_of_le_of_lt a.2 (Nat.lt_of_le_of_lt h6 (by decide))) h.2.1))
 | .once q,r,n+1,h,hr,h6,hn,hd=>have a:=bD hT q r h hr;gy B hX _ (w:="once") (by decide) rfl rfl (cr B hX hT q r n h hr h6 hn (Nat.le_of_succ_le_succ hd)) (st_once B (n+4) (once_eq B (n+3) a.1 (Nat.lt_of_le_of_lt a.2 (Nat.lt_of_le_of_lt h6 (by decide)))))
 | .first c q,r,n+1,h,⟨r',hr,h6',_⟩,h6,hn,hd=>gy B hX _ (w:="first") (by decide) rfl rfl (cr B hX hT q r' n h hr h6' hn (Nat.le_of_succ_le_succ hd)) (st_first B (n+4))
 | .join a b prs,r,n+1,h,⟨r1,r2,h1,h2,l1,l2,_⟩,h6,hn,hd=>have i:=bD hT a r1 h.1 h1;have j:=bD hT b r2 h.2.1 h2;ans_join B hX _ (cr B hX hT a r1 n h.1 h1 l1 hn.1 (Nat.le_trans (Nat.le_max_left _ _) (Nat.le_of_succ_le_succ hd))) (cr B hX hT b r2 n h.2.1 h2 l2 hn.2.1 (Nat.le_trans (Nat.le_max_right _ _) (Nat.le_of_succ_le_succ hd))) (met_eq B (n+2) i.1 j.1 (Nat.le_trans i.2 l1) (Nat.le_trans j.2 l2) (Nat.le_trans hn.2.2 (by decide)) h.2.2.1)
 | .both a b,r,n+1,h,⟨r1,r2,h1,h2,l1,l2,_⟩,h6,hn,hd=>have i:=bD hT a r1 h.1 h1;have j:=bD hT b r2 h.2.1 h2;ans_both B hX _ (Nat.le_trans (Nat.add_le_add (Nat.le_trans i.2 l1) (Nat.le_trans j.2 l2)) (by decide)) (cr B hX hT a r1 n h.1 h1 l1 hn.1 (Nat.le_trans (Nat.le_max_left _ _) (Nat.le_of_succ_le_succ hd))) (cr B hX hT b r2 n h.2.1 h2 l2 hn.2 (Nat.le_trans (Nat.le_max_right _ _) (Nat.le_of_succ_le_succ hd)))
end

set_option maxRecDepth 100000
noncomputable def fF:Fn:=⟨["_law_word","_law_one","_law_other"],[
  .ite (.bop .Or [.cmp .Eq (.var "_law_word") (.str "same"),.cmp .Eq (.var "_law_word") (.str "unlike")]) [.ret (.cmp .Eq (.call "_law_alike" [.var "_law_one",.var "_law_other"]) (.cmp .Eq (.var "_law_word") (.str "same")))] [],
  .ite (.bop .Or [.cmp .Eq (.var "_law_word") (.str "before"),.cmp .Eq (.var "_law_word") (.str "from")]) [.ret (.cmp .Eq (.call "_law_before" [.var "_law_one",.var "_law_other"]) (.cmp .Eq (.var "_law_word") (.str "before")))] [],
  .ret (.cmp .Eq (.call "_law_before" [.var "_law_other",.var "_law_one"]) (.cmp .Eq (.var "_law_word") (.str "behind")))]⟩
noncomputable def gN:Fn:=⟨["_law_clause","_law_row"],[
  .for_ "_law_test" (.var "_law_clause") [.assign "_law_other" (.sub (.var "_law_test") (.int 3)),.ite (.cmp .Eq (.sub (.var "_law_test") (.int 2)) (.str "col")) [.assign "_law_other" (.sub (.var "_law_row") (.sub (.var "_law_test") (.int 3)))] [],.ite (.call "_law_stands" [.sub (.var "_law_test") (.int 0),.sub (.var "_law_row") (.sub (.var "_law_test") (.int 1)),.var "_law_other"]) [.ret (.bool true)] []],
  .ret (.bool false)]⟩
noncomputable def fI:Fn:=⟨["_law_first","_law_second","_law_pairs"],[
  .assign "_law_found" (.lst []),
  .for_ "_law_one" (.var "_law_first") [.for_ "_law_other" (.var "_law_second") [.ite (.not (.comp (.var "_law_pair") "_law_pair" (.var "_law_pairs") [.not (.call "_law_alike" [.sub (.var "_law_one") (.sub (.var "_law_pair") (.int 0)),.sub (.var "_law_other") (.sub (.var "_law_pair") (.int 1))])])) [.append "_law_found" (.bin .Add (.var "_law_one") (.var "_law_other"))] []]],
  .ret (.var "_law_found")]⟩
noncomputable def g9:Fn:=⟨["_law_one","_law_other","_law_places"],[
  .ret (.cmp .Eq (.comp (.sub (.var "_law_one") (.var "_law_place")) "_law_place" (.var "_law_places") []) (.comp (.sub (.var "_law_other") (.var "_law_place")) "_law_place" (.var "_law_places") []))]⟩
noncomputable def iz:Fn:=⟨["_law_word","_law_cells"],[
  .ite (.cmp .Eq (.var "_law_word") (.str "count")) [.ret (.blt "len" [.var "_law_cells"])] [],
  .ite (.cmp .Eq (.var "_law_word") (.str "sum")) [.ret (.blt "sum" [.comp (.var "_law_cell") "_law_cell" (.var "_law_cells") [.not (.isi (.var "_law_cell") "str")]])] [],
  .for_ "_law_cell" (.var "_law_cells") [.ite (.bop .And [.cmp .Eq (.var "_law_word") (.str "least"),.not (.comp (.var "_law_other") "_law_other" (.var "_law_cells") [.call "_law_before" [.var "_law_other",.var "_law_cell"]])]) [.ret (.var "_law_cell")] [],.ite (.bop .And [.cmp .Eq (.var "_law_word") (.str "most"),.not (.comp (.var "_law_other") "_law_other" (.var "_law_cells") [.call "_law_before" [.var "_law_cell",.var "_law_other"]])]) [.ret (.var "_law_cell")] []],
  .ret (.none)]⟩
noncomputable def eX:Fn:=⟨["_law_rows","_law_places","_law_sums"],[
  .assign "_law_found" (.lst []),
  .for_ "_law_k" (.blt "range" [.blt "len" [.var "_law_rows"]]) [.ite (.not (.comp (.var "_law_one") "_law_one" (.sl (.var "_law_rows") .none (.var "_law_k")) [.call "_law_row_like" [.var "_law_one",.sub (.var "_law_rows") (.var "_law_k"),.var "_law_places"]])) [.assign "_law_group" (.comp (.var "_law_one") "_law_one" (.var "_law_rows") [.call "_law_row_like" [.var "_law_one",.sub (.var "_law_rows") (.var "_law_k"),.var "_law_places"]]),.assign "_law_head" (.comp (.sub (.sub (.var "_law_rows") (.var "_law_k")) (.var "_law_place")) "_law_place" (.var "_law_places") []),.assign "_law_more" (.comp (.call "_law_told" [.sub (.var "_law_pair") (.int 0),.comp (.sub (.var "_law_one") (.sub (.var "_law_pair") (.int 1))) "_law_one" (.var "_law_group") []]) "_law_pair" (.var "_law_sums") []),.append "_law_found" (.blt "tuple" [.bin .Add (.var "_law_head") (.var "_law_more")])] []],
  .ret (.var "_law_found")]⟩
noncomputable def gP:Fn:=⟨["_law_one","_law_other","_law_keys"],[
  .for_ "_law_key" (.var "_law_keys") [.ite (.not (.call "_law_alike" [.sub (.var "_law_one") (.sub (.var "_law_key") (.int 0)),.sub (.var "_law_other") (.sub (.var "_law_key") (.int 0))])) [.ite (.sub (.var "_law_key") (.int 1)) [.ret (.call "_law_before" [.sub (.var "_law_other") (.sub (.var "_law_key") (.int 0)),.sub (.var "_law_one") (.sub (.var "_law_key") (.int 0))])] [],.ret (.call "_law_before" [.sub (.var "_law_one") (.sub (.var "_law_key") (.int 0)),.sub (.var "_law_other") (.sub (.var "_law_key") (.int 0))])] []],
  .ret (.bool false)]⟩
noncomputable def eW:Fn:=⟨["_law_rows","_law_keys"],[
  .assign "_law_left" (.lcp (.var "_law_rows")),
  .assign "_law_found" (.lst []),
  .while_ (.var "_law_left") [.assign "_law_best" (.int 0),.for_ "_law_k" (.blt "range" [.int 1,.blt "len" [.var "_law_left"]]) [.ite (.call "_law_ahead" [.sub (.var "_law_left") (.var "_law_k"),.sub (.var "_law_left") (.var "_law_best"),.var "_law_keys"]) [.assign "_law_best" (.var "_law_k")] []],.append "_law_found" (.sub (.var "_law_left") (.var "_law_best")),.assign "_law_left" (.bin .Add (.sl (.var "_law_left") .none (.var "_law_best")) (.sl (.var "_law_left") (.bin .Add (.var "_law_best") (.int 1)) .none))],
  .ret (.var "_law_found")]⟩
noncomputable def kg:Fn:=⟨["_law_query"],[
  .ret (.sub (.var "_law_query") (.inn (.sub (.var "_law_query") (.int 0))))]⟩
noncomputable def iI:Fn:=⟨["_law_query","_law_rows"],[
  .ite (.cmp .Eq (.sub (.var "_law_query") (.int 0)) (.str "sieve")) [.ret (.comp (.var "_law_row") "_law_row" (.var "_law_rows") [.not (.comp (.var "_law_one") "_law_one" (.sub (.var "_law_query") (.int 1)) [.not (.call "_law_holds" [.var "_law_one",.var "_law_row"])])])] [],
  .ite (.cmp .Eq (.sub (.var "_law_query") (.int 0)) (.str "pick")) [.ret (.comp (.blt "tuple" [.comp (.sub (.var "_law_row") (.var "_law_place")) "_law_place" (.sub (.var "_law_query") (.int 1)) []]) "_law_row" (.var "_law_rows") [])] [],
  .ite (.cmp .Eq (.sub (.var "_law_query") (.int 0)) (.str "group")) [.ret (.call "_law_grouped" [.var "_law_rows",.sub (.var "_law_query") (.int 1),.sub (.var "_law_query") (.int 2)])] [],
  .ite (.cmp .Eq (.sub (.var "_law_query") (.int 0)) (.str "order")) [.ret (.call "_law_ordered" [.var "_law_rows",.sub (.var "_law_query") (.int 1)])] [],
  .ite (.cmp .Eq (.sub (.var "_law_query") (.int 0)) (.str "first")) [.ret (.sl (.var "_law_rows") .none (.sub (.var "_law_query") (.int 1)))] [],
  .assign "_law_found" (.lst []),
  .for_ "_law_row" (.var "_law_rows") [.ite (.cmp .NotIn (.var "_law_row") (.var "_law_found")) [.append "_law_found" (.var "_law_row")] []],
  .ret (.var "_law_found")]⟩
noncomputable def cG:Fn:=⟨["_law_query","_law_tables_here"],[
  .ite (.cmp .Eq (.sub (.var "_law_query") (.int 0)) (.str "table")) [.ret (.sub (.var "_law_tables_here") (.sub (.var "_law_query") (.int 1)))] [],
  .ite (.cmp .Eq (.sub (.var "_law_query") (.int 0)) (.str "join")) [.ret (.call "_law_joined" [.call "_law_answer" [.sub (.var "_law_query") (.int 1),.var "_law_tables_here"],.call "_law_answer" [.sub (.var "_law_query") (.int 2),.var "_law_tables_here"],.sub (.var "_law_query") (.int 3)])] [],
  .ite (.cmp .Eq (.sub (.var "_law_query") (.int 0)) (.str "both")) [.ret (.bin .Add (.call "_law_answer" [.sub (.var "_law_query") (.int 1),.var "_law_tables_here"]) (.call "_law_answer" [.sub (.var "_law_query") (.int 2),.var "_law_tables_here"]))] [],
  .ret (.call "_law_done" [.var "_law_query",.call "_law_answer" [.call "_law_inner" [.var "_law_query"],.var "_law_tables_here"]])]⟩
noncomputable def eY:Fn:=⟨["_law_found","_law_due"],[
  .ite (.bop .Or [.isi (.var "_law_due") "str",.isi (.var "_law_found") "bool"]) [.ret (.bop .And [.isi (.var "_law_found") "str",.isi (.var "_law_due") "str",.cmp .Eq (.var "_law_found") (.var "_law_due")])] [],
  .ret (.bop .And [.isi (.var "_law_found") "int",.cmp .Eq (.var "_law_found") (.var "_law_due")])]⟩
noncomputable def fG:Fn:=⟨["_law_found","_law_due"],[
  .ite (.bop .Or [.not (.isi (.var "_law_found") "tuple"),.cmp .NotEq (.blt "len" [.var "_law_found"]) (.blt "len" [.var "_law_due"])]) [.ret (.bool false)] [],
  .ret (.not (.comp (.var "_law_k") "_law_k" (.blt "range" [.blt "len" [.var "_law_due"]]) [.not (.call "_law_cell_is" [.sub (.var "_law_found") (.var "_law_k"),.sub (.var "_law_due") (.var "_law_k")])]))]⟩
noncomputable def eF:Fn:=⟨["_law_found","_law_due"],[
  .ite (.bop .Or [.not (.isi (.var "_law_found") "list"),.cmp .NotEq (.blt "len" [.var "_law_found"]) (.blt "len" [.var "_law_due"])]) [.ret (.bool false)] [],
  .ret (.not (.comp (.var "_law_k") "_law_k" (.blt "range" [.blt "len" [.var "_law_due"]]) [.not (.call "_law_row_is" [.sub (.var "_law_found") (.var "_law_k"),.sub (.var "_law_due") (.var "_law_k")])]))]⟩
structure BL(P:List (String×Fn)):Prop where
 alike:P.lookup "_law_alike"=some gO
 before:P.lookup "_law_before"=some fJ
 stands:P.lookup "_law_stands"=some fF
 holds:P.lookup "_law_holds"=some gN
 joined:P.lookup "_law_joined"=some fI
 rowLike:P.lookup "_law_row_like"=some g9
 told:P.lookup "_law_told"=some iz
 grouped:P.lookup "_law_grouped"=some eX
 ahead:P.lookup "_law_ahead"=some gP
 ordered:P.lookup "_law_ordered"=some eW
 inner:P.lookup "_law_inner"=some kg
 done:P.lookup "_law_done"=some iI
 answer:P.lookup "_law_answer"=some cG
 cellIs:P.lookup "_law_cell_is"=some eY
 rowIs:P.lookup "_law_row_is"=some fG
 rowsAre:P.lookup "_law_rows_are"=some eF
theorem not_any_filter{α β:Type}(p:α→Bool)(g:α→β)(l:List α):(!(!((l.filter p).map g).isEmpty))=!l.any p:=by
 induction l with
 | nil=>rfl
 | cons x l ih=>
  rw[List.any_cons]
  cases h:p x with
  | true=>rw[List.filter_cons_of_pos h];rfl
  | false=>rw[List.filter_cons_of_neg (by rw[h];exact Bool.false_ne_true),Bool.false_or];exact ih
section
variable {α:Type} {cf:CF} {body:List MS} {z:String} {g:α→D} {ρ:List (String×D)}
theorem iU{p:α→Bool}{l:List α}{src c:ME}{d:D}(hs:evE cf ρ src=some d)(hi:d.items=some (l.map g))(hl:l.length≤big)(hc:∀ x∈l,evE cf ((z,g x)::ρ) c=some (.bool (p x))):evE cf ρ (.not (.comp (.var z) z src [c]))=some (.bool (!l.any p)):=by
 rw[← not_any_filter p g l]
 exact fc (jq hs hi (by rw[List.length_map];exact hl) (iM l fun x hx=>ja (hc x hx) rfl fun _=>ae bw)) rfl
theorem rH{p:α→Bool}{l:List α}{src c:ME}{d:D}(hs:evE cf ρ src=some d)(hi:d.items=some (l.map g))(hl:l.length≤big)(hc:∀ x∈l,evE cf ((z,g x)::ρ) c=some (.bool (p x))):evE cf ρ (.comp (.var z) z src [c])=some (.list ((l.filter p).map g)):=
 jq hs hi (by rw[List.length_map];exact hl) (iM l fun x hx=>ja (hc x hx) rfl fun _=>ae bw)
theorem uP(p:α→Bool)(f:α→D)(I:St→Prop):∀ (l:List α),(∀ x∈l,∀ σ,I σ→Out cf body (aC σ z (false,g x)) fun fl σ'=>if p x=true then fl=.ret false (f x) else fl=.next∧I σ') →
  ∀ σ,I σ→∃ σ',(∀ x,l.find? p=some x→cj (cC cf body z) (l.map g) σ=some (.ret false (f x),σ'))∧(l.find? p=none→I σ'∧cj (cC cf body z) (l.map g) σ=some (.next,σ'))
 | [],_,σ,hσ=>⟨σ,nofun,fun _=>⟨hσ,rfl⟩⟩
 | x::r,h,σ,hσ=>by
  obtain⟨fl,σ₁,q,e⟩:=h x (.head _) σ hσ
  rw[List.find?_cons,List.map_cons,cF,e]
  cases hp:p x with
  | true=>
   rw[if_pos hp] at q
   subst q
   exact⟨σ₁,fun y hy=>Option.some.inj hy▸rfl,nofun⟩
  | false=>
   rw[if_neg (by rw[hp];exact Bool.false_ne_true)] at q
   obtain⟨rfl,i1⟩:=q
   exact uP p f I r (fun i hi=>h i (.tail _ hi)) σ₁ i1
end
section
variable {P:List (String×Fn)} {X:CF}
theorem pn(B:BL P)(n:Nat){a b:D}(ha:a.isCell=true)(hb:b.isCell=true):(al P X (n+1)).call "_law_alike" [a,b]=some (.bool (d9 a b),false):=by
 refine az B.alike rfl ?_
 cases a <;> first | (cases ha;done) | (cases b <;> first | (cases hb;done) | rfl)
theorem gI(B:BL P)(n:Nat){a b:D}(ha:a.isCell=true)(hb:b.isCell=true):(al P X (n+1)).call "_law_before" [a,b]=some (.bool (aV a b),false):=by
 refine az B.before rfl ?_
 cases a <;> first | (cases ha;done) | (cases b <;> first | (cases hb;done) | rfl)
noncomputable def se(w:String)(a b:D):Bool:=if (eqW w "same"||eqW w "unlike")=true then d9 a b == eqW w "same" else if (eqW w "before"||eqW w "from")=true then aV a b == eqW w "before" else aV b a == eqW w "behind"
theorem bq_t(x:Bool):(x == true)=x:=by cases x <;> rfl
theorem bq_f(x:Bool):(x == false)=!x:=by cases x <;> rfl
theorem stands_word{w:String}(hw:w∈gV)(a b:D):se w a b=k9 w a b:=by
 rcases pS hw with rfl | rfl | rfl | rfl | rfl | rfl
 ·exact bq_t _
 ·exact bq_f _
 ·exact bq_t _
 ·exact bq_f _
 ·exact bq_t _
 ·exact bq_f _
theorem lstands(B:BL P)(n:Nat){w:String}(hw:w∈gV){a b:D}(ha:a.isCell=true)(hb:b.isCell=true):(al P X (n+2)).call "_law_stands" [sD w,a,b]=some (.bool (k9 w a b),false):=by
 rw[← stands_word hw]
 refine az B.stands rfl ?_
 show Run _ fF.body [("_law_word",(false,sD w)),("_law_one",(false,a)),("_law_other",(false,b))] _ _
 have hw:∀ x:String,evE (al P X (n+1)) (vis [("_law_word",(false,sD w)),("_law_one",(false,a)),("_law_other",(false,b))]) (.cmp .Eq (.var "_law_word") (.str x))=some (.bool (eqW w x)):=fun x=>aD (ae (aa af)) (aT _ _ _) rfl
 unfold se
 refine cH (hZ (hw _) fun _=>bA (hw _)) rfl (fun q=>?_) fun q=>?_
 ·rw[if_pos q]
  exact aK (aw (aD (ax (ad (ae (aa (ai rfl af))) (ad (ae (aa (ai rfl (ai rfl af)))) (aj _ _))) (pn B n ha hb)) (hw _) rfl) rfl rfl) rfl
 rw[q,if_neg Bool.false_ne_true]
 refine cH (hZ (hw _) fun _=>bA (hw _)) rfl (fun q=>?_) fun q=>?_
 ·rw[if_pos q]
  exact aK (aw (aD (ax (ad (ae (aa (ai rfl af))) (ad (ae (aa (ai rfl (ai rfl af)))) (aj _ _))) (gI B n ha hb)) (hw _) rfl) rfl rfl) rfl
 ·rw[q,if_neg Bool.false_ne_true]
  exact aK (aw (aD (ax (ad (ae (aa (ai rfl (ai rfl af)))) (ad (ae (aa (ai rfl af))) (aj _ _))) (gI B n hb ha)) (hw _) rfl) rfl rfl) rfl
noncomputable abbrev pi:List MS:=[.assign "_law_other" (.sub (.var "_law_test") (.int 3)),.ite (.cmp .Eq (.sub (.var "_law_test") (.int 2)) (.str "col")) [.assign "_law_other" (.sub (.var "_law_row") (.sub (.var "_law_test") (.int 3)))] [],.ite (.call "_law_stands" [.sub (.var "_law_test") (.int 0),.sub (.var "_law_row") (.sub (.var "_law_test") (.int 1)),.var "_law_other"]) [.ret (.bool true)] []]
theorem lholds_turn(B:BL P)(n:Nat){m:Nat}{row:List D}(hr:bx m row){t:D}(ht:Tst m t){σ:St}(i1:Has σ "_law_row" (.tup row))(i2:Has σ "_law_test" t):Out (al P X (n+2)) pi σ fun fl σ'=>if tV row t=true then fl=.ret false (.bool true) else fl=.next∧Has σ' "_law_row" (.tup row):=by
 obtain⟨w,p,hw,hp,hc⟩:=ht
 have fin:∀ {kd:String} {o b:D} {σ:St},b.isCell=true→tV row (tst w p kd o)=k9 w (row.getD p .none) b→Has σ "_law_row" (.tup row)→Has σ "_law_test" (tst w p kd o)→Has σ "_law_other" b→Out (al P X (n+2)) (pi.drop 2) σ fun fl σ'=>if tV row (tst w p kd o)=true then fl=.ret false (.bool true) else fl=.next∧Has σ' "_law_row" (.tup row):=fun {kd o b σ} hb e j1 j2 j3=>by
  rw[e]
  exact cM (ax (ad (au (x:=tst w p kd o) (d:=sD w) (ae (aa j2)) (ag _ _ _) rfl) (ad (au (ae (aa j1)) (au (x:=tst w p kd o) (y:=.int 1) (ae (aa j2)) (ag _ _ _) rfl) (fM hr hp)) (ad (ae (aa j3)) (aj _ _)))) (lstands B n hw (cU hr hp) hb)) rfl (fun q=>qx (aw (iL _ _ _) rfl rfl) rfl (pj q rfl)) fun q=>bJ (pk q ⟨rfl,j1⟩)
 rcases hc with⟨q,hq,rfl⟩ | ⟨o,ho,rfl⟩
 ·refine aN (bc (d:=.int q) (fr:=false) (aw (au (x:=tst w p "col" (.int q)) (ae (aa i2)) (ag _ _ _) rfl) rfl rfl) rfl) (cM (k:=true) (x:=.bool true) (aD (au (x:=tst w p "col" (.int q)) (ae (aa (ak rfl i2))) (ag _ _ _) rfl) (aT _ _ _) rfl) rfl (fun _=>?_) nofun)
  exact aN (bc (d:=row.getD q .none) (fr:=false) (aw (au (ae (aa (ak rfl i1))) (au (x:=tst w p "col" (.int q)) (ae (aa (ak rfl i2))) (ag _ _ _) rfl) (fM hr hq)) rfl rfl) (cU hr hq)) (fin (cU hr hq) (oR row hw p "col" (.int q)) (ak rfl (ak rfl i1)) (ak rfl (ak rfl i2)) aB)
 ·refine aN (bc (d:=o) (fr:=false) (aw (au (x:=tst w p "is" o) (ae (aa i2)) (ag _ _ _) rfl) rfl rfl) ho.cell) (cM (k:=false) (x:=.bool false) (aD (au (x:=tst w p "is" o) (ae (aa (ak rfl i2))) (ag _ _ _) rfl) (aT _ _ _) rfl) rfl nofun fun _=>?_)
  exact fin ho.cell (oR row hw p "is" o) (ak rfl i1) (ak rfl i2) aB
theorem lholds(B:BL P)(n:Nat){m:Nat}{row:List D}(hr:bx m row){ts:List D}(ht:∀ t∈ts,Tst m t):(al P X (n+3)).call "_law_holds" [.tup ts,.tup row]=some (.bool (ts.any (tV row)),false):=by
 refine az B.holds rfl ?_
 show Run _ gN.body [("_law_clause",(false,.tup ts)),("_law_row",(false,.tup row))] _ _
 obtain⟨σ',k1,k2⟩:=kI (cf:=al P X (n+2)) (body:=pi) (z:="_law_test") (tV row) (fun σ=>Has σ "_law_row" (.tup row)) false (.bool true) ts (fun t hts σ hσ=>lholds_turn B n hr (ht t hts) (ak rfl hσ) aB) _ (b9 (ns:=["_law_clause"]) (σ:=[("_law_clause",(false,.tup ts)),("_law_row",(false,.tup row))]) (ai rfl af))
 cases hb:ts.any (tV row) with
 | true=>exact kC (ae (aa af)) rfl (k1 hb)
 | false=>exact eH (ae (aa af)) rfl (k2 hb).2 (aK (aw (iL _ _ _) rfl rfl) rfl)
end

set_option maxRecDepth 100000
section
variable {P:List (String×Fn)} {X:CF}
theorem lk{α:Type}(q:α→Bool)(l:List α):(!l.any fun x=>!q x)=l.all q:=by
 rw[← List.not_all_eq_any_not,Bool.not_not]
noncomputable abbrev rR:List MS:=[.ite (.not (.comp (.var "_law_pair") "_law_pair" (.var "_law_pairs") [.not (.call "_law_alike" [.sub (.var "_law_one") (.sub (.var "_law_pair") (.int 0)),.sub (.var "_law_other") (.sub (.var "_law_pair") (.int 1))])])) [.append "_law_found" (.bin .Add (.var "_law_one") (.var "_law_other"))] []]
structure tM(t2:Tab)(prs:List (Nat×Nat))(acc:Tab)(σ:St):Prop where
 s:Has σ "_law_second" (aA t2)
 p:Has σ "_law_pairs" (.tup (prs.map prT))
 f:dA σ "_law_found" (aA acc)
theorem join_in(B:BL P)(n:Nat){m k:Nat}{a:List D}{t2 acc:Tab}(ha:bx m a)(h2:aO k t2)(hw:m+k≤big){prs:List (Nat×Nat)}(hpl:prs.length≤big)(hp:∀ p∈prs,p.1<m∧p.2<k)(hl:acc.length+t2.length≤big){σ:St}(h1:Has σ "_law_one" (.tup a))(I:tM t2 prs acc σ) :
  ∃ σ',tM t2 prs (acc++(t2.filter (cn prs a)).map (a++·)) σ'∧cj (cC (al P X (n+1)) rR "_law_other") (t2.map .tup) σ=some (.next,σ'):=by
 obtain⟨σ',I',e⟩:=fV (cf:=al P X (n+1)) (body:=rR) (z:="_law_other") (g:=D.tup) (fun c σ=>Has σ "_law_one" (.tup a)∧tM t2 prs (acc++(c.filter (cn prs a)).map (a++·)) σ) t2 [] σ ⟨h1,by rw[List.filter_nil,List.map_nil,List.append_nil];exact I⟩ (by
  rintro c b σ hb hc ⟨i1,i2,i3,i4⟩
  refine cM (k:=cn prs a b) (x:=.bool (cn prs a b)) ?_ rfl (fun h=>?_) fun h=>?_
  ·unfold cn
   rw[← lk]
   exact iU (g:=prT) (l:=prs) (ae (aa (ak rfl i3))) rfl hpl fun p hps=>fc (ax (ad (au (ae (aX rfl (aa (ak rfl i1)))) (au (x:=prT p) (ae bw) (ag _ _ _) rfl) (fM ha (hp p hps).1)) (ad (au (ae (aX rfl (aa aB))) (au (x:=prT p) (ae bw) (ag _ _ _) rfl) (fM (h2 b hb) (hp p hps).2)) (aj _ _))) (pn B n (cU ha (hp p hps).1) (cU (h2 b hb) (hp p hps).2))) rfl
  ·refine aN (cQ (d:=.tup (a++b)) (ds:=((acc++(c.filter (cn prs a)).map (a++·)).map .tup)) (ao (ae (aa (ak rfl i1))) (ae (aa aB)) (if_pos (by rw[ha.1,(h2 b hb).1];exact hw))) (eQ rfl (cO rfl i4)) ?_) (bJ ⟨rfl,ak rfl (ay (ak rfl i1)),ak rfl (ay (ak rfl i2)),ak rfl (ay (ak rfl i3)),?_⟩)
   ·rw[List.length_map,List.length_append,List.length_map]
    exact Nat.lt_of_lt_of_le (Nat.add_lt_add_left (Nat.lt_of_le_of_lt (List.length_filter_le _ _) (Nat.zero_add t2.length▸hc)) _) hl
   ·rw[show acc++((c++[b]).filter (cn prs a)).map (a++·)=acc++(c.filter (cn prs a)).map (a++·)++[a++b] from by rw[List.filter_append,show[b].filter (cn prs a)=[b] from List.filter_cons_of_pos h,List.map_append,List.append_assoc];rfl,dD]
    exact et
  ·refine bJ ⟨rfl,ak rfl i1,ak rfl i2,ak rfl i3,?_⟩
   rw[List.filter_append,show[b].filter (cn prs a)=[] from List.filter_cons_of_neg (by rw[h];nofun),List.append_nil]
   exact cO rfl i4)
 exact⟨σ',I'.2,e⟩
theorem ljoined(B:BL P)(n:Nat){m k:Nat}{t1 t2:Tab}(h1:aO m t1)(h2:aO k t2)(l1:t1.length≤60)(l2:t2.length≤60)(hw:m+k≤big){prs:List (Nat×Nat)}(hpl:prs.length≤big)(hp:∀ p∈prs,p.1<m∧p.2<k) :
  (al P X (n+2)).call "_law_joined" [aA t1,aA t2,.tup (prs.map prT)]=some (aA (kH prs t1 t2),true):=by
 refine az B.joined rfl ?_
 show Run _ fI.body [("_law_first",(false,aA t1)),("_law_second",(false,aA t2)),("_law_pairs",(false,.tup (prs.map prT)))] _ _
 refine aL (av (d:=.list []) (fr:=true) rfl) ?_
 obtain⟨σ',I',e⟩:=fV (cf:=al P X (n+1)) (body:=[.for_ "_law_other" (.var "_law_second") rR]) (z:="_law_one") (g:=D.tup) (fun b σ=>tM t2 prs (kH prs b t2) σ) t1 [] (freeze ["_law_first"] (aC [("_law_first",(false,aA t1)),("_law_second",(false,aA t2)),("_law_pairs",(false,.tup (prs.map prT)))] "_law_found" (true,.list []))) ⟨b9 (ak rfl (ai rfl af)),b9 (ak rfl (ai rfl (ai rfl af))),jK rfl et⟩ (by
  rintro b a σ ha hb ⟨i2,i3,i4⟩
  obtain⟨σ2,J,e⟩:=join_in (X:=X) (σ:=freeze ["_law_second"] (aC σ "_law_one" (false,.tup a))) B n (h1 a ha) h2 hw hpl hp (acc:=kH prs b t2) (Nat.le_trans (Nat.add_le_add (Nat.le_trans (mw prs b t2) (Nat.mul_le_mul (Nat.le_trans (Nat.le_of_lt (Nat.zero_add t1.length▸hb)) l1) l2)) l2) (by decide)) (b9 aB) ⟨b9 (ak rfl i2),b9 (ak rfl i3),jK rfl (cO rfl i4)⟩
  refine sy (ae (aa (ak rfl i2))) rfl e (bJ ⟨rfl,?_⟩)
  rw[ol];exact J)
 exact eH (ae (aa (ak rfl af))) rfl e (eB I'.f)
theorem eqS_cell{a b:D}(ha:a.isCell=true)(hb:b.isCell=true):eqS a b=some (bv a b):=
 aP (C:=fun a=>eqS a b=some (bv a b)) ha (fun i=>aP (C:=fun b=>eqS (.int i) b=some (bv (.int i) b)) hb (fun _=>rfl) fun _=>rfl) fun x=>aP (C:=fun b=>eqS (.str x) b=some (bv (.str x) b)) hb (fun _=>rfl) fun _=>rfl
theorem lz:∀ {a b:List D},a.length=b.length→(∀ d∈a,d.isCell=true)→(∀ d∈b,d.isCell=true)→fi a b=some (aE a b)
 | [],[],_,_,_=>rfl
 | x::a,y::b,hl,ha,hb=>by
  show (eqS x y).bind _=_
  rw[eqS_cell (ha x (.head _)) (hb y (.head _))]
  show (fi a b).map _=_
  rw[lz (Nat.succ.inj hl) (fun d hd=>ha d (.tail _ hd)) fun d hd=>hb d (.tail _ hd)];rfl
theorem llike(B:BL P)(n:Nat){m:Nat}{a b:List D}(ha:bx m a)(hb:bx m b){ps:List Nat}(hp:∀ p∈ps,p<m)(hl:ps.length≤big):(al P X (n+1)).call "_law_row_like" [.tup a,.tup b,.tup (ps.map br)]=some (.bool (eU ps a b),false):=by
 refine az B.rowLike rfl (aK (aw (aD (x:=.list (aS ps a)) (y:=.list (aS ps b)) (d:=.bool (eU ps a b)) (fw (g:=br) (l:=ps) (f:=fun p=>a.getD p .none) (ae (aa (ai rfl (ai rfl af)))) rfl hl fun p hps=>au (ae (aX rfl (aa af))) (ae bw) (fM ha (hp p hps))) (fw (g:=br) (l:=ps) (f:=fun p=>b.getD p .none) (ae (aa (ai rfl (ai rfl af)))) rfl hl fun p hps=>au (ae (aX rfl (aa (ai rfl af)))) (ae bw) (fM hb (hp p hps))) ?_) rfl rfl) rfl)
 show (if (aS ps a).length=(aS ps b).length then fi (aS ps a) (aS ps b) else some false).map D.bool=_
 have e:(aS ps a).length=(aS ps b).length:=(List.length_map ..).trans (List.length_map ..).symm
 rw[if_pos e,lz e (e9 ha hp).2 (e9 hb hp).2];rfl
theorem ltold(B:BL P)(n:Nat)(w:String){cs:List D}(h:∀ c∈cs,c.isCell=true)(hl:cs.length≤big):(al P X (n+2)).call "_law_told" [sD w,.list cs]=some (gJ w cs,false):=by
 refine az B.told rfl ?_
 show Run _ iz.body [("_law_word",(false,sD w)),("_law_cells",(false,.list cs))] _ _
 have hw:∀ {σ:St} (x:String),Has σ "_law_word" (sD w)→evE (al P X (n+1)) (vis σ) (.cmp .Eq (.var "_law_word") (.str x))=some (.bool (eqW w x)):=fun x i=>aD (ae (aa i)) (aT _ _ _) rfl
 unfold gJ
 refine cH (hw _ af) rfl (fun q=>?_) fun q=>?_
 ·rw[if_pos q]
  exact aK (aw (bS (ad (ae (aa (ai rfl af))) (aj _ _)) rfl) rfl rfl) rfl
 rw[q,if_neg Bool.false_ne_true]
 refine cH (hw _ af) rfl (fun q=>?_) fun q=>?_
 ·rw[if_pos q]
  have e:∀ l:List D,l=l.map id:=fun l=>(List.map_id l).symm
  refine aK (aw (bS (ad (rH (g:=fun d:D=>d) (l:=cs) (p:=fun c=>!cR c) (ae (aa (ai rfl af))) (by show some cs=_;rw[List.map_id']) hl fun c hc=>fc (il (ae bw) (pp (h c hc))) rfl) (aj _ _)) (d:=.int (rK cs)) ?_) rfl rfl) rfl
  rw[List.map_id']
  show (lD _).map D.int=_
  rw[ky h];rfl
 rw[q,if_neg Bool.false_ne_true]
 obtain⟨σ',k1,k2⟩:=uP (cf:=al P X (n+1)) (body:=[.ite (.bop .And [.cmp .Eq (.var "_law_word") (.str "least"),.not (.comp (.var "_law_other") "_law_other" (.var "_law_cells") [.call "_law_before" [.var "_law_other",.var "_law_cell"]])]) [.ret (.var "_law_cell")] [],.ite (.bop .And [.cmp .Eq (.var "_law_word") (.str "most"),.not (.comp (.var "_law_other") "_law_other" (.var "_law_cells") [.call "_law_before" [.var "_law_cell",.var "_law_other"]])]) [.ret (.var "_law_cell")] []]) (z:="_law_cell") (g:=fun d:D=>d) (lh w cs) (fun d=>d) (fun σ=>Has σ "_law_word" (sD w)∧Has σ "_law_cells" (.list cs)) cs (by
  rintro c hc σ ⟨i1,i2⟩
  have j1:=ak (y:="_law_cell") (v:=(false,c)) rfl i1
  have j2:=ak (y:="_law_cell") (v:=(false,c)) rfl i2
  have j3:(aC σ "_law_cell" (false,c)).lookup "_law_cell"=some (false,c):=by rw[aH,if_pos rfl]
  generalize aC σ "_law_cell" (false,c)=σ at *
  have nn:∀ {p:D→Bool} {e:ME},(∀ o∈cs,evE (al P X (n+1)) (("_law_other",o)::vis σ) e=some (.bool (p o)))→evE (al P X (n+1)) (vis σ) (.not (.comp (.var "_law_other") "_law_other" (.var "_law_cells") [e]))=some (.bool (!cs.any p)):=fun hp=>iU (g:=fun d:D=>d) (ae (aa j2)) (by show some cs=_;rw[List.map_id']) hl hp
  have n1:=nn (p:=fun o=>aV o c) (e:=.call "_law_before" [.var "_law_other",.var "_law_cell"]) fun o ho=>ax (ad (ae bw) (ad (ae (aX rfl (aa ⟨_,j3⟩))) (aj _ _))) (gI B n (h o ho) (h c hc))
  have n2:=nn (p:=fun o=>aV c o) (e:=.call "_law_before" [.var "_law_cell",.var "_law_other"]) fun o ho=>ax (ad (ae (aX rfl (aa ⟨_,j3⟩))) (ad (ae bw) (aj _ _))) (gI B n (h c hc) (h o ho))
  unfold lh
  refine cM (dC (hw _ j1) fun _=>bA n1) rfl (fun q=>?_) fun q=>?_
  ·rw[q];exact⟨_,_,rfl,nP (x_rx j3)⟩
  rw[q,Bool.false_or]
  exact cM (dC (hw _ j1) fun _=>bA n2) rfl (fun q=>by rw[q];exact⟨_,_,rfl,nP (x_rx j3)⟩) fun q=>bJ (pk q ⟨rfl,j1,j2⟩)) (freeze ["_law_cells"] [("_law_word",(false,sD w)),("_law_cells",(false,.list cs))]) ⟨b9 af,b9 (ai rfl af)⟩
 rw[List.map_id'] at k1 k2
 cases hb:cs.find? (lh w cs) with
 | some x=>exact kC (ae (aa (ai rfl af))) rfl (k1 x hb)
 | none=>exact eH (ae (aa (ai rfl af))) rfl (k2 hb).2 (aK (aw (eZ _ _) rfl rfl) rfl)
end

set_option maxRecDepth 100000
noncomputable def mG(ss:List (String×Nat))(q:List D×Tab):List D:=q.1++ss.map fun s=>gJ s.1 (col s.2 q.2)
theorem j4{α:Type}{g:α→D}{l:List α}{z:α}{k:Nat}(h:k<l.length):a9 (.list (l.map g)) (.int k)=some (g (l.getD k z)):=l9 (by rw[List.length_map];exact h) (by rw[List.getElem?_map,List.getD_eq_getElem?_getD,List.getElem?_eq_getElem h];rfl)
theorem tE(k n:Nat):bnd (.int (k:Int)) n=some k:=by
 show (if (0:Int)≤(k:Int) then some (k:Int).toNat else none)=_
 rw[if_pos (Int.natCast_nonneg k)];rfl
theorem kJ{l:List D}(k:Nat):slD (.list l) .none (.int k)=some (.list (l.take k)):=by
 show ((bnd D.none 0).bind fun a=>(bnd (.int k) l.length).map fun b=>D.list ((l.take b).drop a))=_
 have e:=tE k l.length
 rw[e];rfl
section
variable {P:List (String×Fn)} {X:CF}
structure GrI(t:Tab)(ps:List Nat)(ss:List (String×Nat))(acc:Tab)(σ:St):Prop where
 r:Has σ "_law_rows" (aA t)
 p:Has σ "_law_places" (.tup (ps.map br))
 s:Has σ "_law_sums" (.tup (ss.map dJ))
 f:dA σ "_law_found" (aA acc)
theorem GrI.set{t:Tab}{ps:List Nat}{ss:List (String×Nat)}{acc:Tab}{σ:St}(I:GrI t ps ss acc σ){x:String}{v:Bool×D}(h1:("_law_rows" == x)=false)(h2:("_law_places" == x)=false)(h3:("_law_sums" == x)=false)(h4:("_law_found" == x)=false):GrI t ps ss acc (aC σ x v):=⟨ak h1 I.r,ak h2 I.p,ak h3 I.s,cO h4 I.f⟩
theorem GrI.st{t:Tab}{ps:List Nat}{ss:List (String×Nat)}{acc:Tab}{σ:St}(I:GrI t ps ss acc σ){d:D}{ns:List String}(h:ns.contains "_law_found"=false):GrI t ps ss acc (settle d ns σ):=⟨ay I.r,ay I.p,ay I.s,eQ h I.f⟩
noncomputable abbrev lgrB:List MS:=[.ite (.not (.comp (.var "_law_one") "_law_one" (.sl (.var "_law_rows") .none (.var "_law_k")) [.call "_law_row_like" [.var "_law_one",.sub (.var "_law_rows") (.var "_law_k"),.var "_law_places"]])) [.assign "_law_group" (.comp (.var "_law_one") "_law_one" (.var "_law_rows") [.call "_law_row_like" [.var "_law_one",.sub (.var "_law_rows") (.var "_law_k"),.var "_law_places"]]),.assign "_law_head" (.comp (.sub (.sub (.var "_law_rows") (.var "_law_k")) (.var "_law_place")) "_law_place" (.var "_law_places") []),.assign "_law_more" (.comp (.call "_law_told" [.sub (.var "_law_pair") (.int 0),.comp (.sub (.var "_law_one") (.sub (.var "_law_pair") (.int 1))) "_law_one" (.var "_law_group") []]) "_law_pair" (.var "_law_sums") []),.append "_law_found" (.blt "tuple" [.bin .Add (.var "_law_head") (.var "_law_more")])] []]
theorem lgr_turn(B:BL P)(n:Nat){m:Nat}{t acc:Tab}(h:aO m t)(hl:t.length≤60)(ha:acc.length<60){ps:List Nat}(hp:∀ p∈ps,p<m)(hpl:ps.length≤1000){ss:List (String×Nat)}(hs:∀ s∈ss,s.2<m)(hsl:ss.length≤1000){k:Nat}(hk:k<t.length){σ:St}(I:GrI t ps ss acc σ)(hkσ:Has σ "_law_k" (.int k)) :
  Out (al P X (n+2)) lgrB σ fun fl σ'=>fl=.next∧GrI t ps ss (acc++if ig ps t k=true then [mG ss (bL ps t k)] else []) σ':=by
 have lb:∀ {k:Nat},k≤1000→k≤big:=fun h=>Nat.le_trans h (by decide)
 have l60:∀ {k:Nat},k≤60→k≤big:=fun h=>Nat.le_trans h (by decide)
 have okk:bx m (t.getD k []):=h _ (cS hk)
 have rk:∀ {ρ:List (String×D)},jH ρ "_law_rows" (aA t)→jH ρ "_law_k" (.int k)→evE (al P X (n+2)) ρ (.sub (.var "_law_rows") (.var "_law_k"))=some (.tup (t.getD k [])):=fun i j=>au (ae i) (ae j) (j4 (g:=D.tup) (z:=([]:List D)) hk)
 have like:∀ {σ:St} {a:List D},bx m a→Has σ "_law_rows" (aA t)→Has σ "_law_k" (.int k)→Has σ "_law_places" (.tup (ps.map br))→evE (al P X (n+2)) (("_law_one",.tup a)::vis σ) (.call "_law_row_like" [.var "_law_one",.sub (.var "_law_rows") (.var "_law_k"),.var "_law_places"])=some (.bool (eU ps a (t.getD k []))):=fun oka i1 i2 i3=>ax (ad (ae bw) (ad (rk (aX rfl (aa i1)) (aX rfl (aa i2))) (ad (ae (aX rfl (aa i3))) (aj _ _)))) (llike B (n+1) oka okk hp (lb hpl))
 refine cM (k:=ig ps t k) (x:=.bool (ig ps t k)) ?_ rfl (fun q=>?_) fun q=>?_
 ·exact iU (g:=D.tup) (l:=t.take k) (d:=.list ((t.map D.tup).take k)) (nJ (ae (aa I.r)) (eZ _ _) (ae (aa hkσ)) (kJ k)) (by rw[← List.map_take];rfl) (l60 (Nat.le_trans (List.length_take_le _ _) (Nat.le_trans (Nat.le_of_lt hk) hl))) fun a ha=>like (h a (List.mem_of_mem_take ha)) I.r hkσ I.p
 ·rw[if_pos q]
  have glen:(t.filter fun a=>eU ps a (t.getD k [])).length≤big:=l60 (Nat.le_trans (List.length_filter_le _ _) hl)
  refine aN (av (d:=aA (bL ps t k).2) (fr:=true) (aw (rH (g:=D.tup) (l:=t) (ae (aa I.r)) rfl (l60 hl) fun a ha=>like (h a ha) I.r hkσ I.p) rfl rfl)) ?_
  have I1:=(I.st (d:=aA (bL ps t k).2) (ns:=ME.names (.comp (.var "_law_one") "_law_one" (.var "_law_rows") [.call "_law_row_like" [.var "_law_one",.sub (.var "_law_rows") (.var "_law_k"),.var "_law_places"]])) rfl).set (x:="_law_group") (v:=(true,aA (bL ps t k).2)) rfl rfl rfl rfl
  have k1:=ak (x:="_law_k") (y:="_law_group") (v:=(true,aA (bL ps t k).2)) rfl (ay (e:=aA (bL ps t k).2) (ns:=ME.names (.comp (.var "_law_one") "_law_one" (.var "_law_rows") [.call "_law_row_like" [.var "_law_one",.sub (.var "_law_rows") (.var "_law_k"),.var "_law_places"]])) hkσ)
  have g1:Has (aC (settle (aA (bL ps t k).2) (ME.names (.comp (.var "_law_one") "_law_one" (.var "_law_rows") [.call "_law_row_like" [.var "_law_one",.sub (.var "_law_rows") (.var "_law_k"),.var "_law_places"]])) σ) "_law_group" (true,aA (bL ps t k).2)) "_law_group" (aA (bL ps t k).2):=aB
  generalize aC (settle (aA (bL ps t k).2) (ME.names (.comp (.var "_law_one") "_law_one" (.var "_law_rows") [.call "_law_row_like" [.var "_law_one",.sub (.var "_law_rows") (.var "_law_k"),.var "_law_places"]])) σ) "_law_group" (true,aA (bL ps t k).2)=σ1 at *
  refine aN (av (d:=.list (bL ps t k).1) (fr:=true) (aw (fw (g:=br) (l:=ps) (f:=fun p=>(t.getD k []).getD p .none) (ae (aa I1.p)) rfl (lb hpl) fun p hps=>au (rk (aX rfl (aa I1.r)) (aX rfl (aa k1))) (ae bw) (fM okk (hp p hps))) rfl rfl)) ?_
  refine aN (av (d:=.list (ss.map fun s=>gJ s.1 (col s.2 (bL ps t k).2))) (fr:=true) (aw (fw (g:=dJ) (l:=ss) (ae (aa (ak rfl (ay I1.s)))) rfl (lb hsl) fun s hss=>ax (ad (au (x:=dJ s) (d:=sD s.1) (ae bw) (ag _ _ _) rfl) (ad (fw (g:=D.tup) (l:=(bL ps t k).2) (f:=fun r=>r.getD s.2 .none) (ae (aX rfl (aa (ak rfl (ay g1))))) rfl glen fun r hr=>au (ae bw) (au (x:=dJ s) (y:=.int 1) (ae (aX rfl bw)) (ag _ _ _) rfl) (fM (h r (List.mem_filter.mp hr).1) (hs s hss))) (aj _ _))) (ltold B n s.1 (iN (fun r hr=>h r (List.mem_filter.mp hr).1) (hs s hss)) (by unfold col;rw[List.length_map];exact glen))) rfl rfl)) ?_
  have hlen:(bL ps t k).1.length+(ss.map fun s=>gJ s.1 (col s.2 (bL ps t k).2)).length≤big:=by rw[show (bL ps t k).1.length=ps.length from List.length_map ..,List.length_map];exact Nat.le_trans (Nat.add_le_add hpl hsl) (by decide)
  refine aN (cQ (d:=.tup (mG ss (bL ps t k))) (ds:=acc.map .tup) (bS (ad (ao (x:=.list (bL ps t k).1) (y:=.list (ss.map fun s=>gJ s.1 (col s.2 (bL ps t k).2))) (d:=.list (mG ss (bL ps t k))) (ae (aa (ak rfl (ay aB)))) (ae (aa aB)) (bin_ll hlen)) (aj _ _)) rfl) (eQ rfl (cO rfl (eQ rfl (cO rfl (eQ rfl I1.f))))) (by rw[List.length_map];exact Nat.lt_of_lt_of_le ha (by decide))) (bJ ⟨rfl,?_⟩)
  exact⟨ak rfl (ay (ak rfl (ay (ak rfl (ay I1.r))))),ak rfl (ay (ak rfl (ay (ak rfl (ay I1.p))))),ak rfl (ay (ak rfl (ay (ak rfl (ay I1.s))))),by rw[dD];exact et⟩
 ·rw[q,if_neg Bool.false_ne_true]
  exact bJ ⟨rfl,(List.append_nil acc).symm▸I⟩
theorem snoc_if{ps:List Nat}{t:Tab}{f:Nat→List D}(b:List Nat)(k:Nat):((b++[k]).filter (ig ps t)).map f=(b.filter (ig ps t)).map f++if ig ps t k=true then [f k] else []:=by
 rw[List.filter_append,List.map_append]
 cases e:ig ps t k with
 | true=>rw[List.filter_cons_of_pos e];rfl
 | false=>rw[List.filter_cons_of_neg (by rw[e];exact Bool.false_ne_true)];rfl
theorem lgrouped(B:BL P)(n:Nat){m:Nat}{t:Tab}(h:aO m t)(hl:t.length≤60){ps:List Nat}(hp:∀ p∈ps,p<m)(hpl:ps.length≤1000){ss:List (String×Nat)}(hs:∀ s∈ss,s.2<m)(hsl:ss.length≤1000)(hw:∀ s∈ss,s.1∈nU) :
  (al P X (n+3)).call "_law_grouped" [aA t,.tup (ps.map br),.tup (ss.map dJ)]=some (aA (gM ps ss t),true):=by
 have e1:gM ps ss t=((List.range t.length).filter (ig ps t)).map fun k=>mG ss (bL ps t k):=by
  unfold gM
  rw[mT hp t.length t rfl h]
  unfold om
  rw[List.map_map]
  refine List.map_congr_left fun k hk=>congrArg ((bL ps t k).1++·) (List.map_congr_left fun s hss=>?_)
  have hk:=List.mem_range.mp (List.mem_filter.mp hk).1
  have okk:bx m (t.getD k []):=h _ (cS hk)
  have mem:t.getD k []∈(bL ps t k).2:=List.mem_filter.mpr ⟨cS hk,eM (e9 okk hp).2⟩
  have ok:aO m (bL ps t k).2:=fun r hr=>h r (List.mem_filter.mp hr).1
  generalize (bL ps t k).2=G at *
  cases G with
  | nil=>cases mem
  | cons r0 rs=>exact (told_law (hw s hss) (iN ok (hs s hss))).symm
 rw[e1]
 refine az B.grouped rfl ?_
 show Run _ eX.body [("_law_rows",(false,aA t)),("_law_places",(false,.tup (ps.map br))),("_law_sums",(false,.tup (ss.map dJ)))] _ _
 refine aL (av (d:=.list []) (fr:=true) rfl) ?_
 obtain⟨σ',I',e⟩:=fV (cf:=al P X (n+2)) (body:=lgrB) (z:="_law_k") (g:=fun i:Nat=>D.int (i:Int)) (fun b σ=>GrI t ps ss ((b.filter (ig ps t)).map fun k=>mG ss (bL ps t k)) σ) (List.range t.length) [] (freeze ["_law_rows"] (aC [("_law_rows",(false,aA t)),("_law_places",(false,.tup (ps.map br))),("_law_sums",(false,.tup (ss.map dJ)))] "_law_found" (true,.list []))) ⟨b9 (ak rfl af),b9 (ak rfl (ai rfl af)),b9 (ak rfl (ai rfl (ai rfl af))),jK rfl et⟩ (by
  intro b k σ hk hb I
  rw[snoc_if]
  exact lgr_turn B n h hl (by rw[List.length_map];rw[List.length_range] at hb;exact Nat.lt_of_le_of_lt (List.length_filter_le _ _) (Nat.lt_of_lt_of_le (Nat.zero_add t.length▸hb) hl)) hp hpl hs hsl (List.mem_range.mp hk) (I.set rfl rfl rfl rfl) aB)
 exact eH (x:=.rng 0 t.length) (bS (ad (d:=.int t.length) (bS (ad (ae (aa (ak rfl af))) (aj _ _)) (by show some (D.int ((t.map D.tup).length:Nat))=_;rw[List.length_map])) (aj _ _)) (jc (Nat.le_trans hl (by decide)))) (dG t.length) e (eB I'.f)
end

set_option maxRecDepth 100000
theorem alike_lt{a b:D}(ha:a.isCell=true)(hb:b.isCell=true):d9 a b=(!aI a b&&!aI b a):=by
 have t1:=tri ha hb
 rw[cq ha hb,cq hb ha] at t1
 cases h1:aI a b with
 | true=>rw[h1] at t1;exact (Bool.or_eq_false_iff.mp t1).2
 | false=>
  rw[h1] at t1
  cases h2:aI b a with
  | false=>rw[h2] at t1;exact t1
  | true=>
   cases e:d9 a b with
   | false=>rfl
   | true=>rw[oA ha e,wkD.irr hb] at h2;cases h2
noncomputable def nAl(a b:List D)(k:Nat×Bool):Bool:=!d9 (a.getD k.1 .none) (b.getD k.1 .none)
theorem qD{m:Nat}{a b:List D}(ha:bx m a)(hb:bx m b):∀ {ks:List (Nat×Bool)},(∀ k∈ks,k.1<m)→fD ks a b=match ks.find? (nAl a b) with | some k=>ltK k a b | none=>false
 | [],_=>rfl
 | k::ks,h=>by
  have ih:=qD ha hb fun x hx=>h x (.tail _ hx)
  have hk:=h k (.head _)
  have e:nAl a b k=!(!ltK k a b&&!ltK k b a):=by
   unfold nAl ltK ltC
   rw[alike_lt (cU ha hk) (cU hb hk)]
   cases k.2 with
   | true=>exact congrArg (!·) (Bool.and_comm _ _)
   | false=>rfl
  rw[List.find?_cons]
  show lE (ltK k) (fD ks) a b=_
  unfold lE
  rw[e]
  cases h1:ltK k a b with
  | true=>exact h1.symm
  | false=>cases h2:ltK k b a with
   | true=>exact h1.symm
   | false=>exact ih
section
variable {P:List (String×Fn)} {X:CF}
theorem lahead(B:BL P)(n:Nat){m:Nat}{a b:List D}(ha:bx m a)(hb:bx m b){ks:List (Nat×Bool)}(hk:∀ k∈ks,k.1<m):(al P X (n+2)).call "_law_ahead" [.tup a,.tup b,.tup (ks.map d4)]=some (.bool (fD ks a b),false):=by
 refine az B.ahead rfl ?_
 show Run _ gP.body [("_law_one",(false,.tup a)),("_law_other",(false,.tup b)),("_law_keys",(false,.tup (ks.map d4)))] _ _
 obtain⟨σ',k1,k2⟩:=uP (cf:=al P X (n+1)) (body:=[.ite (.not (.call "_law_alike" [.sub (.var "_law_one") (.sub (.var "_law_key") (.int 0)),.sub (.var "_law_other") (.sub (.var "_law_key") (.int 0))])) [.ite (.sub (.var "_law_key") (.int 1)) [.ret (.call "_law_before" [.sub (.var "_law_other") (.sub (.var "_law_key") (.int 0)),.sub (.var "_law_one") (.sub (.var "_law_key") (.int 0))])] [],.ret (.call "_law_before" [.sub (.var "_law_one") (.sub (.var "_law_key") (.int 0)),.sub (.var "_law_other") (.sub (.var "_law_key") (.int 0))])] []]) (z:="_law_key") (g:=d4) (nAl a b) (fun k=>.bool (ltK k a b)) (fun σ=>Has σ "_law_one" (.tup a)∧Has σ "_law_other" (.tup b)) ks (by
  rintro k hks σ ⟨i1,i2⟩
  have hk:=hk k hks
  have j1:=ak (y:="_law_key") (v:=(false,d4 k)) rfl i1
  have j2:=ak (y:="_law_key") (v:=(false,d4 k)) rfl i2
  have j3:Has (aC σ "_law_key" (false,d4 k)) "_law_key" (d4 k):=aB
  generalize aC σ "_law_key" (false,d4 k)=σ at *
  have ea:evE (al P X (n+1)) (vis σ) (.sub (.var "_law_one") (.sub (.var "_law_key") (.int 0)))=some (a.getD k.1 .none):=au (ae (aa j1)) (au (x:=d4 k) (ae (aa j3)) (ag _ _ _) rfl) (fM ha hk)
  have eb:evE (al P X (n+1)) (vis σ) (.sub (.var "_law_other") (.sub (.var "_law_key") (.int 0)))=some (b.getD k.1 .none):=au (ae (aa j2)) (au (x:=d4 k) (ae (aa j3)) (ag _ _ _) rfl) (fM hb hk)
  refine cM (fc (ax (ad ea (ad eb (aj _ _))) (pn B n (cU ha hk) (cU hb hk))) rfl) rfl (fun q=>?_) fun q=>bJ (pk q ⟨rfl,j1,j2⟩)
  refine cM (k:=k.2) (au (x:=d4 k) (y:=.int 1) (d:=.bool k.2) (ae (aa j3)) (ag _ _ _) rfl) rfl (fun r=>?_) fun r=>?_
  ·exact qx (aM (ad eb (ad ea (aj _ _))) (gI B n (cU hb hk) (cU ha hk))) rfl (pj q (by unfold ltK ltC;rw[r,cq (cU hb hk) (cU ha hk)]))
  ·exact qx (aM (ad ea (ad eb (aj _ _))) (gI B n (cU ha hk) (cU hb hk))) rfl (pj q (by unfold ltK ltC;rw[r,cq (cU ha hk) (cU hb hk)]))) (freeze ["_law_keys"] [("_law_one",(false,.tup a)),("_law_other",(false,.tup b)),("_law_keys",(false,.tup (ks.map d4)))]) ⟨b9 af,b9 (ai rfl af)⟩
 rw[qD ha hb hk]
 cases h:ks.find? (nAl a b) with
 | some k=>exact kC (ae (aa (ai rfl (ai rfl af)))) rfl (k1 k h)
 | none=>exact eH (ae (aa (ai rfl (ai rfl af)))) rfl (k2 h).2 (aK (aw (iL _ _ _) rfl rfl) rfl)
structure u7(ks:List (Nat×Bool))(left acc:Tab)(σ:St):Prop where
 k:Has σ "_law_keys" (.tup (ks.map d4))
 l:Has σ "_law_left" (aA left)
 f:dA σ "_law_found" (aA acc)
noncomputable abbrev bestB:List MS:=[.ite (.call "_law_ahead" [.sub (.var "_law_left") (.var "_law_k"),.sub (.var "_law_left") (.var "_law_best"),.var "_law_keys"]) [.assign "_law_best" (.var "_law_k")] []]
noncomputable abbrev selB:List MS:=[.assign "_law_best" (.int 0),.for_ "_law_k" (.blt "range" [.int 1,.blt "len" [.var "_law_left"]]) bestB,.append "_law_found" (.sub (.var "_law_left") (.var "_law_best")),.assign "_law_left" (.bin .Add (.sl (.var "_law_left") .none (.var "_law_best")) (.sl (.var "_law_left") (.bin .Add (.var "_law_best") (.int 1)) .none))]
theorem items_rng1(m:Nat):(D.rng 1 m).items=some ((List.range (m - 1)).map fun i:Nat=>D.int (1+(i:Int))):=by
 show some ((List.range ((m:Int) - 1).toNat).map fun (i:Nat)=>D.int (1+(i:Int)))=_
 rw[show ((m:Int) - 1).toNat=m - 1 from by omega]
theorem rng1{m:Nat}(h:m≤60):gt "range" [.int 1,.int m]=some (.rng 1 m):=by
 show (if _ then _ else _)=_
 have:60≤big:=by decide
 exact if_pos (by omega)
theorem list_drop{l:List D}(k:Nat):slD (.list l) (.int k) .none=some (.list (l.drop k)):=by
 show ((bnd (.int k) 0).bind fun a=>(bnd D.none l.length).map fun b=>D.list ((l.take b).drop a))=_
 have e:=tE k 0
 rw[e]
 show some (D.list ((l.take l.length).drop k))=_
 rw[List.take_length]
theorem sel_turn(B:BL P)(n:Nat){m:Nat}{left acc:Tab}(h:aO m left)(hl:left.length≤60)(h0:0<left.length)(ha:acc.length<1000){ks:List (Nat×Bool)}(hk:∀ k∈ks,k.1<m){σ:St}(I:u7 ks left acc σ) :
  Out (al P X (n+2)) selB σ fun fl σ'=>fl=.next∧u7 ks (io left (fq (fD ks) [] left)) (acc++[left.getD (fq (fD ks) [] left) []]) σ':=by
 have W:=wkL (m:=m) hk
 have gj:∀ j,j<left.length→bx m (left.getD j []):=fun j hj=>h _ (cS hj)
 have sub:∀ {ρ:List (String×D)} {x:String} {j:Nat},j<left.length→jH ρ "_law_left" (aA left)→jH ρ x (.int j)→evE (al P X (n+2)) ρ (.sub (.var "_law_left") (.var x))=some (.tup (left.getD j [])):=fun hj i1 i2=>au (ae i1) (ae i2) (j4 (g:=D.tup) (z:=([]:List D)) hj)
 refine aN (bc (d:=.int (0:Nat)) (fr:=false) rfl rfl) ?_
 obtain⟨σ',⟨J,jl,jb⟩,e⟩:=fV (cf:=al P X (n+2)) (body:=bestB) (z:="_law_k") (g:=fun i:Nat=>D.int (1+(i:Int))) (fun b σ=>u7 ks left acc σ∧b.foldl (gu (fD ks) [] left) 0<left.length∧Has σ "_law_best" (.int (b.foldl (gu (fD ks) [] left) 0:Nat))) (List.range (left.length - 1)) [] (freeze ["_law_left"] (aC σ "_law_best" (false,.int (0:Nat)))) ⟨⟨b9 (ak rfl I.k),b9 (ak rfl I.l),jK rfl (cO rfl I.f)⟩,h0,b9 aB⟩ (by
  rintro b i σ hi hb ⟨J,jl,jb⟩
  rw[List.foldl_append]
  show Out _ _ _ fun fl σ'=>fl=.next∧u7 ks left acc σ'∧gu (fD ks) [] left (b.foldl (gu (fD ks) [] left) 0) i<left.length∧Has σ' "_law_best" (.int (gu (fD ks) [] left (b.foldl (gu (fD ks) [] left) 0) i:Nat))
  generalize b.foldl (gu (fD ks) [] left) 0=c at *
  have hi1:i+1<left.length:=Nat.add_lt_of_lt_sub (List.mem_range.mp hi)
  have ei:(1+(i:Int))=((i+1:Nat):Int):=by rw[Int.natCast_add,Int.add_comm];rfl
  rw[ei]
  unfold gu
  refine cM (ax (ad (sub hi1 (aa (ak rfl J.l)) (aa aB)) (ad (sub jl (aa (ak rfl J.l)) (aa (ak rfl jb))) (ad (ae (aa (ak rfl J.k))) (aj _ _)))) (lahead B n (gj _ hi1) (gj _ jl) hk)) rfl (fun q=>?_) fun q=>?_
  ·rw[if_pos q]
   exact aN (bc (d:=.int (i+1:Nat)) (fr:=false) (aw (ae (aa aB)) rfl rfl) rfl) (bJ ⟨rfl,⟨ak rfl (ak rfl J.k),ak rfl (ak rfl J.l),cO rfl (cO rfl J.f)⟩,hi1,aB⟩)
  ·rw[q,if_neg Bool.false_ne_true]
   exact bJ ⟨rfl,⟨ak rfl J.k,ak rfl J.l,cO rfl J.f⟩,jl,ak rfl jb⟩)
 refine sy (d:=.rng 1 left.length) (bS (ad (ag _ _ _) (ad (d:=.int left.length) (bS (ad (ae (aa (ak rfl I.l))) (aj _ _)) (by show some (D.int ((left.map D.tup).length:Nat))=_;rw[List.length_map])) (aj _ _))) (rng1 hl)) (items_rng1 left.length) e ?_
 replace jl:fq (fD ks) [] left<left.length:=jl
 replace jb:Has σ' "_law_best" (.int (fq (fD ks) [] left:Nat)):=jb
 generalize fq (fD ks) [] left=c at *
 refine aN (cQ (d:=.tup (left.getD c [])) (ds:=acc.map .tup) (sub jl (aa J.l) (aa jb)) (eQ rfl J.f) (by rw[List.length_map];exact Nat.lt_of_lt_of_le ha (by decide))) ?_
 have l2:=ak (x:="_law_left") (y:="_law_found") (v:=(true,.list (acc.map .tup++[.tup (left.getD c [])]))) rfl (ay (e:=.tup (left.getD c [])) (ns:=["_law_left","_law_best"]) J.l)
 have b2:=ak (x:="_law_best") (y:="_law_found") (v:=(true,.list (acc.map .tup++[.tup (left.getD c [])]))) rfl (ay (e:=.tup (left.getD c [])) (ns:=["_law_left","_law_best"]) jb)
 have k2:=ak (x:="_law_keys") (y:="_law_found") (v:=(true,.list (acc.map .tup++[.tup (left.getD c [])]))) rfl (ay (e:=.tup (left.getD c [])) (ns:=["_law_left","_law_best"]) J.k)
 have er:D.list ((left.map D.tup).take c++(left.map D.tup).drop (c+1))=aA (io left c):=by unfold aA io;rw[List.map_append,List.map_take,List.map_drop]
 refine aN (av (d:=aA (io left c)) (fr:=true) (aw (ao (x:=.list ((left.map D.tup).take c)) (y:=.list ((left.map D.tup).drop (c+1))) (nJ (ae (aa l2)) (eZ _ _) (ae (aa b2)) (kJ c)) (nJ (ae (aa l2)) (ao (d:=.int (c+1:Nat)) (ae (aa b2)) (ag _ _ _) (by rw[Int.natCast_add];rfl)) (eZ _ _) (list_drop (c+1))) ?_) rfl rfl)) (bJ ⟨rfl,ak rfl (ay k2),aB,?_⟩)
 ·rw[← er]
  exact if_pos (Nat.le_trans (Nat.add_le_add (List.length_take_le' _ _) (Nat.le_trans (Nat.le_of_eq List.length_drop) (Nat.sub_le _ _))) (by rw[List.length_map];exact Nat.le_trans (Nat.add_le_add hl hl) (by decide)))
 ·rw[dD];exact cO rfl (eQ rfl et)
theorem n0(B:BL P)(n:Nat){m:Nat}{ks:List (Nat×Bool)}(hk:∀ k∈ks,k.1<m):∀ (k:Nat) (left acc:Tab) (f:Nat) (σ:St),left.length=k→k≤60→k<f→acc.length+k<1000→aO m left→u7 ks left acc σ→∃ σ',dA σ' "_law_found" (aA (acc++qi (fD ks) [] k left))∧dY (fj (al P X (n+2)) (.var "_law_left")) (fun σ=>a8 (al P X (n+2)) selB σ) f σ=some (.next,σ')
 | k,left,acc,0,σ,_,_,h,_,_,_=>absurd h (Nat.not_lt_zero _)
 | 0,left,acc,f+1,σ,e,_,_,_,_,I=>by
  have:left=[]:=List.length_eq_zero_iff.mp e
  subst this
  refine⟨σ,by rw[show qi (fD ks) [] 0 ([]:Tab)=[] from rfl,List.append_nil];exact I.f,?_⟩
  rw[dY,show fj (al P X (n+2)) (.var "_law_left") σ=some false from by unfold fj;rw[ae (aa I.l)];rfl]
 | k+1,left,acc,f+1,σ,e,h6,hf,ha,h,I=>by
  have h0:0<left.length:=e▸Nat.succ_pos k
  obtain⟨fl,σ1,⟨rfl,J⟩,ee⟩:=sel_turn (X:=X) B n h (e▸h6) h0 (Nat.lt_of_le_of_lt (Nat.le_add_right _ _) ha) hk I
  have hb:=tH (z:=([]:List D)) (wkL (m:=m) hk) (fun j hj=>h _ (cS hj)) h0
  obtain⟨σ2,o,e2⟩:=n0 B n hk k _ _ f σ1 (Nat.succ.inj ((qm hb).trans e)) (Nat.le_of_succ_le h6) (Nat.lt_of_succ_lt_succ hf) (by rw[List.length_append];show acc.length+1+k<1000;rw[Nat.add_assoc,Nat.add_comm 1];exact ha) (fun r hr=>h r (jU hb hr)) J
  refine⟨σ2,by rw[List.append_assoc] at o;exact o,?_⟩
  rw[dY,show fj (al P X (n+2)) (.var "_law_left") σ=some true from by
   unfold fj;rw[ae (aa I.l)]
   cases left with
   | nil=>cases h0
   | cons=>rfl]
  dsimp only
  rw[ee];exact e2
theorem lordered(B:BL P)(n:Nat){m:Nat}{t:Tab}(h:aO m t)(hl:t.length≤60){ks:List (Nat×Bool)}(hk:∀ k∈ks,k.1<m):(al P X (n+3)).call "_law_ordered" [aA t,.tup (ks.map d4)]=some (aA (fB ks t),true):=by
 refine az B.ordered rfl ?_
 show Run _ eW.body [("_law_rows",(false,aA t)),("_law_keys",(false,.tup (ks.map d4)))] _ _
 refine aL (av (d:=aA t) (fr:=true) (aw (pT (ae (aa af)) rfl) rfl rfl)) (aL (av (d:=.list []) (fr:=true) rfl) ?_)
 obtain⟨σ',o,e⟩:=n0 (X:=X) B n hk t.length t [] tO (aC (settle (.list []) [] (aC (settle (aA t) ["_law_rows"] [("_law_rows",(false,aA t)),("_law_keys",(false,.tup (ks.map d4)))]) "_law_left" (true,aA t))) "_law_found" (true,.list [])) rfl hl (Nat.lt_of_le_of_lt hl (by decide)) (by rw[List.length_nil,Nat.zero_add];exact Nat.lt_of_le_of_lt hl (by decide)) h ⟨ak rfl (ay (ak rfl (ay (ai rfl af)))),ak rfl (ay aB),et⟩
 rw[List.nil_append,order_sel h hk] at o
 exact r_while e (eB o)
end

set_option maxRecDepth 100000
section
variable {P:List (String×Fn)} {X:CF} {cf:CF} {σ:St} {t r:List MS} {w w2:String} {R q:D} {fr:Bool}
theorem skQ(hne:(Str.ofString w == Str.ofString w2)=false)(h:Has σ "_law_query" q)(h0:a9 q (.int 0)=some (sD w))(k:Run cf r σ R fr):Run cf (.ite (.cmp .Eq (.sub (.var "_law_query") (.int 0)) (.str w2)) t []::r) σ R fr:=
 cH (k:=false) (x:=.bool false) (aD (au (ae (aa h)) (ag _ _ _) h0) (aT _ _ _) (by show some (D.bool (Str.ofString w == Str.ofString w2))=_;rw[hne])) rfl nofun fun _=>k
theorem qR(h:Has σ "_law_query" q)(h0:a9 q (.int 0)=some (sD w))(k:Run cf (t++r) σ R fr):Run cf (.ite (.cmp .Eq (.sub (.var "_law_query") (.int 0)) (.str w)) t []::r) σ R fr:=
 cH (k:=true) (x:=.bool true) (aD (au (ae (aa h)) (ag _ _ _) h0) (aT _ _ _) (by show some (D.bool (Str.ofString w == Str.ofString w))=_;rw[beq_self_eq_true])) rfl (fun _=>k) nofun
theorem kL(B:BL P)(n:Nat){q A R:D}{fr:Bool}(k:Run (al P X n) iI.body [("_law_query",(false,q)),("_law_rows",(false,A))] R fr):(al P X (n+1)).call "_law_done" [q,A]=some (R,fr):=az B.done rfl k
theorem hq{q A:D}:Has [("_law_query",(false,q)),("_law_rows",(false,A))] "_law_query" q:=af
theorem hrw{q A:D}:Has [("_law_query",(false,q)),("_law_rows",(false,A))] "_law_rows" A:=ai rfl af
theorem ld_sieve(B:BL P)(n:Nat){m:Nat}{t:Tab}(h:aO m t)(hl:t.length≤big){cs:List (List D)}(hcl:cs.length≤big)(hc:∀ c∈cs,lC m c){I:D}:(al P X (n+4)).call "_law_done" [.tup [sD "sieve",.tup (cs.map clD),I],aA t]=some (aA (t.filter (jw cs)),true):=by
 refine kL B (n+3) (qR hq rfl (aK (aw (rH (g:=D.tup) (l:=t) (p:=jw cs) (ae (aa hrw)) rfl hl fun r hr=>?_) rfl rfl) rfl))
 unfold jw
 rw[← lk]
 exact iU (g:=clD) (l:=cs) (d:=.tup (cs.map clD)) (au (x:=.tup [sD "sieve",.tup (cs.map clD),I]) (y:=.int 1) (ae (aX rfl (aa hq))) (ag _ _ _) rfl) rfl hcl fun c hcs=>fc (ax (ad (ae bw) (ad (ae (aX rfl bw)) (aj _ _))) (lholds B n (h r hr) (hc c hcs).1)) rfl
theorem ld_pick(B:BL P)(n:Nat){m:Nat}{t:Tab}(h:aO m t)(hl:t.length≤big){ps:List Nat}(hp:∀ p∈ps,p<m)(hpl:ps.length≤big){I:D}:(al P X (n+1)).call "_law_done" [.tup [sD "pick",.tup (ps.map br),I],aA t]=some (aA (t.map (aS ps)),true):=by
 unfold aA
 rw[List.map_map]
 exact kL B n (skQ (by decide +kernel) hq rfl (qR hq rfl (aK (aw (fw (g:=D.tup) (l:=t) (f:=D.tup ∘ aS ps) (ae (aa hrw)) rfl hl fun r hr=>bS (ad (fw (g:=br) (l:=ps) (f:=fun p=>r.getD p .none) (au (x:=.tup [sD "pick",.tup (ps.map br),I]) (y:=.int 1) (ae (aX rfl (aa hq))) (ag _ _ _) rfl) rfl hpl fun p hps=>au (ae (aX rfl bw)) (ae bw) (fM (h r hr) (hp p hps))) (aj _ _)) rfl) rfl rfl) rfl)))
theorem ld_group(B:BL P)(n:Nat){A R S U I:D}{fr:Bool}(k:(al P X n).call "_law_grouped" [A,S,U]=some (R,fr)):(al P X (n+1)).call "_law_done" [.tup [sD "group",S,U,I],A]=some (R,fr):=
 kL B n (skQ (by decide +kernel) hq rfl (skQ (by decide +kernel) hq rfl (qR hq rfl (aK (aM (ad (ae (aa hrw)) (ad (au (x:=.tup [sD "group",S,U,I]) (y:=.int 1) (ae (aa hq)) (ag _ _ _) rfl) (ad (au (x:=.tup [sD "group",S,U,I]) (y:=.int 2) (ae (aa hq)) (ag _ _ _) rfl) (aj _ _)))) k) rfl))))
theorem ld_order(B:BL P)(n:Nat){A R S I:D}{fr:Bool}(k:(al P X n).call "_law_ordered" [A,S]=some (R,fr)):(al P X (n+1)).call "_law_done" [.tup [sD "order",S,I],A]=some (R,fr):=
 kL B n (skQ (by decide +kernel) hq rfl (skQ (by decide +kernel) hq rfl (skQ (by decide +kernel) hq rfl (qR hq rfl (aK (aM (ad (ae (aa hrw)) (ad (au (x:=.tup [sD "order",S,I]) (y:=.int 1) (ae (aa hq)) (ag _ _ _) rfl) (aj _ _))) k) rfl)))))
theorem ld_first(B:BL P)(n:Nat){t:Tab}{c:Nat}{I:D}:(al P X (n+1)).call "_law_done" [.tup [sD "first",br c,I],aA t]=some (aA (t.take c),true):=by
 refine kL B n (skQ (by decide +kernel) hq rfl (skQ (by decide +kernel) hq rfl (skQ (by decide +kernel) hq rfl (skQ (by decide +kernel) hq rfl (qR hq rfl (aK (aw (nJ (x:=aA t) (u:=.none) (v:=br c) (d:=aA (t.take c)) (ae (aa hrw)) (eZ _ _) (au (x:=.tup [sD "first",br c,I]) (y:=.int 1) (ae (aa hq)) (ag _ _ _) rfl) ((kJ c).trans ?_)) rfl rfl) rfl))))))
 unfold aA;rw[List.map_take]
theorem ld_once(B:BL P)(n:Nat){m:Nat}{t:Tab}(h:aO m t)(hl:t.length<big){I:D}:(al P X (n+1)).call "_law_done" [.tup [sD "once",I],aA t]=some (aA (be t),true):=by
 refine kL B n (skQ (by decide +kernel) hq rfl (skQ (by decide +kernel) hq rfl (skQ (by decide +kernel) hq rfl (skQ (by decide +kernel) hq rfl (skQ (by decide +kernel) hq rfl (aL (av (d:=.list []) (fr:=true) rfl) ?_))))))
 obtain⟨σ',I',e⟩:=fV (cf:=al P X n) (body:=[.ite (.cmp .NotIn (.var "_law_row") (.var "_law_found")) [.append "_law_found" (.var "_law_row")] []]) (z:="_law_row") (g:=D.tup) (fun b σ=>aO m (be b)∧(be b).length≤b.length∧dA σ "_law_found" (aA (be b))) t []
  (freeze ["_law_rows"] (aC [("_law_query",(false,.tup [sD "once",I])),("_law_rows",(false,aA t))] "_law_found" (true,.list []))) ⟨(fun _ h=>nomatch h),Nat.le_refl _,jK rfl et⟩ (by
  rintro b r σ hr hb ⟨i1,i2,i4⟩
  have hm:mz (.tup r) (aA (be b))=some ((be b).any fun x=>aE x r):=by
   rw[← iQ]
   exact if_pos (by rw[jt (h r hr),rJ i1];rfl)
  have hd:evE (al P X n) (vis (aC σ "_law_row" (false,.tup r))) (.cmp .NotIn (.var "_law_row") (.var "_law_found"))=some (.bool (!(be b).any fun x=>aE x r)):=aD (ae (aa aB)) (ae (aa (ak rfl (qS i4)))) (by show (mz _ _).map _=_;rw[hm];rfl)
  have hlen:(be b).length<big:=Nat.lt_of_le_of_lt i2 (Nat.lt_trans (Nat.zero_add t.length▸hb) hl)
  refine cM hd rfl (fun hn=>?_) fun hn=>?_
  ·have hn:((be b).any fun x=>aE x r)=false:=by cases e:(be b).any fun x=>aE x r with | false=>rfl | true=>rw[e] at hn;cases hn
   have e1:be (b++[r])=be b++[r]:=by rw[gE];unfold gX;rw[hn,if_neg Bool.false_ne_true]
   refine aN (cQ (d:=.tup r) (ds:=(be b).map .tup) (ae (aa aB)) (eQ rfl (cO rfl i4)) (by rw[List.length_map];exact hlen)) (bJ ⟨rfl,?_,?_,?_⟩)
   ·rw[e1];exact fun x hx=>(List.mem_append.mp hx).elim (i1 x) fun q=>List.mem_singleton.mp q▸h r hr
   ·rw[e1,List.length_append,List.length_append];exact Nat.succ_le_succ i2
   ·rw[e1,dD];exact et
  ·have hn:((be b).any fun x=>aE x r)=true:=by cases e:(be b).any fun x=>aE x r with | true=>rfl | false=>rw[e] at hn;cases hn
   have e1:be (b++[r])=be b:=by rw[gE];unfold gX;rw[hn,if_pos rfl]
   rw[e1]
   exact bJ ⟨rfl,i1,by rw[List.length_append];exact Nat.le_succ_of_le i2,cO rfl i4⟩)
 exact eH (ae (aa (ak rfl hrw))) rfl e (eB I'.2.2)
theorem linner(B:BL P)(n:Nat){w:String}{q I:D}(h0:a9 q (.int 0)=some (sD w))(h1:a9 q (.int (pv (Str.ofString w)))=some I):(al P X (n+1)).call "_law_inner" [q]=some (I,false):=
 az B.inner rfl (aK (aw (au (ae (aa af)) (v_inn (au (ae (aa af)) (ag _ _ _) h0)) h1) rfl rfl) rfl)
noncomputable abbrev laS(q T:D):St:=[("_law_query",(false,q)),("_law_tables_here",(false,T))]
theorem i7(B:BL P)(n:Nat){q I T A R:D}{f1 fr:Bool}(hw:w∈nT)(h0:a9 q (.int 0)=some (sD w))(hl:a9 q (.int (pv (Str.ofString w)))=some I)
  (k1:(al P X (n+1)).call "_law_answer" [I,T]=some (A,f1)) (k2:(al P X (n+1)).call "_law_done" [q,A]=some (R,fr)):(al P X (n+2)).call "_law_answer" [q,T]=some (R,fr):=by
 have hne:=r9 w hw
 refine az B.answer rfl ?_
 show Run _ cG.body (laS q T) _ _
 exact skQ hne.1 af h0 (skQ hne.2.1 af h0 (skQ hne.2.2 af h0 (aK (aM (ad (ae (aa af)) (ad (ax (ad (ax (ad (ae (aa af)) (aj _ _)) (linner B n h0 hl)) (ad (ae (aa (ai rfl af))) (aj _ _))) k1) (aj _ _))) k2) rfl)))
theorem la_join(B:BL P)(n:Nat){I J S T A C R:D}{f1 f2 fr:Bool}(k1:(al P X n).call "_law_answer" [I,T]=some (A,f1))(k2:(al P X n).call "_law_answer" [J,T]=some (C,f2))(k3:(al P X n).call "_law_joined" [A,C,S]=some (R,fr)) :
  (al P X (n+1)).call "_law_answer" [.tup [sD "join",I,J,S],T]=some (R,fr):=by
 refine az B.answer rfl ?_
 show Run _ cG.body (laS (.tup [sD "join",I,J,S]) T) _ _
 exact skQ (by decide +kernel) af rfl (qR af rfl (aK (aM (ad (ax (ad (au (x:=.tup [sD "join",I,J,S]) (y:=.int 1) (ae (aa af)) (ag _ _ _) rfl) (ad (ae (aa (ai rfl af))) (aj _ _))) k1) (ad (ax (ad (au (x:=.tup [sD "join",I,J,S]) (y:=.int 2) (ae (aa af)) (ag _ _ _) rfl) (ad (ae (aa (ai rfl af))) (aj _ _))) k2) (ad (au (x:=.tup [sD "join",I,J,S]) (y:=.int 3) (ae (aa af)) (ag _ _ _) rfl) (aj _ _)))) k3) rfl))
theorem la_both(B:BL P)(n:Nat){I J T:D}{a b:Tab}{f1 f2:Bool}(hl:a.length+b.length≤big)(k1:(al P X n).call "_law_answer" [I,T]=some (aA a,f1))(k2:(al P X n).call "_law_answer" [J,T]=some (aA b,f2)) :
  (al P X (n+1)).call "_law_answer" [.tup [sD "both",I,J],T]=some (aA (a++b),true):=by
 refine az B.answer rfl ?_
 show Run _ cG.body (laS (.tup [sD "both",I,J]) T) _ _
 refine skQ (by decide +kernel) af rfl (skQ (by decide +kernel) af rfl (qR af rfl (aK (aw (ao (x:=aA a) (y:=aA b) (ax (ad (au (x:=.tup [sD "both",I,J]) (y:=.int 1) (ae (aa af)) (ag _ _ _) rfl) (ad (ae (aa (ai rfl af))) (aj _ _))) k1) (ax (ad (au (x:=.tup [sD "both",I,J]) (y:=.int 2) (ae (aa af)) (ag _ _ _) rfl) (ad (ae (aa (ai rfl af))) (aj _ _))) k2) ?_) rfl rfl) rfl)))
 unfold aA
 rw[List.map_append]
 exact if_pos (by rw[List.length_map,List.length_map];exact hl)
theorem la_table(B:BL P)(n:Nat){T:Tbs}{nm:Str}{t:Tab}(h:T.lookup nm=some t):(al P X (n+1)).call "_law_answer" [.tup [sD "table",.str nm],T.d]=some (aA t,false):=by
 have hs:a9 T.d (.str nm)=some (aA t):=(if_pos (oP T nm)).trans (oQ h).1
 refine az B.answer rfl ?_
 show Run _ cG.body (laS (.tup [sD "table",.str nm]) T.d) _ _
 exact qR af rfl (aK (aw (au (ae (aa (ai rfl af))) (au (x:=.tup [sD "table",.str nm]) (y:=.int 1) (ae (aa af)) (ag _ _ _) rfl) hs) rfl rfl) rfl)
theorem di(B:BL P){W R:Wd}{T:Tbs}(hT:tJ W R T):∀ (q:Q) (r n:Nat),q.ok W→q.rb R r→r≤60→q.nar W 5000→q.dp≤n→∃ fr,(al P X (n+5)).call "_law_answer" [q.d,T.d]=some (aA (q.ans T),fr)
 | .table nm,r,n,⟨k,hk⟩,_,_,_,_=>by
  obtain⟨t,e,_⟩:=hT nm k hk
  have:=la_table B (n+4) (P:=P) (X:=X) e
  show ∃ fr,_=some (aA ((T.lookup nm).getD []),fr)
  rw[e];exact⟨_,this⟩
 | .sieve cs q,r,n+1,h,hr,h6,hn,hd=>have a:=bD hT q r h.1 hr;let ⟨_,e⟩:=di B hT q r n h.1 hr h6 hn (Nat.le_of_succ_le_succ hd);⟨_,i7 B _ (w:="sieve") (by decide) rfl rfl e (ld_sieve B (n+1) a.1 (Nat.le_trans a.2 (Nat.le_trans h6 (by decide))) (Nat.le_trans h.2.2 (by decide)) h.2.1)⟩
 | .pick ps q,r,n+1,h,hr,h6,hn,hd=>have a:=bD hT q r h.1 hr;let ⟨_,e⟩:=di B hT q r n h.1 hr h6 hn (Nat.le_of_succ_le_succ hd);⟨_,i7 B _ (w:="pick") (by decide) rfl rfl e (ld_pick B (n+4) a.1 (Nat.le_trans a.2 (Nat.le_trans h6 (by decide))) h.2.1 (Nat.le_trans h.2.2 (by decide)))⟩
 | .group ps ss q,r,n+1,h,hr,h6,hn,hd=>have a:=bD hT q r h.1 hr;let ⟨_,e⟩:=di B hT q r n h.1 hr h6 hn.1 (Nat.le_of_succ_le_succ hd);⟨_,i7 B _ (w:="group") (by decide) rfl rfl e (ld_group B (n+4) (lgrouped B (n+1) a.1 (Nat.le_trans a.2 h6) h.2.1 h.2.2.2.1 h.2.2.1 h.2.2.2.2 hn.2))⟩
 | .order ks q,r,n+1,h,hr,h6,hn,hd=>have a:=bD hT q r h.1 hr;let ⟨_,e⟩:=di B hT q r n h.1 hr h6 hn (Nat.le_of_succ_le_succ hd);⟨_,i7 B _ (w:="order") (by decide) rfl rfl e (ld_order B (n+4) (lordered B (n+1) a.1 (Nat.le_trans a.2 h6) h.2.1))⟩
 | .once q,r,n+1,h,hr,h6,hn,hd=>have a:=bD hT q r h hr;let ⟨_,e⟩:=di B hT q r n h hr h6 hn (Nat.le_of_succ_le_succ hd);⟨_,i7 B _ (w:="once") (by decide) rfl rfl e (ld_once B (n+4) a.1 (Nat.lt_of_le_of_lt a.2 (Nat.lt_of_le_of_lt h6 (by decide))))⟩
 | .first c q,r,n+1,h,⟨r',hr,h6',_⟩,h6,hn,hd=>let ⟨_,e⟩:=di B hT q r' n h hr h6' hn (Nat.le_of_succ_le_succ hd);⟨_,i7 B _ (w:="first") (by decide) rfl rfl e (ld_first B (n+4))⟩
 | .join a b prs,r,n+1,h,⟨r1,r2,h1,h2,l1,l2,_⟩,h6,hn,hd=>have i:=bD hT a r1 h.1 h1;have j:=bD hT b r2 h.2.1 h2;let ⟨_,e1⟩:=di B hT a r1 n h.1 h1 l1 hn.1 (Nat.le_trans (Nat.le_max_left _ _) (Nat.le_of_succ_le_succ hd));let ⟨_,e2⟩:=di B hT b r2 n h.2.1 h2 l2 hn.2.1 (Nat.le_trans (Nat.le_max_right _ _) (Nat.le_of_succ_le_succ hd));⟨_,la_join B _ e1 e2 (ljoined B (n+3) i.1 j.1 (Nat.le_trans i.2 l1) (Nat.le_trans j.2 l2) (Nat.le_trans hn.2.2 (by decide)) (Nat.le_trans h.2.2.2 (by decide)) h.2.2.1)⟩
 | .both a b,r,n+1,h,⟨r1,r2,h1,h2,l1,l2,_⟩,h6,hn,hd=>have i:=bD hT a r1 h.1 h1;have j:=bD hT b r2 h.2.1 h2;let ⟨_,e1⟩:=di B hT a r1 n h.1 h1 l1 hn.1 (Nat.le_trans (Nat.le_max_left _ _) (Nat.le_of_succ_le_succ hd));let ⟨_,e2⟩:=di B hT b r2 n h.2.1 h2 l2 hn.2 (Nat.le_trans (Nat.le_max_right _ _) (Nat.le_of_succ_le_succ hd));⟨_,la_both B _ (Nat.le_trans (Nat.add_le_add (Nat.le_trans i.2 l1) (Nat.le_trans j.2 l2)) (by decide)) e1 e2⟩
end

set_option maxRecDepth 100000
theorem u6{α:Type}(l:List α):(l.any fun _=>false)=false:=List.any_eq_false.mpr fun _ _=>Bool.false_ne_true
theorem sF(n:Nat):eG .NotEq (.int n) (.int n)=some (.bool false):=by
 show some (D.bool (!((n:Int) == (n:Int))))=_
 rw[beq_self_eq_true];rfl
section
variable {P:List (String×Fn)} {X:CF}
theorem lcell_is(B:BL P)(n:Nat){c:D}(hc:c.isCell=true):(al P X (n+1)).call "_law_cell_is" [c,c]=some (.bool true,false):=by
 refine az B.cellIs rfl ?_
 refine aP (C:=fun c=>Run (al P X n) eY.body [("_law_found",(false,c)),("_law_due",(false,c))] (.bool true) false) hc (fun i=>?_) fun x=>?_
 ·have e:eG .Eq (.int i) (.int i)=some (.bool true):=by show some (D.bool (i == i))=_;rw[beq_self_eq_true]
  refine cH (k:=false) (hZ (k:=false) (l:=false) (il (ae (aa (ai rfl af))) rfl) fun _=>bA (il (ae (aa af)) rfl)) rfl nofun fun _=>?_
  exact aK (aw (dC (k:=true) (l:=true) (il (ae (aa af)) rfl) fun _=>bA (aD (ae (aa af)) (ae (aa (ai rfl af))) e)) rfl rfl) rfl
 ·have e:eG .Eq (.str x) (.str x)=some (.bool true):=by show some (D.bool (x == x))=_;rw[beq_self_eq_true]
  refine cH (k:=true) (hZ (k:=true) (l:=true) (il (ae (aa (ai rfl af))) rfl) nofun) rfl (fun _=>?_) nofun
  exact aK (aw (dC (k:=true) (l:=true&&true) (il (ae (aa af)) rfl) fun _=>dC (k:=true) (l:=true) (il (ae (aa (ai rfl af))) rfl) fun _=>bA (aD (ae (aa af)) (ae (aa (ai rfl af))) e)) rfl rfl) rfl
theorem t9{cf:CF}{ρ:List (String×D)}{m:Nat}{src c:ME}(hs:evE cf ρ src=some (.int m))(hl:m≤big)(hc:∀ i:Nat,i<m→evE cf (("_law_k",.int i)::ρ) c=some (.bool false)):evE cf ρ (.not (.comp (.var "_law_k") "_law_k" (.blt "range" [src]) [c]))=some (.bool true):=by
 have q:=iU (cf:=cf) (z:="_law_k") (g:=fun i:Nat=>D.int (i:Int)) (p:=fun _=>false) (l:=List.range m) (bS (ad hs (aj _ _)) (jc hl)) (dG m) (by rw[List.length_range];exact hl) fun i hi=>hc i (List.mem_range.mp hi)
 rw[u6] at q
 exact q
theorem lrow_is(B:BL P)(n:Nat){m:Nat}{r:List D}(hr:bx m r)(hm:m≤big):(al P X (n+2)).call "_law_row_is" [.tup r,.tup r]=some (.bool true,false):=by
 refine az B.rowIs rfl ?_
 show Run _ fG.body [("_law_found",(false,.tup r)),("_law_due",(false,.tup r))] _ _
 have hl:∀ {x:String} {ρ:List (String×D)},jH ρ x (.tup r)→evE (al P X (n+1)) ρ (.blt "len" [.var x])=some (.int m):=fun i=>bS (ad (ae i) (aj _ _)) (by show some (D.int (r.length:Nat))=_;rw[hr.1])
 refine cH (k:=false) (hZ (k:=false) (l:=false) (fc (k:=true) (il (ae (aa af)) rfl) rfl) fun _=>bA (aD (hl (aa af)) (hl (aa (ai rfl af))) (sF m))) rfl nofun fun _=>?_
 exact aK (aw (t9 (hl (aa (ai rfl af))) hm fun i hi=>fc (k:=true) (ax (ad (au (ae (aX rfl (aa af))) (ae bw) (fM hr hi)) (ad (au (ae (aX rfl (aa (ai rfl af)))) (ae bw) (fM hr hi)) (aj _ _))) (lcell_is B n (cU hr hi))) rfl) rfl rfl) rfl
theorem iZ(B:BL P)(n:Nat){m:Nat}{t:Tab}(h:aO m t)(hm:m≤big)(hl:t.length≤big):(al P X (n+3)).call "_law_rows_are" [aA t,aA t]=some (.bool true,false):=by
 refine az B.rowsAre rfl ?_
 show Run _ eF.body [("_law_found",(false,aA t)),("_law_due",(false,aA t))] _ _
 have hn:∀ {x:String} {ρ:List (String×D)},jH ρ x (aA t)→evE (al P X (n+2)) ρ (.blt "len" [.var x])=some (.int t.length):=fun i=>bS (ad (ae i) (aj _ _)) (by show some (D.int ((t.map D.tup).length:Nat))=_;rw[List.length_map])
 refine cH (k:=false) (hZ (k:=false) (l:=false) (fc (k:=true) (il (ae (aa af)) rfl) rfl) fun _=>bA (aD (hn (aa af)) (hn (aa (ai rfl af))) (sF t.length))) rfl nofun fun _=>?_
 exact aK (aw (t9 (hn (aa (ai rfl af))) hl fun i hi=>fc (k:=true) (ax (ad (au (ae (aX rfl (aa af))) (ae bw) (j4 (g:=D.tup) (z:=([]:List D)) hi)) (ad (au (ae (aX rfl (aa (ai rfl af)))) (ae bw) (j4 (g:=D.tup) (z:=([]:List D)) hi)) (aj _ _))) (lrow_is B n (h _ (cS hi)) hm)) rfl) rfl rfl) rfl
end

set_option maxRecDepth 100000
set_option maxHeartbeats 800000
noncomputable def k8(W R:Wd)(c dp:Nat)(d:D):Prop:=d=.list []∨∃ q r k,TpA W R c dp q r k∧d=.list [aF W q r k]
section
variable {P:List (String×Fn)} {X:CF} {W R:Wd} {c dp:Nat} {q q2:Q} {r k r2 k2:Nat}
theorem lc(B:BN P)(n:Nat)(z:Int)(h:TpA W R c dp q r k)(h2:TpA W R c dp q2 r2 k2):∃ d fr,k8 W R (c+12) (dp+2) d∧(al P X (n+3)).call "_law_of_two" [sD "join",.int z,aF W q r k,aF W q2 r2 k2]=some (d,fr):=by
 have hr:=h.r;have hr2:=h2.r
 have mk:∀ (a b:Q) (ra rb:Nat),TpA W R c (dp+1) a ra k→TpA W R c (dp+1) b rb k2→a.wd W=q.wd W→b.wd W=q2.wd W→ra * rb≤60→k+k2≤24→∀ σ:St,Has σ "_law_cell" (.int z)→Has σ "_law_one" (aF W a ra k)→Has σ "_law_two" (aF W b rb k2) →
   ∀ rest:List MS,Rex (al P X (n+2)) (.assign "_law_query" (.tup [.str "join",.sub (.var "_law_one") (.int 0),.sub (.var "_law_two") (.int 0),.call "_law_pairs_by" [.var "_law_cell",.sub (.var "_law_one") (.int 1),.sub (.var "_law_two") (.int 1)]])::.ret (.lst [.tup [.var "_law_query",.bin .Add (.sub (.var "_law_one") (.int 1)) (.sub (.var "_law_two") (.int 1)),.bin .Mult (.sub (.var "_law_one") (.int 2)) (.sub (.var "_law_two") (.int 2)),.bin .Add (.sub (.var "_law_one") (.int 3)) (.sub (.var "_law_two") (.int 3))]])::rest) σ fun d _=>k8 W R (c+12) (dp+2) d:=by
  intro a b ra rb ha hb ea eb hrr hk σ i1 i2 i3 rest
  obtain⟨prs,g1,g2,g3⟩:=pairs_by (X:=X) B n z (a.wd W) (b.wd W)
  have A:TpA W R (c+12) (dp+2) (.join a b prs) (ra * rb) (k+k2):=by
   have h1:=ha.wd;have h2:=hb.wd;have h3:=ha.k1;have h4:=ha.cp;have h5:=hb.cp;have h6:=ha.pr;have h7:=hb.pr;have h8:=ha.dp;have h9:=hb.dp
   exact⟨⟨ha.ok,hb.ok,g1,by omega⟩,by show a.wd W+b.wd W≤_;omega,by omega,hk,hrr,by show max _ _≤_;omega,by show max _ (max _ _)≤_;omega,⟨ha.nar,hb.nar,by omega⟩,by show max _ _+1≤_;omega,ra,rb,ha.rb,hb.rb,ha.r,hb.r,Nat.le_refl _⟩
  have s0:a9 (aF W a ra k) (.int 0)=some a.d:=rfl
  have s1:a9 (aF W a ra k) (.int 1)=some (.int (a.wd W)):=rfl
  have s2:a9 (aF W a ra k) (.int 2)=some (.int ra):=rfl
  have s3:a9 (aF W a ra k) (.int 3)=some (.int k):=rfl
  have t0:a9 (aF W b rb k2) (.int 0)=some b.d:=rfl
  have t1:a9 (aF W b rb k2) (.int 1)=some (.int (b.wd W)):=rfl
  have t2:a9 (aF W b rb k2) (.int 2)=some (.int rb):=rfl
  have t3:a9 (aF W b rb k2) (.int 3)=some (.int k2):=rfl
  have hra:=ha.r
  have hmul:dQ .Mult (.int ra) (.int rb)=some (.int (ra * rb:Nat)):=by
   rw[Int.natCast_mul];exact nB (by unfold lim;omega)
  have hadd:dQ .Add (.int (a.wd W)) (.int (b.wd W))=some (.int (a.wd W+b.wd W:Nat)):=by rw[Int.natCast_add];rfl
  have hadd2:dQ .Add (.int k) (.int k2)=some (.int (k+k2:Nat)):=by rw[Int.natCast_add];rfl
  refine aY (av (d:=.tup [sD "join",a.d,b.d,.tup (prs.map prT)]) (fr:=false) (aw (bN (ad (aT _ _ _) (ad (au (ae (aa i2)) (ag _ _ _) s0) (ad (au (ae (aa i3)) (ag _ _ _) t0) (ad (ax (ad (ae (aa i1)) (ad (au (ae (aa i2)) (ag _ _ _) s1) (ad (au (ae (aa i3)) (ag _ _ _) t1) (aj _ _)))) g3) (aj _ _))))) (Nat.le_of_ble_eq_true rfl)) rfl rfl)) ?_
  have j2:∀ v,Has (aC (settle (.tup [sD "join",a.d,b.d,.tup (prs.map prT)]) (ME.names (.tup [.str "join",.sub (.var "_law_one") (.int 0),.sub (.var "_law_two") (.int 0),.call "_law_pairs_by" [.var "_law_cell",.sub (.var "_law_one") (.int 1),.sub (.var "_law_two") (.int 1)]])) σ) "_law_query" v) "_law_one" (aF W a ra k):=fun _=>ak rfl (ay i2)
  have j3:∀ v,Has (aC (settle (.tup [sD "join",a.d,b.d,.tup (prs.map prT)]) (ME.names (.tup [.str "join",.sub (.var "_law_one") (.int 0),.sub (.var "_law_two") (.int 0),.call "_law_pairs_by" [.var "_law_cell",.sub (.var "_law_one") (.int 1),.sub (.var "_law_two") (.int 1)]])) σ) "_law_query" v) "_law_two" (aF W b rb k2):=fun _=>ak rfl (ay i3)
  exact b0 (d:=.list [aF W (.join a b prs) (ra * rb) (k+k2)]) (fr:=true) (aw (cI (ad (bN (ad (ae (aa aB)) (ad (ao (au (ae (aa (j2 _))) (ag _ _ _) s1) (au (ae (aa (j3 _))) (ag _ _ _) t1) hadd) (ad (ao (au (ae (aa (j2 _))) (ag _ _ _) s2) (au (ae (aa (j3 _))) (ag _ _ _) t2) hmul) (ad (ao (au (ae (aa (j2 _))) (ag _ _ _) s3) (au (ae (aa (j3 _))) (ag _ _ _) t3) hadd2) (aj _ _))))) (Nat.le_of_ble_eq_true rfl)) (aj _ _)) (Nat.le_of_ble_eq_true rfl)) rfl rfl) rfl (.inr ⟨_,_,_,A,rfl⟩)
 have c1:=nC (X:=X) (W:=W) (q:=q) (r:=r) (k:=k) B (n+1)
 have c2:=nC (X:=X) (W:=W) (q:=q2) (r:=r2) (k:=k2) B (n+1)
 have F1:TpA W R c (dp+1) (.first 6 q) (min 6 r) k:=⟨h.ok,h.wd,h.k1,h.k2,by omega,h.cp,h.pr,h.nar,Nat.succ_le_succ h.dp,r,h.rb,h.r,Nat.le_refl _⟩
 have F2:TpA W R c (dp+1) (.first 6 q2) (min 6 r2) k2:=⟨h2.ok,h2.wd,h2.k1,h2.k2,by omega,h2.cp,h2.pr,h2.nar,Nat.succ_le_succ h2.dp,r2,h2.rb,h2.r,Nat.le_refl _⟩
 have key:Rex (al P X (n+2)) ef.body [("_law_word",(false,sD "join")),("_law_cell",(false,.int z)),("_law_one",(false,aF W q r k)),("_law_two",(false,aF W q2 r2 k2))] fun d _=>k8 W R (c+12) (dp+2) d:=by
  refine cV (k:=decide ((k:Int)+k2 > 24)||(true&&decide ((q.wd W:Int)+q2.wd W > 14))) (hZ (k:=decide ((k:Int)+k2 > 24)) (l:=true&&decide ((q.wd W:Int)+q2.wd W > 14)) rfl fun _=>bA (dC (k:=true) (l:=decide ((q.wd W:Int)+q2.wd W > 14)) rfl fun _=>bA rfl)) rfl (fun _=>b0 (d:=.list []) (fr:=true) rfl rfl (.inl rfl)) fun hk=>?_
  have hk:=of_decide_eq_false (Bool.or_eq_false_iff.mp hk).1
  refine cV (k:=true) (x:=.bool true) rfl rfl (fun _=>?_) nofun
  have hmul:dQ .Mult (.int r) (.int r2)=some (.int (r * r2:Nat)):=by
   rw[Int.natCast_mul];exact nB (by unfold lim;omega)
  refine cV (k:=decide (((r * r2:Nat):Int) > 36)) (aD (ao (x:=.int r) (y:=.int r2) rfl rfl hmul) (ag _ _ _) rfl) rfl (fun _=>?_) fun hm=>?_
  ·refine aY (av (aM (ad (d:=.int 8) rfl (ad (d:=.int 5) rfl (ad (d:=aF W q r k) rfl (aj _ _)))) c1)) ?_
   refine aY (av (aM (ad (d:=.int 8) rfl (ad (d:=.int 5) rfl (ad (d:=aF W q2 r2 k2) rfl (aj _ _)))) c2)) ?_
   have hle:min 6 r * min 6 r2≤60:=Nat.le_trans (Nat.mul_le_mul (Nat.min_le_left 6 r) (Nat.min_le_left 6 r2)) (by decide)
   refine mk (.first 6 q) (.first 6 q2) (min 6 r) (min 6 r2) F1 F2 rfl rfl hle (by omega) _ ?_ ?_ ?_ _
   ·exact ak rfl (ay (ak rfl (ay ⟨_,rfl⟩)))
   ·exact ak rfl (ay aB)
   ·exact aB
  ·have hm:=of_decide_eq_false hm
   refine mk q q2 r r2 (h.up (Nat.le_refl _) (Nat.le_succ _)) (h2.up (Nat.le_refl _) (Nat.le_succ _)) rfl rfl (by omega) (by omega) _ ?_ ?_ ?_ _
   all_goals exact⟨_,rfl⟩
 obtain⟨d,fr,hm,hr⟩:=cP (X:=X) (args:=[sD "join",.int z,aF W q r k,aF W q2 r2 k2]) B.o2 rfl key
 exact⟨d,fr,hm,hr⟩
theorem ld(B:BN P)(n:Nat)(z:Int)(h:TpA W R c dp q r k)(h2:TpA W R c dp q2 r2 k2):∃ d fr,k8 W R (c+12) (dp+2) d∧(al P X (n+3)).call "_law_of_two" [sD "both",.int z,aF W q r k,aF W q2 r2 k2]=some (d,fr):=by
 have hr:=h.r;have hr2:=h2.r
 have key:Rex (al P X (n+2)) ef.body [("_law_word",(false,sD "both")),("_law_cell",(false,.int z)),("_law_one",(false,aF W q r k)),("_law_two",(false,aF W q2 r2 k2))] fun d _=>k8 W R (c+12) (dp+2) d:=by
  refine cV (k:=decide ((k:Int)+k2 > 24)||(false&&true)) (hZ (k:=decide ((k:Int)+k2 > 24)) (l:=false&&true) rfl fun _=>bA (dC (k:=false) (l:=true) rfl nofun)) rfl (fun _=>b0 (d:=.list []) (fr:=true) rfl rfl (.inl rfl)) fun hk=>?_
  have hk:=of_decide_eq_false (Bool.or_eq_false_iff.mp hk).1
  refine cV (k:=false) (x:=.bool false) rfl rfl nofun fun _=>?_
  refine cV (k:=true&&((q.wd W:Int) == (q2.wd W:Int)&&decide ((r:Int)+r2≤36))) (dC (k:=true) rfl fun _=>dC (k:=(q.wd W:Int) == (q2.wd W:Int)) (l:=decide ((r:Int)+r2≤36)) (aD (x:=.int (q.wd W)) (y:=.int (q2.wd W)) rfl rfl rfl) fun _=>bA (aD (x:=.int ((r:Int)+r2)) (y:=.int 36) rfl rfl rfl)) rfl (fun hc=>?_) fun _=>b0 (d:=.list []) (fr:=true) rfl rfl (.inl rfl)
  rw[Bool.true_and,Bool.and_eq_true,beq_iff_eq,decide_eq_true_eq] at hc
  obtain⟨hw,hrr⟩:=hc
  have hw:q.wd W=q2.wd W:=by omega
  have A:TpA W R (c+12) (dp+2) (.both q q2) (r+r2) (k+k2):=by
   have h1:=h.wd;have h3:=h.k1;have h4:=h.cp;have h5:=h2.cp;have h6:=h.pr;have h7:=h2.pr;have h8:=h.dp;have h9:=h2.dp
   exact⟨⟨h.ok,h2.ok,hw⟩,by show q.wd W≤_;omega,by omega,by omega,by omega,by show max _ _≤_;omega,by show max _ _≤_;omega,⟨h.nar,h2.nar⟩,by show max _ _+1≤_;omega,r,r2,h.rb,h2.rb,h.r,h2.r,Nat.le_refl _⟩
  refine b0 (d:=.list [aF W (.both q q2) (r+r2) (k+k2)]) (fr:=true) ?_ rfl (.inr ⟨_,_,_,A,rfl⟩)
  unfold aF
  rw[Int.natCast_add,Int.natCast_add]
  rfl
 obtain⟨d,fr,hm,hr⟩:=cP (X:=X) (args:=[sD "both",.int z,aF W q r k,aF W q2 r2 k2]) B.o2 rfl key
 exact⟨d,fr,hm,hr⟩
end

set_option maxRecDepth 100000
set_option maxHeartbeats 800000
noncomputable def iy:Fn:=⟨["_law_cell"],[
  .ite (.cmp .Eq (.bin .Mod (.bin .FloorDiv (.var "_law_cell") (.int 35)) (.int 6)) (.int 2)) [.ret (.bin .Mod (.bin .FloorDiv (.var "_law_cell") (.int 210)) (.int 13))] [],
  .ret (.sub (.lst [.int 2,.int 1,.int 3,.int 2,.int 0]) (.bin .Mod (.var "_law_cell") (.int 5)))]⟩
noncomputable def iD:Fn:=⟨["_law_cell"],[
  .ret (.sub (.lst [.int 5,.int 7,.int 4,.int 8,.int 6,.int 2,.int 0]) (.bin .Mod (.bin .FloorDiv (.var "_law_cell") (.int 5)) (.int 7)))]⟩
noncomputable def kc:Fn:=⟨["_law_script"],[
  .assign "_law_cell" (.call "_law_cell_at" [.var "_law_script",.int 0]),
  .assign "_law_words" (.lst [.str "one",.str "join",.str "table",.str "first",.str "sieve",.str "pick",.str "group",.str "order",.str "both",.str "once"]),
  .assign "_law_word" (.sub (.var "_law_words") (.bin .Mod (.bin .FloorDiv (.var "_law_cell") (.int 35)) (.int 10))),
  .assign "_law_rest" (.bin .FloorDiv (.var "_law_cell") (.int 350)),
  .ite (.cmp .Eq (.bin .Mod (.var "_law_rest") (.int 2)) (.int 0)) [.ret (.lst [.var "_law_word",.bin .Add (.str "Two ") (.call "_law_sign_by" [.bin .FloorDiv (.var "_law_rest") (.int 2)]),.str ""])] [],
  .assign "_law_at" (.bin .Mod (.bin .FloorDiv (.var "_law_rest") (.int 2)) (.bin .Add (.blt "len" [.var "_law_word"]) (.int 1))),
  .ret (.comp (.bin .Add (.bin .Add (.sl (.var "_law_word") .none (.var "_law_at")) (.call "_law_sign_by" [.bin .Add (.bin .FloorDiv (.var "_law_rest") (.int 18)) (.var "_law_k")])) (.sl (.var "_law_word") (.var "_law_at") .none)) "_law_k" (.blt "range" [.int 3]) [])]⟩
noncomputable def iG:Fn:=⟨["_law_script","_law_k"],[
  .assign "_law_shape" (.call "_law_cell_at" [.var "_law_script",.var "_law_k"]),
  .ret (.tup [.tup [.str "table",.sub (.call "_law_names" [.var "_law_script"]) (.var "_law_k")],.call "_law_wide_by" [.var "_law_shape"],.call "_law_rows_of" [.var "_law_shape"],.int 1])]⟩
noncomputable def iB:Fn:=⟨["_law_script"],[
  .assign "_law_top" (.call "_law_leaf" [.var "_law_script",.int 0]),
  .assign "_law_spare" (.call "_law_leaf" [.var "_law_script",.int 1]),
  .assign "_law_tables_here" (.call "_law_tables" [.var "_law_script",.int 0]),
  .for_ "_law_k" (.blt "range" [.sub (.lst [.int 3,.int 5,.int 2,.int 8]) (.bin .Mod (.call "_law_cell_at" [.var "_law_script",.int 2]) (.int 4))]) [.ite (.cmp .GtE (.bin .Add (.int 6) (.bin .Mult (.int 2) (.var "_law_k"))) (.blt "len" [.var "_law_script"])) [.ret (.var "_law_top")] [],.assign "_law_word" (.sub (.lst [.int 0,.int 5,.int 8,.int 5,.int 4,.int 5,.int 6,.int 7,.int 12,.int 9,.int 9,.int 9,.int 12]) (.bin .Mod (.sub (.var "_law_script") (.bin .Add (.int 6) (.bin .Mult (.int 2) (.var "_law_k")))) (.int 13))),.assign "_law_cell" (.call "_law_cell_at" [.var "_law_script",.bin .Add (.int 7) (.bin .Mult (.int 2) (.var "_law_k"))]),.assign "_law_made" (.lst []),.ite (.cmp .Lt (.var "_law_word") (.int 9)) [.assign "_law_made" (.lst [.call "_law_around" [.var "_law_word",.var "_law_cell",.var "_law_top"]]),.ite (.bop .And [.bop .Or [.cmp .Eq (.var "_law_word") (.int 8),.cmp .Eq (.var "_law_word") (.int 5)],.cmp .Gt (.bin .Mod (.var "_law_cell") (.int 4)) (.int 0)]) [.assign "_law_made" (.lst [.call "_law_sieve_on" [.sub (.var "_law_made") (.int 0),.var "_law_cell"]])] []] [.ite (.cmp .Lt (.var "_law_word") (.int 12)) [.assign "_law_made" (.call "_law_of_two" [.str "join",.var "_law_cell",.sub (.lst [.var "_law_top",.var "_law_spare"]) (.bin .Mod (.bin .FloorDiv (.var "_law_cell") (.int 2)) (.int 2)),.sub (.lst [.var "_law_spare",.var "_law_top"]) (.bin .Mod (.bin .FloorDiv (.var "_law_cell") (.int 2)) (.int 2))]),.ite (.bop .And [.cmp .NotEq (.var "_law_made") (.lst []),.cmp .Gt (.bin .Mod (.var "_law_cell") (.int 4)) (.int 0)]) [.assign "_law_made" (.lst [.call "_law_sieve_on" [.sub (.var "_law_made") (.int 0),.var "_law_cell"]])] []] [.ite (.cmp .Eq (.bin .Mod (.var "_law_cell") (.int 3)) (.int 1)) [.assign "_law_made" (.call "_law_of_two" [.str "both",.var "_law_cell",.var "_law_top",.call "_law_around" [.sub (.lst [.int 0,.int 6,.int 7]) (.bin .Mod (.bin .FloorDiv (.var "_law_cell") (.int 3)) (.int 3)),.call "_law_mixed" [.var "_law_cell",.int 5],.var "_law_top"]])] []]],.ite (.bop .And [.cmp .NotEq (.var "_law_made") (.lst []),.cmp .Gt (.bin .Mod (.var "_law_cell") (.int 8)) (.int 0),.cmp .Eq (.call "_law_answer" [.sub (.sub (.var "_law_made") (.int 0)) (.int 0),.var "_law_tables_here"]) (.lst [])]) [] [.ite (.cmp .Eq (.var "_law_made") (.lst [])) [.assign "_law_made" (.call "_law_of_two" [.str "both",.var "_law_cell",.var "_law_top",.var "_law_spare"])] [],.ite (.cmp .Eq (.var "_law_made") (.lst [])) [.assign "_law_made" (.lst [.var "_law_spare"]),.assign "_law_spare" (.var "_law_top")] [.ite (.cmp .GtE (.var "_law_word") (.int 9)) [.assign "_law_spare" (.call "_law_leaf" [.var "_law_script",.bin .Mod (.bin .FloorDiv (.var "_law_cell") (.int 36)) (.int 3)])] []],.assign "_law_top" (.sub (.var "_law_made") (.int 0))]],
  .ret (.var "_law_top")]⟩
noncomputable def ki:Fn:=⟨["_law_script"],[
  .assign "_law_top" (.call "_law_stepped" [.var "_law_script"]),
  .assign "_law_last" (.call "_law_cell_at" [.var "_law_script",.int 5]),
  .ite (.cmp .Eq (.bin .Mod (.bin .FloorDiv (.var "_law_last") (.int 3)) (.int 3)) (.int 1)) [.assign "_law_top" (.call "_law_around" [.int 8,.bin .Mod (.bin .FloorDiv (.var "_law_last") (.int 9)) (.int 3),.var "_law_top"])] [],
  .ite (.cmp .Eq (.bin .Mod (.bin .FloorDiv (.var "_law_last") (.int 3)) (.int 3)) (.int 2)) [.assign "_law_top" (.call "_law_around" [.int 5,.bin .Add (.bin .Mult (.bin .FloorDiv (.call "_law_mixed" [.var "_law_last",.int 4]) (.int 4)) (.int 4)) (.int 1),.var "_law_top"])] [],
  .assign "_law_more" (.call "_law_around" [.int 0,.bin .Add (.bin .Mult (.bin .FloorDiv (.call "_law_mixed" [.var "_law_last",.int 9]) (.int 4)) (.int 4)) (.int 2),.var "_law_top"]),
  .ite (.bop .And [.cmp .Gt (.bin .Mod (.var "_law_last") (.int 3)) (.int 0),.bop .Or [.cmp .Eq (.bin .Mod (.var "_law_last") (.int 5)) (.int 0),.cmp .NotEq (.call "_law_answer" [.sub (.var "_law_more") (.int 0),.call "_law_tables" [.var "_law_script",.int 0]]) (.lst [])]]) [.assign "_law_top" (.var "_law_more")] [],
  .assign "_law_cell" (.bin .FloorDiv (.call "_law_cell_at" [.var "_law_script",.int 1]) (.int 35)),
  .assign "_law_many_here" (.int 0),
  .ite (.cmp .Eq (.bin .Mod (.var "_law_cell") (.int 8)) (.int 1)) [.assign "_law_many_here" (.bin .Mod (.bin .FloorDiv (.var "_law_cell") (.int 8)) (.int 6))] [],
  .ite (.cmp .Eq (.bin .Mod (.var "_law_cell") (.int 32)) (.int 5)) [.assign "_law_top" (.call "_law_leaf" [.var "_law_script",.int 0]),.assign "_law_many_here" (.int 38)] [],
  .for_ "_law_k" (.blt "range" [.var "_law_many_here"]) [.assign "_law_top" (.call "_law_around" [.bin .Mod (.call "_law_mixed" [.var "_law_cell",.var "_law_k"]) (.int 9),.call "_law_mixed" [.var "_law_cell",.bin .Add (.int 50) (.var "_law_k")],.var "_law_top"])],
  .ret (.var "_law_top")]⟩
structure BE(P:List (String×Fn)):Prop extends BN P where
 wb:P.lookup "_law_wide_by"=some iy
 ro:P.lookup "_law_rows_of"=some iD
 nm:P.lookup "_law_names"=some kc
 lf:P.lookup "_law_leaf"=some iG
 st:P.lookup "_law_stepped"=some iB
 bu:P.lookup "_law_built"=some ki
noncomputable def lO:List String:=["one","join","table","first","sieve","pick","group","order","both","once"]
theorem rM:∀ m<94,bQ cu m≠bQ cu ((m+1) % 94)∧bQ cu m≠bQ cu ((m+2) % 94):=by decide +kernel
theorem rz(x y:Str):(x++y).cps.toList=x.cps.toList++y.cps.toList:=Array.toList_append
theorem str_ext{x y:Str}(h:x.cps.toList=y.cps.toList):x=y:=by
 obtain⟨⟨x⟩⟩:=x;obtain⟨⟨y⟩⟩:=y
 have h:x=y:=h
 rw[h]
theorem app_mid{U V x y:Str}(h:U++x++V=U++y++V):x=y:=by
 have h:=congrArg (fun s:Str=>s.cps.toList) h
 simp only[rz] at h
 exact str_ext (List.append_cancel_left (List.append_cancel_right h))
theorem two_head:∀ s∈lO,(Str.ofString s).cps.toList.head?≠some 84:=by decide +kernel
theorem two_list:(Str.ofString "Two ").cps.toList=[84,119,111,32]:=by decide +kernel
theorem empty_len:(Str.ofString "").length=0:=by decide +kernel
theorem w10_ne:∀ s∈lO,s≠"":=by decide
theorem w10_len:∀ s∈lO,(Str.ofString s).length≤8:=by decide +kernel
theorem md94{y:Int}{m:Nat}(k:Nat)(h:y % 94=m):((y+(k:Int)) % 94).toNat=(m+k) % 94:=by
 rw[← Int.emod_add_emod,h,← Int.natCast_add];rfl
section
variable {P:List (String×Fn)} {X:CF}
theorem names_eq(B:BE P)(ns:List Int):∃ a b c:Str,(a≠b∧a≠c∧b≠c)∧∀ n,(al P X (n+2)).call "_law_names" [.list (ns.map .int)]=some (.list [.str a,.str b,.str c],true):=by
 have c0:∀ n,(al P X (n+1)).call "_law_cell_at" [.list (ns.map .int),.int 0]=some (.int (ns.getD 0 0),false):=fun n=>fm (X:=X) B.toBG n ns 0
 generalize ns.getD 0 0=z at *
 generalize D.list (ns.map .int)=S at *
 obtain⟨d,⟨s,hs,rfl⟩,hd⟩:=cE (l:=[.str (Str.ofString "one"),.str (Str.ofString "join"),.str (Str.ofString "table"),.str (Str.ofString "first"),.str (Str.ofString "sieve"),.str (Str.ofString "pick"),.str (Str.ofString "group"),.str (Str.ofString "order"),.str (Str.ofString "both"),.str (Str.ofString "once")]) (by decide) (z / 35) (R:=fun d=>∃ s,s∈lO∧d=.str (Str.ofString s)) (by
  intro d hd
  simp only[List.mem_cons,List.not_mem_nil,or_false] at hd
  rcases hd with rfl | rfl | rfl | rfl | rfl | rfl | rfl | rfl | rfl | rfl <;> exact⟨_,by decide,rfl⟩)
 have hd:a9 (.list [.str (Str.ofString "one"),.str (Str.ofString "join"),.str (Str.ofString "table"),.str (Str.ofString "first"),.str (Str.ofString "sieve"),.str (Str.ofString "pick"),.str (Str.ofString "group"),.str (Str.ofString "order"),.str (Str.ofString "both"),.str (Str.ofString "once")]) (.int (z / 35 % 10))=some (.str (Str.ofString s)):=hd
 have hbig:100≤big:=by decide
 have hl:=w10_len s hs
 cases hm:(z / 350 % 2 == 0) with
 | true=>
  have g:=fun n=>oW (X:=X) B.toBG n (z / 350 / 2)
  have k0:=k7 (u:=Str.ofString "Two ") (v:=bQ cu (z / 350 / 2 % 94).toNat) (by have h1:(bQ cu (z / 350 / 2 % 94).toNat).length=1:=rfl;have h2:(Str.ofString "Two ").length=4:=(by decide +kernel);omega)
  refine⟨Str.ofString s,Str.ofString "Two "++bQ cu (z / 350 / 2 % 94).toNat,Str.ofString "",⟨fun e=>?_,fun e=>w10_ne s hs (cW e),fun e=>?_⟩,fun n=>az B.nm rfl ?_⟩
  ·refine two_head s hs ?_
   rw[e,rz,two_list];rfl
  ·have:=congrArg Str.length e
   rw[eV,empty_len] at this
   have h1:(bQ cu (z / 350 / 2 % 94).toNat).length=1:=rfl
   omega
  ·have c1:=c0 n;have g1:=g n
   exact aL (av (aM (ad (ae rfl) (ad (ag _ _ _) (aj _ _))) c1)) (aL (av (aw (cI (ad (aT _ _ _) (ad (aT _ _ _) (ad (aT _ _ _) (ad (aT _ _ _) (ad (aT _ _ _) (ad (aT _ _ _) (ad (aT _ _ _) (ad (aT _ _ _) (ad (aT _ _ _) (ad (aT _ _ _) (aj _ _))))))))))) (of_decide_eq_true (id (Eq.refl true)))) rfl rfl)) (aL (av (aw (au (ae (aa aB)) (ao (ao (ae (aa (ak rfl (ay aB)))) (ag _ _ _) (a7 (of_decide_eq_true (id (Eq.refl true))))) (ag _ _ _) (aJ (of_decide_eq_true (id (Eq.refl true))))) hd) rfl rfl)) (aL (av (aw (ao (ae (aa (ak rfl (ay (ak rfl (ay aB)))))) (ag _ _ _) (a7 (of_decide_eq_true (id (Eq.refl true))))) rfl rfl)) (cH (aD (ao (ae (aa aB)) (ag _ _ _) (aJ (of_decide_eq_true (id (Eq.refl true))))) (ag _ _ _) rfl) rfl (fun hh=>aK (aw (cI (ad (ae (aa (ak rfl (ay aB)))) (ad (ao (aT _ _ _) (ax (ad (ao (ae (aa aB)) (ag _ _ _) (a7 (of_decide_eq_true (id (Eq.refl true))))) (aj _ _)) g1) k0) (ad (aT _ _ _) (aj _ _)))) (Nat.le_of_ble_eq_true rfl)) rfl rfl) rfl) fun hh=>uq hm hh))))
 | false=>
  have hb:(Str.ofString s).length≤big:=by omega
  have l1:=len_s hb
  have w3:(0:Int)<((Str.ofString s).length:Int)+1:=by omega
  obtain⟨U,hU,w4⟩:=rL (Str.ofString s) (z / 350 / 2 % (((Str.ofString s).length:Int)+1)) hb
  obtain⟨V,hV,w5⟩:=ud (Str.ofString s) (z / 350 / 2 % (((Str.ofString s).length:Int)+1)) hb
  have hne:∀ i j:Nat,bQ cu i≠bQ cu j→U++bQ cu i++V≠U++bQ cu j++V:=fun i j h e=>h (app_mid e)
  obtain⟨m,em,hm94⟩:=bM (z / 350 / 18) (k:=94) (by decide)
  have em:z / 350 / 18 % 94=(m:Int):=em
  have e0:((z / 350 / 18+(0:Nat)) % 94).toNat=m:=(md94 0 em).trans (Nat.mod_eq_of_lt hm94)
  have e1:((z / 350 / 18+(1:Nat)) % 94).toNat=(m+1) % 94:=md94 1 em
  have e2:((z / 350 / 18+(2:Nat)) % 94).toNat=(m+2) % 94:=md94 2 em
  have e3:(m+2) % 94=((m+1) % 94+1) % 94:=(Nat.mod_add_mod (m+1) 94 1).symm
  refine⟨U++bQ cu ((z / 350 / 18+(0:Nat)) % 94).toNat++V,U++bQ cu ((z / 350 / 18+(1:Nat)) % 94).toNat++V,U++bQ cu ((z / 350 / 18+(2:Nat)) % 94).toNat++V,⟨hne _ _ ?_,hne _ _ ?_,hne _ _ ?_⟩,fun n=>az B.nm rfl ?_⟩
  ·rw[e0,e1];exact (rM m hm94).1
  ·rw[e0,e2];exact (rM m hm94).2
  ·rw[e1,e2,e3];exact (rM _ (Nat.mod_lt _ (by decide))).1
  ·have c1:=c0 n
   have hcomp:∀ σ:St,Has σ "_law_word" (.str (Str.ofString s))→Has σ "_law_at" (.int (z / 350 / 2 % (((Str.ofString s).length:Int)+1)))→Has σ "_law_rest" (.int (z / 350))→evE (al P X (n+1)) (vis σ) (.comp (.bin .Add (.bin .Add (.sl (.var "_law_word") .none (.var "_law_at")) (.call "_law_sign_by" [.bin .Add (.bin .FloorDiv (.var "_law_rest") (.int 18)) (.var "_law_k")])) (.sl (.var "_law_word") (.var "_law_at") .none)) "_law_k" (.blt "range" [.int 3]) [])=some (.list ((List.range 3).map fun (i:Nat)=>D.str (U++bQ cu ((z / 350 / 18+(i:Int)) % 94).toNat++V))):=by
    intro σ i1 i2 i3
    refine jq (x:=.rng 0 3) rfl (dG 3) (by decide) (nh _ _ _ _ fun i _=>kX ?_)
    have g1:=oW (X:=X) B.toBG n (z / 350 / 18+(i:Int))
    have hc:(bQ cu ((z / 350 / 18+(i:Int)) % 94).toNat).length=1:=rfl
    have w6:=k7 (u:=U) (v:=bQ cu ((z / 350 / 18+(i:Int)) % 94).toNat) (by omega)
    have w7:=k7 (u:=U++bQ cu ((z / 350 / 18+(i:Int)) % 94).toNat) (v:=V) (by rw[eV];omega)
    exact ao (ao (nJ (ae (aX rfl (aa i1))) (eZ _ _) (ae (aX rfl (aa i2))) w4) (ax (ad (ao (ao (ae (aX rfl (aa i3))) (ag _ _ _) (a7 (of_decide_eq_true (id (Eq.refl true))))) (ae bw) cw) (aj _ _)) g1) w6) (nJ (ae (aX rfl (aa i1))) (ae (aX rfl (aa i2))) (eZ _ _) w5) w7
   refine aL (av (aM (ad (d:=S) rfl (ad (d:=.int 0) rfl (aj _ _))) c1)) ?_
   refine aL (av (d:=.list [.str (Str.ofString "one"),.str (Str.ofString "join"),.str (Str.ofString "table"),.str (Str.ofString "first"),.str (Str.ofString "sieve"),.str (Str.ofString "pick"),.str (Str.ofString "group"),.str (Str.ofString "order"),.str (Str.ofString "both"),.str (Str.ofString "once")]) (fr:=true) rfl) ?_
   refine aL (av (d:=.str (Str.ofString s)) (fr:=false) (aw (au (ae (aa aB)) (ao (ao (ae (aa (ak rfl (ay aB)))) (ag _ _ _) (a7 (of_decide_eq_true (id (Eq.refl true))))) (ag _ _ _) (aJ (of_decide_eq_true (id (Eq.refl true))))) hd) rfl rfl)) ?_
   refine aL (av (d:=.int (z / 350)) (fr:=false) (aw (ao (ae (aa (ak rfl (ay (ak rfl (ay aB)))))) (ag _ _ _) (a7 (of_decide_eq_true (id (Eq.refl true))))) rfl rfl)) ?_
   refine cH (k:=false) (x:=.bool false) (by rw[← hm];exact aD (ao (ae (aa aB)) (ag _ _ _) (aJ (of_decide_eq_true (id (Eq.refl true))))) (ag _ _ _) rfl) rfl nofun fun _=>?_
   refine aL (av (d:=.int (z / 350 / 2 % (((Str.ofString s).length:Int)+1))) (fr:=false) (aw (ao (ao (ae (aa aB)) (ag _ _ _) (a7 (of_decide_eq_true (id (Eq.refl true))))) (ao (bS (ad (ae (aa (ak rfl (ay aB)))) (aj _ _)) l1) (ag _ _ _) cw) (aJ w3)) rfl rfl)) ?_
   exact aK (aw (hcomp _ (ak rfl (ay (ak rfl (ay aB)))) (aB) (ak rfl (ay aB))) rfl rfl) rfl
end

set_option maxRecDepth 100000
set_option maxHeartbeats 800000
noncomputable def bC(c:Int):Nat:=if (c / 35 % 6 == 2)=true then (c / 210 % 13).toNat else [2,1,3,2,0].getD (c % 5).toNat 0
theorem jJ(c:Int):bC c≤12:=by
 unfold bC
 split
 ·omega
 ·obtain⟨m,e,hm⟩:=bM c (k:=5) (by decide)
  have e:c % 5=m:=e
  rw[e,Int.toNat_natCast]
  exact (by decide:∀ m<5,[2,1,3,2,0].getD m 0≤12) m hm
section
variable {P:List (String×Fn)} {X:CF}
theorem r8(B:BE P)(n:Nat)(c:Int):(al P X (n+1)).call "_law_wide_by" [.int c]=some (.int (bC c),false):=by
 refine az B.wb rfl ?_
 unfold bC
 cases h:(c / 35 % 6 == 2) with
 | true=>
  rw[if_pos rfl]
  have e:((c / 210 % 13).toNat:Int)=c / 210 % 13:=by omega
  rw[e]
  exact cH (aD (ao (ao (ae rfl) (ag _ _ _) (a7 (of_decide_eq_true (id (Eq.refl true))))) (ag _ _ _) (aJ (of_decide_eq_true (id (Eq.refl true))))) (ag _ _ _) rfl) rfl (fun hh=>aK (aw (ao (ao (ae rfl) (ag _ _ _) (a7 (of_decide_eq_true (id (Eq.refl true))))) (ag _ _ _) (aJ (of_decide_eq_true (id (Eq.refl true))))) rfl rfl) rfl) fun hh=>uq h hh
 | false=>
  rw[if_neg Bool.false_ne_true]
  obtain⟨m,e,hm⟩:=bM c (k:=5) (by decide)
  have e:c % 5=m:=e
  have q:a9 (.list [.int 2,.int 1,.int 3,.int 2,.int 0]) (.int (c % 5))=some (.int ([2,1,3,2,0].getD (c % 5).toNat 0:Nat)):=by
   rw[e,Int.toNat_natCast]
   refine l9 (by simpa using hm) ?_
   match m,hm with
   | 0,_=>rfl
   | 1,_=>rfl
   | 2,_=>rfl
   | 3,_=>rfl
   | 4,_=>rfl
  exact cH (aD (ao (ao (ae rfl) (ag _ _ _) (a7 (of_decide_eq_true (id (Eq.refl true))))) (ag _ _ _) (aJ (of_decide_eq_true (id (Eq.refl true))))) (ag _ _ _) rfl) rfl (fun hh=>uq hh h) fun hh=>aK (aw (au (cI (ad (ag _ _ _) (ad (ag _ _ _) (ad (ag _ _ _) (ad (ag _ _ _) (ad (ag _ _ _) (aj _ _)))))) (of_decide_eq_true (id (Eq.refl true)))) (ao (ae rfl) (ag _ _ _) (aJ (of_decide_eq_true (id (Eq.refl true))))) q) rfl rfl) rfl
noncomputable def cm(c:Int):Nat:=match a9 (.list [.int 5,.int 7,.int 4,.int 8,.int 6,.int 2,.int 0]) (.int (c / 5 % 7)) with
 | some (.int m)=>m.toNat
 | _=>0
theorem jS(B:BE P)(n:Nat)(c:Int):cm c≤8∧(al P X (n+1)).call "_law_rows_of" [.int c]=some (.int (cm c),false):=by
 obtain⟨d,⟨m,rfl,hm⟩,q⟩:=cE (l:=[.int 5,.int 7,.int 4,.int 8,.int 6,.int 2,.int 0]) (by decide) (c / 5) (R:=fun d=>∃ m:Nat,d=.int m∧m≤8) (by
  intro d hd
  simp only[List.mem_cons,List.not_mem_nil,or_false] at hd
  rcases hd with rfl | rfl | rfl | rfl | rfl | rfl | rfl <;> first | exact⟨5,rfl,by decide⟩ | exact⟨7,rfl,by decide⟩ | exact⟨4,rfl,by decide⟩ | exact⟨8,rfl,by decide⟩ | exact⟨6,rfl,by decide⟩ | exact⟨2,rfl,by decide⟩ | exact⟨0,rfl,by decide⟩)
 have q:a9 (.list [.int 5,.int 7,.int 4,.int 8,.int 6,.int 2,.int 0]) (.int (c / 5 % 7))=some (.int m):=q
 have e:cm c=m:=by unfold cm;rw[q];exact Int.toNat_natCast m
 rw[e]
 refine⟨hm,az B.ro rfl ?_⟩
 exact aK (aw (au (cI (ad (ag _ _ _) (ad (ag _ _ _) (ad (ag _ _ _) (ad (ag _ _ _) (ad (ag _ _ _) (ad (ag _ _ _) (ad (ag _ _ _) (aj _ _)))))))) (of_decide_eq_true (id (Eq.refl true)))) (ao (ao (ae rfl) (ag _ _ _) (a7 (of_decide_eq_true (id (Eq.refl true))))) (ag _ _ _) (aJ (of_decide_eq_true (id (Eq.refl true))))) q) rfl rfl) rfl
noncomputable def W3(a b c:Str)(x y z:Nat):Wd:=[(a,x),(b,y),(c,z)]
theorem uc{a b:Str}(h:a≠b):aR (.str a) (.str b)=false:=by
 show (a == b)=false
 rw[beq_eq_false_iff_ne];exact h
theorem leaf_eq(B:BE P)(n:Nat)(ns:List Int){a b c:Str}(hab:a≠b)(hac:a≠c)(hbc:b≠c)(hn:(al P X (n+2)).call "_law_names" [.list (ns.map .int)]=some (.list [.str a,.str b,.str c],true))(k:Nat)(hk:k<3) :
  ∃ q r,TpA (W3 a b c (bC (ns.getD 0 0)) (bC (ns.getD 1 0)) (bC (ns.getD 2 0))) (W3 a b c (cm (ns.getD 0 0)) (cm (ns.getD 1 0)) (cm (ns.getD 2 0))) 0 0 q r 1∧(al P X (n+3)).call "_law_leaf" [.list (ns.map .int),.int k]=some (aF (W3 a b c (bC (ns.getD 0 0)) (bC (ns.getD 1 0)) (bC (ns.getD 2 0))) q r 1,false):=by
 obtain⟨nm,h1,h2,h3⟩:∃ nm,a9 (.list [.str a,.str b,.str c]) (.int k)=some (.str nm)∧(W3 a b c (bC (ns.getD 0 0)) (bC (ns.getD 1 0)) (bC (ns.getD 2 0))).lookup nm=some (bC (ns.getD k 0))∧(W3 a b c (cm (ns.getD 0 0)) (cm (ns.getD 1 0)) (cm (ns.getD 2 0))).lookup nm=some (cm (ns.getD k 0)):=by
  have e1:∀ x:Str,(x == x)=true:=fun x=>beq_self_eq_true x
  have e2:(b == a)=false:=by rw[beq_eq_false_iff_ne];exact hab.symm
  have e3:(c == a)=false:=by rw[beq_eq_false_iff_ne];exact hac.symm
  have e4:(c == b)=false:=by rw[beq_eq_false_iff_ne];exact hbc.symm
  have f0:∀ x y z,(W3 a b c x y z).lookup a=some x:=fun x y z=>by unfold W3;rw[List.lookup_cons,e1]
  have f1:∀ x y z,(W3 a b c x y z).lookup b=some y:=fun x y z=>by unfold W3;rw[List.lookup_cons,e2];show List.lookup _ _=_;rw[List.lookup_cons,e1]
  have f2:∀ x y z,(W3 a b c x y z).lookup c=some z:=fun x y z=>by unfold W3;rw[List.lookup_cons,e3];show List.lookup _ _=_;rw[List.lookup_cons,e4];show List.lookup _ _=_;rw[List.lookup_cons,e1]
  match k,hk with
  | 0,_=>exact⟨a,rfl,f0 _ _ _,f0 _ _ _⟩
  | 1,_=>exact⟨b,rfl,f1 _ _ _,f1 _ _ _⟩
  | 2,_=>exact⟨c,rfl,f2 _ _ _,f2 _ _ _⟩
 generalize W3 a b c (bC (ns.getD 0 0)) (bC (ns.getD 1 0)) (bC (ns.getD 2 0))=W at *
 generalize W3 a b c (cm (ns.getD 0 0)) (cm (ns.getD 1 0)) (cm (ns.getD 2 0))=R at *
 have c0:=fm (X:=X) B.toBG (n+1) ns k
 have w0:=r8 (X:=X) B (n+1) (ns.getD k 0)
 have hw:=jJ (ns.getD k 0)
 have hr:=(jS (X:=X) B (n+1) (ns.getD k 0)).1
 have r0:=(jS (X:=X) B (n+1) (ns.getD k 0)).2
 generalize cm (ns.getD k 0)=r at *
 generalize ns.getD k 0=z at *
 have hwd:(Q.table nm).wd W=bC z:=by show (W.lookup nm).getD 0=_;rw[h2];rfl
 refine⟨.table nm,r,⟨⟨_,h2⟩,by rw[hwd];omega,by decide,by decide,by omega,Nat.le_refl _,Nat.zero_le _,trivial,Nat.le_refl _,r,h3,Nat.le_refl _⟩,?_⟩
 unfold aF
 rw[hwd]
 show _=some (D.tup [.tup [.str (Str.ofString "table"),.str nm],.int (bC z),.int r,.int 1],false)
 generalize D.list (ns.map .int)=S at *
 refine az B.lf rfl ?_
 show Run _ iG.body [("_law_script",(false,S)),("_law_k",(false,.int k))] _ _
 exact aL (av (aM (ad (ae (aa af)) (ad (ae (aa (ai rfl af))) (aj _ _))) c0)) (aK (aw (bN (ad (bN (ad (aT _ _ _) (ad (au (ax (ad (ae (aa (ak rfl (ay af)))) (aj _ _)) hn) (ae (aa (ak rfl (ay (ai rfl af))))) h1) (aj _ _))) (Nat.le_of_ble_eq_true rfl)) (ad (ax (ad (ae (aa aB)) (aj _ _)) w0) (ad (ax (ad (ae (aa aB)) (aj _ _)) r0) (ad (ag _ _ _) (aj _ _))))) (Nat.le_of_ble_eq_true rfl)) rfl rfl) rfl)
end

set_option maxRecDepth 100000
set_option maxHeartbeats 800000
theorem o_retv{cf:CF}{σ:St}{z:String}{d:D}{fr:Bool}{r:List MS}{R:Fl→St→Prop}(h:σ.lookup z=some (fr,d))(q:R (.ret fr d) σ):Out cf (.ret (.var z)::r) σ R:=⟨_,_,q,nP (x_rx h)⟩
theorem mA{cf:CF}{body:List MS}{z:String}(I:Nat→St→Prop)(R:D→Bool→Prop)(N:Nat):∀ (its:List D) (k:Nat) (σ:St),k+its.length≤N→I k σ→(∀ k it σ,k<N→it∈its→I k σ→Out cf body (aC σ z (false,it)) fun fl σ'=>(fl=.next∧I (k+1) σ')∨∃ d fr,fl=.ret fr d∧R d fr) →
  ∃ σ',(I (k+its.length) σ'∧cj (cC cf body z) its σ=some (.next,σ'))∨∃ d fr,R d fr∧cj (cC cf body z) its σ=some (.ret fr d,σ')
 | [],k,σ,_,h,_=>⟨σ,.inl ⟨h,rfl⟩⟩
 | it::r,k,σ,hN,h,hs=>by
  rw[List.length_cons] at hN
  obtain⟨fl,σ₁,q,e⟩:=hs k it σ (by omega) (.head _) h
  rcases q with⟨rfl,i1⟩ | ⟨d,fr,rfl,q⟩
  ·obtain⟨σ₂,c⟩:=mA I R N r (k+1) σ₁ (by omega) i1 fun k i s hk hi=>hs k i s hk (.tail _ hi)
   refine⟨σ₂,?_⟩
   rw[cF,e,List.length_cons,Nat.add_comm r.length 1,← Nat.add_assoc]
   exact c
  ·exact⟨σ₁,.inr ⟨d,fr,q,by rw[cF,e];rfl⟩⟩
noncomputable def sd:List MS:=[.ite (.cmp .Eq (.var "_law_made") (.lst [])) [.assign "_law_made" (.lst [.var "_law_spare"]),.assign "_law_spare" (.var "_law_top")] [.ite (.cmp .GtE (.var "_law_word") (.int 9)) [.assign "_law_spare" (.call "_law_leaf" [.var "_law_script",.bin .Mod (.bin .FloorDiv (.var "_law_cell") (.int 36)) (.int 3)])] []],.assign "_law_top" (.sub (.var "_law_made") (.int 0))]
noncomputable def sa:List MS:=.ite (.cmp .Eq (.var "_law_made") (.lst [])) [.assign "_law_made" (.call "_law_of_two" [.str "both",.var "_law_cell",.var "_law_top",.var "_law_spare"])] []::sd
noncomputable def oU:List MS:=[.ite (.bop .And [.cmp .NotEq (.var "_law_made") (.lst []),.cmp .Gt (.bin .Mod (.var "_law_cell") (.int 8)) (.int 0),.cmp .Eq (.call "_law_answer" [.sub (.sub (.var "_law_made") (.int 0)) (.int 0),.var "_law_tables_here"]) (.lst [])]) [] sa]
noncomputable def p6:List MS:=[.ite (.cmp .GtE (.bin .Add (.int 6) (.bin .Mult (.int 2) (.var "_law_k"))) (.blt "len" [.var "_law_script"])) [.ret (.var "_law_top")] [],.assign "_law_word" (.sub (.lst [.int 0,.int 5,.int 8,.int 5,.int 4,.int 5,.int 6,.int 7,.int 12,.int 9,.int 9,.int 9,.int 12]) (.bin .Mod (.sub (.var "_law_script") (.bin .Add (.int 6) (.bin .Mult (.int 2) (.var "_law_k")))) (.int 13))),.assign "_law_cell" (.call "_law_cell_at" [.var "_law_script",.bin .Add (.int 7) (.bin .Mult (.int 2) (.var "_law_k"))]),.assign "_law_made" (.lst []),.ite (.cmp .Lt (.var "_law_word") (.int 9)) [.assign "_law_made" (.lst [.call "_law_around" [.var "_law_word",.var "_law_cell",.var "_law_top"]]),.ite (.bop .And [.bop .Or [.cmp .Eq (.var "_law_word") (.int 8),.cmp .Eq (.var "_law_word") (.int 5)],.cmp .Gt (.bin .Mod (.var "_law_cell") (.int 4)) (.int 0)]) [.assign "_law_made" (.lst [.call "_law_sieve_on" [.sub (.var "_law_made") (.int 0),.var "_law_cell"]])] []] [.ite (.cmp .Lt (.var "_law_word") (.int 12)) [.assign "_law_made" (.call "_law_of_two" [.str "join",.var "_law_cell",.sub (.lst [.var "_law_top",.var "_law_spare"]) (.bin .Mod (.bin .FloorDiv (.var "_law_cell") (.int 2)) (.int 2)),.sub (.lst [.var "_law_spare",.var "_law_top"]) (.bin .Mod (.bin .FloorDiv (.var "_law_cell") (.int 2)) (.int 2))]),.ite (.bop .And [.cmp .NotEq (.var "_law_made") (.lst []),.cmp .Gt (.bin .Mod (.var "_law_cell") (.int 4)) (.int 0)]) [.assign "_law_made" (.lst [.call "_law_sieve_on" [.sub (.var "_law_made") (.int 0),.var "_law_cell"]])] []] [.ite (.cmp .Eq (.bin .Mod (.var "_law_cell") (.int 3)) (.int 1)) [.assign "_law_made" (.call "_law_of_two" [.str "both",.var "_law_cell",.var "_law_top",.call "_law_around" [.sub (.lst [.int 0,.int 6,.int 7]) (.bin .Mod (.bin .FloorDiv (.var "_law_cell") (.int 3)) (.int 3)),.call "_law_mixed" [.var "_law_cell",.int 5],.var "_law_top"]])] []]]]++oU
theorem k8.up{W R:Wd}{c dp c' dp':Nat}{d:D}(h:k8 W R c dp d)(h1:c≤c')(h2:dp≤dp'):k8 W R c' dp' d:=h.elim .inl fun⟨q,r,k,a,e⟩=>.inr ⟨q,r,k,a.up h1 h2,e⟩
theorem ux:eG .Eq (.list []) (.list [])=some (.bool true):=rfl
theorem uy(t:D):eG .Eq (.list [t]) (.list [])=some (.bool false):=rfl
theorem sJ:eG .NotEq (.list []) (.list [])=some (.bool false):=rfl
theorem sI(t:D):eG .NotEq (.list [t]) (.list [])=some (.bool true):=rfl
section
variable {P:List (String×Fn)} {X:CF} {W R:Wd} {TT:D}
structure fN(W R:Wd)(TT S:D)(c dp:Nat)(σ:St):Prop where
 tt:Has σ "_law_tables_here" TT
 sc:Has σ "_law_script" S
 tp:∃ q r k,TpA W R c dp q r k∧Has σ "_law_top" (aF W q r k)
 sp:∃ q r k,TpA W R c dp q r k∧Has σ "_law_spare" (aF W q r k)
theorem pZ{cf:CF}{S:D}{c dp:Nat}(hleaf:∀ k:Nat,k<3→∃ q r,TpA W R 0 0 q r 1∧cf.call "_law_leaf" [S,.int k]=some (aF W q r 1,false)){w z:Int}{d:D}{σ:St}(I:fN W R TT S c dp σ)(h1:Has σ "_law_word" (.int w))(h2:Has σ "_law_cell" (.int z))(h3:Has σ "_law_made" d)(hm:k8 W R c dp d) :
  Out cf sd σ fun fl σ'=>fl=.next∧fN W R TT S c dp σ':=by
 obtain⟨iT,i0,⟨q1,r1,k1,t1,i1⟩,⟨q2,r2,k2,t2,i2⟩⟩:=I
 have hbig:1≤big:=by decide
 rcases hm with rfl | ⟨q,r,k,t,rfl⟩
 ·have s0:a9 (.list [aF W q2 r2 k2]) (.int 0)=some (aF W q2 r2 k2):=rfl
  generalize hT2:aF W q2 r2 k2=T2 at *
  generalize hT1:aF W q1 r1 k1=T1 at *
  refine cM (k:=true) (x:=.bool true) (aD (ae (aa h3)) (cI (aj _ _) (Nat.zero_le _)) ux) rfl (fun _=>?_) nofun
  refine aN (av (d:=.list [T2]) (fr:=true) (aw (cI (ad (ae (aa i2)) (aj _ _)) (Nat.le_of_ble_eq_true rfl)) rfl rfl)) (aN (av (d:=T1) (fr:=frF (.var "_law_top") T1) (aw (ae (aa (ak rfl (ay i1)))) rfl rfl)) (aN (av (d:=T2) (fr:=frF (.sub (.var "_law_made") (.int 0)) T2) (aw (au (x:=.list [T2]) (y:=.int 0) (ae (aa (ak rfl (ay aB)))) (ag _ _ _) s0) rfl rfl)) (bJ ⟨rfl,(ak rfl (ay (ak rfl (ay (ak rfl (ay iT)))))),(ak rfl (ay (ak rfl (ay (ak rfl (ay i0)))))),⟨q2,r2,k2,t2,?_⟩,⟨q1,r1,k1,t1,?_⟩⟩)))
  ·rw[hT2];exact aB
  ·rw[hT1];exact ak rfl (ay aB)
 ·have s0:a9 (.list [aF W q r k]) (.int 0)=some (aF W q r k):=rfl
  generalize hT:aF W q r k=T at *
  refine cM (k:=false) (x:=.bool false) (aD (ae (aa h3)) (cI (aj _ _) (Nat.zero_le _)) (uy _)) rfl nofun fun _=>?_
  refine cM (k:=decide (w ≥ 9)) (aD (ae (aa h1)) (ag _ _ _) rfl) rfl (fun _=>?_) fun _=>?_
  ·obtain⟨m,em,hm3⟩:=bM (z / 36) (k:=3) (by decide)
   have em:z / 36 % 3=(m:Int):=em
   obtain⟨q3,r3,t3,l3⟩:=hleaf m hm3
   rw[← em] at l3
   generalize hT3:aF W q3 r3 1=T3 at *
   refine aN (av (d:=T3) (fr:=false) (aM (ad (ae (aa i0)) (ad (ao (ao (ae (aa h2)) (ag _ _ _) (a7 (of_decide_eq_true (id (Eq.refl true))))) (ag _ _ _) (aJ (of_decide_eq_true (id (Eq.refl true))))) (aj _ _))) l3)) (aN (av (d:=T) (fr:=frF (.sub (.var "_law_made") (.int 0)) T) (aw (au (x:=.list [T]) (y:=.int 0) (ae (aa (ak rfl (ay h3)))) (ag _ _ _) s0) rfl rfl)) (bJ ⟨rfl,(ak rfl (ay (ak rfl (ay iT)))),(ak rfl (ay (ak rfl (ay i0)))),⟨q,r,k,t,?_⟩,⟨q3,r3,1,t3.up (Nat.zero_le _) (Nat.zero_le _),?_⟩⟩))
   ·rw[hT];exact aB
   ·rw[hT3];exact ak rfl (ay aB)
  ·refine aN (av (d:=T) (fr:=frF (.sub (.var "_law_made") (.int 0)) T) (aw (au (x:=.list [T]) (y:=.int 0) (ae (aa h3)) (ag _ _ _) s0) rfl rfl)) (bJ ⟨rfl,(ak rfl (ay iT)),(ak rfl (ay i0)),⟨q,r,k,t,?_⟩,⟨q2,r2,k2,t2,?_⟩⟩)
   ·rw[hT];exact aB
   ·exact ak rfl (ay i2)
theorem fN.up{S:D}{c dp c' dp':Nat}{σ:St}(I:fN W R TT S c dp σ)(h1:c≤c')(h2:dp≤dp'):fN W R TT S c' dp' σ:=
 ⟨I.tt,I.sc,let ⟨q,r,k,t,h⟩:=I.tp;⟨q,r,k,t.up h1 h2,h⟩,let ⟨q,r,k,t,h⟩:=I.sp;⟨q,r,k,t.up h1 h2,h⟩⟩
theorem fN.set{S:D}{c dp:Nat}{σ:St}{x:String}{v:Bool×D}{e:D}{ns:List String}(I:fN W R TT S c dp σ)(h0:("_law_tables_here" == x)=false)(h1:("_law_script" == x)=false)(h2:("_law_top" == x)=false)(h3:("_law_spare" == x)=false):fN W R TT S c dp (aC (settle e ns σ) x v):=
 ⟨ak h0 (ay I.tt),ak h1 (ay I.sc),let ⟨q,r,k,t,h⟩:=I.tp;⟨q,r,k,t,ak h2 (ay h)⟩,let ⟨q,r,k,t,h⟩:=I.sp;⟨q,r,k,t,ak h3 (ay h)⟩⟩
theorem step_mid(B:BN P)(n:Nat){S:D}{c dp:Nat}(hleaf:∀ k:Nat,k<3→∃ q r,TpA W R 0 0 q r 1∧(al P X (n+7)).call "_law_leaf" [S,.int k]=some (aF W q r 1,false)){w z:Int}{d:D}{σ:St}(I:fN W R TT S c dp σ)(h1:Has σ "_law_word" (.int w))(h2:Has σ "_law_cell" (.int z))(h3:Has σ "_law_made" d)(hm:k8 W R (c+24) (dp+3) d) :
  Out (al P X (n+7)) sa σ fun fl σ'=>fl=.next∧fN W R TT S (c+24) (dp+3) σ':=by
 obtain⟨iT,i0,⟨q1,r1,k1,t1,i1⟩,⟨q2,r2,k2,t2,i2⟩⟩:=id I
 rcases hm with rfl | ⟨q,r,k,t,rfl⟩
 ·obtain⟨d',fr,m',e'⟩:=ld (X:=X) B (n+4) z t1 t2
  refine cM (k:=true) (x:=.bool true) (aD (ae (aa h3)) (cI (aj _ _) (Nat.zero_le _)) ux) rfl (fun _=>?_) nofun
  refine aN (av (aM (ad (aT _ _ _) (ad (ae (aa h2)) (ad (ae (aa i1)) (ad (ae (aa i2)) (aj _ _))))) e')) ?_
  exact pZ hleaf ((I.set rfl rfl rfl rfl).up (Nat.le_add_right _ _) (Nat.le_add_right _ _)) (ak rfl (ay h1)) (ak rfl (ay h2)) aB (m'.up (by omega) (by omega))
 ·refine cM (k:=false) (x:=.bool false) (aD (ae (aa h3)) (cI (aj _ _) (Nat.zero_le _)) (uy _)) rfl nofun fun _=>?_
  exact pZ hleaf (I.up (Nat.le_add_right _ _) (Nat.le_add_right _ _)) h1 h2 h3 (.inr ⟨q,r,k,t,rfl⟩)
theorem tab_nil(t:Tab):eG .Eq (aA t) (.list [])=some (.bool t.isEmpty):=by
 cases t with
 | nil=>rfl
 | cons r t=>show (if (List.map D.tup (r::t)).length=([]:List D).length then fi (List.map D.tup (r::t)) [] else some false).map D.bool=_;rw[if_neg (fun h=>nomatch h)];rfl
theorem step_ans(B:BN P)(n:Nat){S:D}{c dp:Nat}(hans:∀ q r k,TpA W R (c+24) (dp+3) q r k→∃ t fr,(al P X (n+7)).call "_law_answer" [q.d,TT]=some (aA t,fr))(hleaf:∀ k:Nat,k<3→∃ q r,TpA W R 0 0 q r 1∧(al P X (n+7)).call "_law_leaf" [S,.int k]=some (aF W q r 1,false)){w z:Int}{d:D}{σ:St}(I:fN W R TT S c dp σ)(h1:Has σ "_law_word" (.int w))(h2:Has σ "_law_cell" (.int z))(h3:Has σ "_law_made" d)(hm:k8 W R (c+24) (dp+3) d) :
  Out (al P X (n+7)) oU σ fun fl σ'=>fl=.next∧fN W R TT S (c+24) (dp+3) σ':=by
 have mid:=step_mid B n hleaf I h1 h2 h3 hm
 rcases hm with rfl | ⟨q,r,k,t,rfl⟩
 ·exact cM (k:=false) (x:=.bool false) (dC (k:=false) (l:=false) (aD (ae (aa h3)) (cI (aj _ _) (Nat.zero_le _)) sJ) nofun) rfl nofun fun _=>mid
 ·obtain⟨tb,fr,e⟩:=hans q r k t
  exact cM (dC (k:=true) (l:=decide (z % 8 > 0)&&tb.isEmpty) (aD (ae (aa h3)) (cI (aj _ _) (Nat.zero_le _)) (sI _)) fun _=>dC (k:=decide (z % 8 > 0)) (l:=tb.isEmpty) (aD (ao (ae (aa h2)) (ag _ _ _) (aJ (by decide))) (ag _ _ _) rfl) fun _=>bA (aD (ax (ad (au (x:=aF W q r k) (y:=.int 0) (au (x:=.list [aF W q r k]) (y:=.int 0) (ae (aa h3)) (ag _ _ _) rfl) (ag _ _ _) rfl) (ad (ae (aa I.tt)) (aj _ _))) e) (cI (aj _ _) (Nat.zero_le _)) (tab_nil tb))) rfl (fun _=>bJ ⟨rfl,I.up (Nat.le_add_right _ _) (Nat.le_add_right _ _)⟩) fun _=>mid
end

set_option maxRecDepth 100000
set_option maxHeartbeats 800000
section
variable {P:List (String×Fn)} {X:CF} {W R:Wd} {TT:D}
theorem fN.var{S:D}{c dp:Nat}{σ:St}{x:String}{v:Bool×D}(I:fN W R TT S c dp σ)(h0:("_law_tables_here" == x)=false)(h1:("_law_script" == x)=false)(h2:("_law_top" == x)=false)(h3:("_law_spare" == x)=false):fN W R TT S c dp (aC σ x v):=
 ⟨ak h0 I.tt,ak h1 I.sc,let ⟨q,r,k,t,h⟩:=I.tp;⟨q,r,k,t,ak h2 h⟩,let ⟨q,r,k,t,h⟩:=I.sp;⟨q,r,k,t,ak h3 h⟩⟩
theorem script_at(ns:List Int){k:Nat}(h:k<ns.length):a9 (.list (ns.map .int)) (.int k)=some (.int (ns.getD k 0)):=
 l9 (by rw[List.length_map];exact h) (by rw[List.getElem?_map,List.getElem?_eq_getElem h,List.getD_eq_getElem?_getD,List.getElem?_eq_getElem h];rfl)
theorem qp(l:List Int)(hl:0<l.length)(z:Int):∃ w:Int,a9 (.list (l.map .int)) (.int (z % (l.length:Int)))=some (.int w):=by
 obtain⟨d,⟨w,rfl⟩,h⟩:=cE (l:=l.map .int) (by rw[List.length_map];exact hl) z (R:=fun d=>∃ w:Int,d=.int w) fun d hd=>let ⟨w,_,e⟩:=List.mem_map.mp hd;⟨w,e.symm⟩
 rw[List.length_map] at h
 exact⟨w,h⟩
theorem step_turn(B:BN P)(n:Nat){ns:List Int}{c dp:Nat}(hans:∀ q r k,TpA W R (c+24) (dp+3) q r k→∃ t fr,(al P X (n+7)).call "_law_answer" [q.d,TT]=some (aA t,fr))(hleaf:∀ k:Nat,k<3→∃ q r,TpA W R 0 0 q r 1∧(al P X (n+7)).call "_law_leaf" [.list (ns.map .int),.int k]=some (aF W q r 1,false))(i:Nat){σ:St}(I:fN W R TT (.list (ns.map .int)) c dp σ) :
  Out (al P X (n+7)) p6 (aC σ "_law_k" (false,.int i)) fun fl σ'=>(fl=.next∧fN W R TT (.list (ns.map .int)) (c+24) (dp+3) σ')∨∃ d fr,fl=.ret fr d∧∃ q r k,TpA W R c dp q r k∧d=aF W q r k:=by
 have hlen:gt "len" [.list (ns.map .int)]=some (.int ns.length):=by show some (D.int ((ns.map D.int).length:Nat))=_;rw[List.length_map]
 have ck:=fm (X:=X) B.toBG (n+6) ns (7+2 * i)
 have e7:((7+2 * i:Nat):Int)=7+2 * (i:Int):=by omega
 rw[e7] at ck
 generalize ns.getD (7+2 * i) 0=z at *
 have I0:=I.var (x:="_law_k") (v:=(false,.int i)) rfl rfl rfl rfl
 have hk0:Has (aC σ "_law_k" (false,.int i)) "_law_k" (.int i):=aB
 generalize aC σ "_law_k" (false,.int i)=σ0 at *
 clear I
 obtain⟨jT,j0,⟨q1,r1,k1,t1,j1⟩,⟨q2,r2,k2,t2,j2⟩⟩:=id I0
 have fin:∀ {σ:St} {d:D} {w:Int},fN W R TT (.list (ns.map .int)) c dp σ→Has σ "_law_word" (.int w)→Has σ "_law_cell" (.int z)→Has σ "_law_made" d→k8 W R (c+24) (dp+3) d →
   Out (al P X (n+7)) oU σ fun fl σ'=>(fl=.next∧fN W R TT (.list (ns.map .int)) (c+24) (dp+3) σ')∨∃ d fr,fl=.ret fr d∧∃ q r k,TpA W R c dp q r k∧d=aF W q r k:=fun I h1 h2 h3 hm=>
  let ⟨fl,σ',q,e⟩:=step_ans B n hans hleaf I h1 h2 h3 hm;⟨fl,σ',.inl q,e⟩
 have hmul:dQ .Mult (.int 2) (.int i)=some (.int (2 * i)):=nB (by decide)
 have hcnt:evE (al P X (n+7)) (vis σ0) (.bin .Add (.int 6) (.bin .Mult (.int 2) (.var "_law_k")))=some (.int (6+2 * (i:Int))):=ao (ag _ _ _) (ao (ag _ _ _) (ae (aa hk0)) hmul) cw
 refine cM (k:=decide (6+2 * (i:Int) ≥ ns.length)) (aD hcnt (bS (ad (ae (aa j0)) (aj _ _)) hlen) rfl) rfl (fun _=>?_) fun hc=>?_
 ·obtain⟨fr,j1⟩:=j1
  exact o_retv j1 (.inr ⟨_,fr,rfl,q1,r1,k1,t1,rfl⟩)
 have hc:=of_decide_eq_false hc
 have s6:=script_at ns (k:=6+2 * i) (by omega)
 have e6:((6+2 * i:Nat):Int)=6+2 * (i:Int):=by omega
 rw[e6] at s6
 generalize ns.getD (6+2 * i) 0=y at *
 obtain⟨w,hw⟩:=qp [0,5,8,5,4,5,6,7,12,9,9,9,12] (by decide) y
 have hw:a9 (.list [.int 0,.int 5,.int 8,.int 5,.int 4,.int 5,.int 6,.int 7,.int 12,.int 9,.int 9,.int 9,.int 12]) (.int (y % 13))=some (.int w):=hw
 have hb13:13≤big:=by decide
 clear hc
 have I1:=I0.set (x:="_law_word") (v:=(false,.int w)) (e:=.int w) (ns:=ME.names (.sub (.lst [.int 0,.int 5,.int 8,.int 5,.int 4,.int 5,.int 6,.int 7,.int 12,.int 9,.int 9,.int 9,.int 12]) (.bin .Mod (.sub (.var "_law_script") (.bin .Add (.int 6) (.bin .Mult (.int 2) (.var "_law_k")))) (.int 13)))) rfl rfl rfl rfl
 refine aN (av (d:=.int w) (fr:=false) (aw (au (x:=.list [.int 0,.int 5,.int 8,.int 5,.int 4,.int 5,.int 6,.int 7,.int 12,.int 9,.int 9,.int 9,.int 12]) rfl (ao (au (ae (aa j0)) hcnt s6) (ag _ _ _) (aJ (by decide))) hw) rfl rfl)) ?_
 have hk1:Has (aC (settle (.int w) (ME.names (.sub (.lst [.int 0,.int 5,.int 8,.int 5,.int 4,.int 5,.int 6,.int 7,.int 12,.int 9,.int 9,.int 9,.int 12]) (.bin .Mod (.sub (.var "_law_script") (.bin .Add (.int 6) (.bin .Mult (.int 2) (.var "_law_k")))) (.int 13)))) σ0) "_law_word" (false,.int w)) "_law_k" (.int i):=ak rfl (ay hk0)
 have hw1:Has (aC (settle (.int w) (ME.names (.sub (.lst [.int 0,.int 5,.int 8,.int 5,.int 4,.int 5,.int 6,.int 7,.int 12,.int 9,.int 9,.int 9,.int 12]) (.bin .Mod (.sub (.var "_law_script") (.bin .Add (.int 6) (.bin .Mult (.int 2) (.var "_law_k")))) (.int 13)))) σ0) "_law_word" (false,.int w)) "_law_word" (.int w):=aB
 generalize aC (settle (.int w) (ME.names (.sub (.lst [.int 0,.int 5,.int 8,.int 5,.int 4,.int 5,.int 6,.int 7,.int 12,.int 9,.int 9,.int 9,.int 12]) (.bin .Mod (.sub (.var "_law_script") (.bin .Add (.int 6) (.bin .Mult (.int 2) (.var "_law_k")))) (.int 13)))) σ0) "_law_word" (false,.int w)=σ1 at *
 clear j0 t1 j1 t2 j2 hk0 hcnt I0
 have I2:=I1.set (x:="_law_cell") (v:=(false,.int z)) (e:=.int z) (ns:=ME.names (.call "_law_cell_at" [.var "_law_script",.bin .Add (.int 7) (.bin .Mult (.int 2) (.var "_law_k"))])) rfl rfl rfl rfl
 refine aN (av (d:=.int z) (fr:=false) (aM (ad (ae (aa I1.sc)) (ad (ao (ag _ _ _) (ao (ag _ _ _) (ae (aa hk1)) hmul) cw) (aj _ _))) ck)) ?_
 have I3:=I2.set (x:="_law_made") (v:=(true,.list [])) (e:=.list []) (ns:=ME.names (.lst [])) rfl rfl rfl rfl
 refine aN (av (d:=.list []) (fr:=true) rfl) ?_
 have hw3:=ak (x:="_law_word") (y:="_law_made") (v:=(true,.list [])) rfl (ay (e:=.list []) (ns:=ME.names (.lst [])) (ak (x:="_law_word") (y:="_law_cell") (v:=(false,.int z)) rfl (ay (e:=.int z) (ns:=ME.names (.call "_law_cell_at" [.var "_law_script",.bin .Add (.int 7) (.bin .Mult (.int 2) (.var "_law_k"))])) hw1)))
 have hz3:=ak (x:="_law_cell") (y:="_law_made") (v:=(true,.list [])) rfl (ay (e:=.list []) (ns:=ME.names (.lst [])) (aB (σ:=settle (.int z) (ME.names (.call "_law_cell_at" [.var "_law_script",.bin .Add (.int 7) (.bin .Mult (.int 2) (.var "_law_k"))])) σ1) (x:="_law_cell") (fr:=false) (d:=.int z)))
 have hm3:=aB (σ:=settle (.list []) (ME.names (.lst [])) (aC (settle (.int z) (ME.names (.call "_law_cell_at" [.var "_law_script",.bin .Add (.int 7) (.bin .Mult (.int 2) (.var "_law_k"))])) σ1) "_law_cell" (false,.int z))) (x:="_law_made") (fr:=true) (d:=.list [])
 generalize aC (settle (.list []) (ME.names (.lst [])) (aC (settle (.int z) (ME.names (.call "_law_cell_at" [.var "_law_script",.bin .Add (.int 7) (.bin .Mult (.int 2) (.var "_law_k"))])) σ1) "_law_cell" (false,.int z))) "_law_made" (true,.list [])=σ3 at *
 clear I1 I2 hk1 hw1 hlen s6 ck hw
 obtain⟨jT,j0,⟨q1,r1,k1,t1,j1⟩,⟨q2,r2,k2,t2,j2⟩⟩:=id I3
 refine cM (k:=decide (w<9)) (aD (ae (aa hw3)) (ag _ _ _) rfl) rfl (fun _=>?_) fun _=>?_
 ·obtain⟨qa,ra,ta,ea⟩:=d8 (X:=X) B (n+1) w z t1
  refine aN (av (d:=.list [aF W qa ra k1]) (fr:=true) (aw (cI (ad (ax (ad (ae (aa hw3)) (ad (ae (aa hz3)) (ad (ae (aa j1)) (aj _ _)))) ea) (aj _ _)) (Nat.le_of_ble_eq_true rfl)) rfl rfl)) ?_
  have I4:=I3.set (x:="_law_made") (v:=(true,.list [aF W qa ra k1])) (e:=.list [aF W qa ra k1]) (ns:=ME.names (.lst [.call "_law_around" [.var "_law_word",.var "_law_cell",.var "_law_top"]])) rfl rfl rfl rfl
  refine cM (k:=(w == 8||w == 5)&&decide (z % 4 > 0)) (dC (k:=w == 8||w == 5) (l:=decide (z % 4 > 0)) (hZ (k:=w == 8) (l:=w == 5) (aD (ae (aa (ak rfl (ay hw3)))) (ag _ _ _) rfl) fun _=>bA (aD (ae (aa (ak rfl (ay hw3)))) (ag _ _ _) rfl)) fun _=>bA (aD (ao (ae (aa (ak rfl (ay hz3)))) (ag _ _ _) (aJ (by decide))) (ag _ _ _) rfl)) rfl (fun _=>?_) fun _=>?_
  ·obtain⟨qb,rb,tb,eb⟩:=qf (X:=X) B n z ta
   refine aN (av (d:=.list [aF W qb rb k1]) (fr:=true) (aw (cI (ad (ax (ad (au (x:=.list [aF W qa ra k1]) (y:=.int 0) (ae (aa aB)) (ag _ _ _) rfl) (ad (ae (aa (ak rfl (ay hz3)))) (aj _ _))) eb) (aj _ _)) (Nat.le_of_ble_eq_true rfl)) rfl rfl)) ?_
   exact fin (I4.set rfl rfl rfl rfl) (ak rfl (ay (ak rfl (ay hw3)))) (ak rfl (ay (ak rfl (ay hz3)))) aB (.inr ⟨qb,rb,k1,tb.up (by omega) (by omega),rfl⟩)
  ·exact fin I4 (ak rfl (ay hw3)) (ak rfl (ay hz3)) aB (.inr ⟨qa,ra,k1,ta.up (by omega) (by omega),rfl⟩)
 ·refine cM (k:=decide (w<12)) (aD (ae (aa hw3)) (ag _ _ _) rfl) rfl (fun _=>?_) fun _=>?_
  ·obtain⟨d,fr,m,u1,u2,hd,hu1,hu2,e2⟩:∃ d fr,∃ m:Nat,∃ u1 u2:D,k8 W R (c+12) (dp+2) d∧a9 (.list [aF W q1 r1 k1,aF W q2 r2 k2]) (.int (z / 2 % 2))=some u1∧a9 (.list [aF W q2 r2 k2,aF W q1 r1 k1]) (.int (z / 2 % 2))=some u2∧(al P X (n+7)).call "_law_of_two" [sD "join",.int z,u1,u2]=some (d,fr):=by
    rcases (show z / 2 % 2=0∨z / 2 % 2=1 by omega) with e | e
    ·rw[e]
     obtain⟨d,fr,h1,h2⟩:=lc (X:=X) B (n+4) z t1 t2
     exact⟨d,fr,0,_,_,h1,rfl,rfl,h2⟩
    ·rw[e]
     obtain⟨d,fr,h1,h2⟩:=lc (X:=X) B (n+4) z t2 t1
     exact⟨d,fr,0,_,_,h1,rfl,rfl,h2⟩
   have hdiv:evE (al P X (n+7)) (vis σ3) (.bin .Mod (.bin .FloorDiv (.var "_law_cell") (.int 2)) (.int 2))=some (.int (z / 2 % 2)):=ao (ao (ae (aa hz3)) (ag _ _ _) (a7 (by decide))) (ag _ _ _) (aJ (by decide))
   refine aN (av (aM (ad (aT _ _ _) (ad (ae (aa hz3)) (ad (au (cI (ad (ae (aa j1)) (ad (ae (aa j2)) (aj _ _))) (Nat.le_of_ble_eq_true rfl)) hdiv hu1) (ad (au (cI (ad (ae (aa j2)) (ad (ae (aa j1)) (aj _ _))) (Nat.le_of_ble_eq_true rfl)) hdiv hu2) (aj _ _))))) e2)) ?_
   rcases hd with rfl | ⟨q,r,k,t,rfl⟩
   ·refine cM (k:=false) (x:=.bool (false&&false)) (dC (k:=false) (l:=false) (aD (ae (aa aB)) (cI (aj _ _) (Nat.zero_le _)) sJ) nofun) rfl nofun fun _=>?_
    exact fin (I3.set rfl rfl rfl rfl) (ak rfl (ay hw3)) (ak rfl (ay hz3)) aB (.inl rfl)
   ·refine cM (k:=true&&decide (z % 4 > 0)) (dC (k:=true) (l:=decide (z % 4 > 0)) (aD (ae (aa aB)) (cI (aj _ _) (Nat.zero_le _)) (sI _)) fun _=>bA (aD (ao (ae (aa (ak rfl (ay hz3)))) (ag _ _ _) (aJ (by decide))) (ag _ _ _) rfl)) rfl (fun _=>?_) fun _=>?_
    ·obtain⟨qb,rb,tb,eb⟩:=qf (X:=X) B n z t
     refine aN (av (d:=.list [aF W qb rb k]) (fr:=true) (aw (cI (ad (ax (ad (au (x:=.list [aF W q r k]) (y:=.int 0) (ae (aa aB)) (ag _ _ _) rfl) (ad (ae (aa (ak rfl (ay hz3)))) (aj _ _))) eb) (aj _ _)) (Nat.le_of_ble_eq_true rfl)) rfl rfl)) ?_
     exact fin ((I3.set rfl rfl rfl rfl).set rfl rfl rfl rfl) (ak rfl (ay (ak rfl (ay hw3)))) (ak rfl (ay (ak rfl (ay hz3)))) aB (.inr ⟨qb,rb,k,tb.up (by omega) (by omega),rfl⟩)
    ·exact fin (I3.set rfl rfl rfl rfl) (ak rfl (ay hw3)) (ak rfl (ay hz3)) aB (.inr ⟨q,r,k,t.up (by omega) (by omega),rfl⟩)
  ·refine cM (k:=z % 3 == 1) (aD (ao (ae (aa hz3)) (ag _ _ _) (aJ (by decide))) (ag _ _ _) rfl) rfl (fun _=>?_) fun _=>fin I3 hw3 hz3 hm3 (.inl rfl)
   obtain⟨v,hv⟩:=qp [0,6,7] (by decide) (z / 3)
   have hv:a9 (.list [.int 0,.int 6,.int 7]) (.int (z / 3 % 3))=some (.int v):=hv
   obtain⟨x5,_,m5⟩:=mixed (X:=X) B.toBG (n+6) z 5
   obtain⟨qa,ra,ta,ea⟩:=d8 (X:=X) B (n+1) v x5 t1
   obtain⟨d,fr,hd,e2⟩:=ld (X:=X) B (n+4) z (t1.up (Nat.le_add_right _ 12) (Nat.le_succ _)) ta
   refine aN (av (aM (ad (aT _ _ _) (ad (ae (aa hz3)) (ad (ae (aa j1)) (ad (ax (ad (au (x:=.list [.int 0,.int 6,.int 7]) (y:=.int (z / 3 % 3)) rfl (ao (ao (ae (aa hz3)) (ag _ _ _) (a7 (by decide))) (ag _ _ _) (aJ (by decide))) hv) (ad (ax (ad (ae (aa hz3)) (ad (ag _ _ _) (aj _ _))) m5) (ad (ae (aa j1)) (aj _ _)))) ea) (aj _ _))))) e2)) ?_
   exact fin (I3.set rfl rfl rfl rfl) (ak rfl (ay hw3)) (ak rfl (ay hz3)) aB (hd.up (by omega) (by omega))
end

set_option maxRecDepth 100000
set_option maxHeartbeats 800000
noncomputable def uZ:List MS:=[.for_ "_law_k" (.blt "range" [.var "_law_many_here"]) [.assign "_law_top" (.call "_law_around" [.bin .Mod (.call "_law_mixed" [.var "_law_cell",.var "_law_k"]) (.int 9),.call "_law_mixed" [.var "_law_cell",.bin .Add (.int 50) (.var "_law_k")],.var "_law_top"])],.ret (.var "_law_top")]
noncomputable def u3:List MS:=.ite (.cmp .Eq (.bin .Mod (.var "_law_cell") (.int 32)) (.int 5)) [.assign "_law_top" (.call "_law_leaf" [.var "_law_script",.int 0]),.assign "_law_many_here" (.int 38)] []::uZ
noncomputable def u4:List MS:=.assign "_law_cell" (.bin .FloorDiv (.call "_law_cell_at" [.var "_law_script",.int 1]) (.int 35))::.assign "_law_many_here" (.int 0)::.ite (.cmp .Eq (.bin .Mod (.var "_law_cell") (.int 8)) (.int 1)) [.assign "_law_many_here" (.bin .Mod (.bin .FloorDiv (.var "_law_cell") (.int 8)) (.int 6))] []::u3
noncomputable def built4:List MS:=.assign "_law_more" (.call "_law_around" [.int 0,.bin .Add (.bin .Mult (.bin .FloorDiv (.call "_law_mixed" [.var "_law_last",.int 9]) (.int 4)) (.int 4)) (.int 2),.var "_law_top"])::.ite (.bop .And [.cmp .Gt (.bin .Mod (.var "_law_last") (.int 3)) (.int 0),.bop .Or [.cmp .Eq (.bin .Mod (.var "_law_last") (.int 5)) (.int 0),.cmp .NotEq (.call "_law_answer" [.sub (.var "_law_more") (.int 0),.call "_law_tables" [.var "_law_script",.int 0]]) (.lst [])]]) [.assign "_law_top" (.var "_law_more")] []::u4
section
variable {P:List (String×Fn)} {X:CF} {W R:Wd}
theorem tab_nn(t:Tab):eG .NotEq (aA t) (.list [])=some (.bool (!t.isEmpty)):=by
 cases t with
 | nil=>rfl
 | cons r t=>show (if (List.map D.tup (r::t)).length=([]:List D).length then fi (List.map D.tup (r::t)) [] else some false).map (fun x=>D.bool (!x))=_;rw[if_neg (fun h=>nomatch h)];rfl
noncomputable def rZ(P:List (String×Fn))(X:CF)(W R:Wd)(S:D):Prop:=∀ n,∃ TT ft,(al P X (n+5)).call "_law_tables" [S,.int 0]=some (TT,ft)∧∀ m q r k c dp,45≤m→dp≤40→TpA W R c dp q r k→∃ t fr,(al P X m).call "_law_answer" [q.d,TT]=some (aA t,fr)
noncomputable def fb(W R:Wd)(c dp:Nat)(d:D):Prop:=∃ q r k,TpA W R c dp q r k∧d=aF W q r k
theorem fb.up{c dp c' dp':Nat}{d:D}(h:fb W R c dp d)(h1:c≤c')(h2:dp≤dp'):fb W R c' dp' d:=let ⟨q,r,k,t,e⟩:=h;⟨q,r,k,t.up h1 h2,e⟩
theorem stepped_eq(B:BE P)(n:Nat){ns:List Int}(h45:45≤n)(htab:rZ P X W R (.list (ns.map .int)))(hleaf:∀ k:Nat,k<3→∃ q r,TpA W R 0 0 q r 1∧(al P X (n+7)).call "_law_leaf" [.list (ns.map .int),.int k]=some (aF W q r 1,false)) :
  ∃ d fr,fb W R 216 27 d∧(al P X (n+8)).call "_law_stepped" [.list (ns.map .int)]=some (d,fr):=by
 have c2:(al P X (n+7)).call "_law_cell_at" [.list (ns.map .int),.int 2]=some (.int (ns.getD 2 0),false):=fm (X:=X) B.toBG (n+6) ns 2
 obtain⟨q0,r0,t0,l0⟩:=hleaf 0 (by decide)
 obtain⟨q1,r1,t1,l1⟩:=hleaf 1 (by decide)
 obtain⟨TT,ft,htab,hans⟩:=htab (n+2)
 have htab:(al P X (n+7)).call "_law_tables" [.list (ns.map .int),.int 0]=some (TT,ft):=htab
 have turn:=fun k i σ (hk:k≤8) (I:fN W R TT (.list (ns.map .int)) (24 * k) (3 * k) σ)=>step_turn B.toBN n (c:=24 * k) (dp:=3 * k) (fun q r k' h=>hans (n+7) q r k' _ _ (by omega) (by omega) h) hleaf i I
 generalize ns.getD 2 0=z at *
 generalize D.list (ns.map .int)=S at *
 obtain⟨d,⟨m,rfl,hm⟩,hd⟩:=cE (l:=[.int 3,.int 5,.int 2,.int 8]) (by decide) z (R:=fun d=>∃ m:Nat,d=.int m∧m≤8) (by
  intro d hd
  simp only[List.mem_cons,List.not_mem_nil,or_false] at hd
  rcases hd with rfl | rfl | rfl | rfl <;> first | exact⟨3,rfl,by decide⟩ | exact⟨5,rfl,by decide⟩ | exact⟨2,rfl,by decide⟩ | exact⟨8,rfl,by decide⟩)
 have hd:a9 (.list [.int 3,.int 5,.int 2,.int 8]) (.int (z % 4))=some (.int m):=hd
 have hb:8≤big:=by decide
 refine cP (X:=X) (args:=[S]) B.st rfl ?_
 refine aY (av (aM (ad (d:=S) rfl (ad (d:=.int 0) rfl (aj _ _))) l0)) ?_
 refine aY (av (aM (ad (d:=S) rfl (ad (d:=.int 1) rfl (aj _ _))) l1)) ?_
 refine aY (av (aM (ad (d:=S) (ae (aa (ak rfl (ay (ak rfl (ay af)))))) (ad (ag _ _ _) (aj _ _))) htab)) ?_
 generalize hσ:aC (settle TT (ME.names (.call "_law_tables" [.var "_law_script",.int 0])) (aC (settle (aF W q1 r1 1) (ME.names (.call "_law_leaf" [.var "_law_script",.int 1])) (aC (settle (aF W q0 r0 1) (ME.names (.call "_law_leaf" [.var "_law_script",.int 0])) _) "_law_top" (false,aF W q0 r0 1))) "_law_spare" (false,aF W q1 r1 1))) "_law_tables_here" (ft,TT)=σ
 have iT:Has σ "_law_tables_here" TT:=by rw[← hσ];exact aB
 have i1:Has σ "_law_script" S:=by rw[← hσ];exact ak rfl (ay (ak rfl (ay (ak rfl (ay af)))))
 have i2:Has σ "_law_top" (aF W q0 r0 1):=by rw[← hσ];exact ak rfl (ay (ak rfl (ay aB)))
 have i3:Has σ "_law_spare" (aF W q1 r1 1):=by rw[← hσ];exact ak rfl (ay aB)
 obtain⟨σ',c⟩:=mA (cf:=al P X (n+7)) (body:=p6) (z:="_law_k") (fun k σ=>fN W R TT S (24 * k) (3 * k) σ) (fun d _=>fb W R 216 27 d) m ((List.range m).map fun (i:Nat)=>D.int (i:Int)) 0 (freeze (ME.names (.blt "range" [.sub (.lst [.int 3,.int 5,.int 2,.int 8]) (.bin .Mod (.call "_law_cell_at" [.var "_law_script",.int 2]) (.int 4))])) σ) (by rw[List.length_map,List.length_range];omega) ⟨b9 iT,b9 i1,⟨q0,r0,1,t0,b9 i2⟩,⟨q1,r1,1,t1,b9 i3⟩⟩ (by
  intro k it σ hk hit I
  obtain⟨i,_,rfl⟩:=List.mem_map.mp hit
  obtain⟨fl,σ',q,e⟩:=turn k i σ (by omega) I
  refine⟨fl,σ',?_,e⟩
  rcases q with q | ⟨d,fr,h1,q,r,k',t,h2⟩
  ·exact .inl q
  ·exact .inr ⟨d,fr,h1,q,r,k',t.up (by omega) (by omega),h2⟩)
 have hsrc:evE (al P X (n+7)) (vis σ) (.blt "range" [.sub (.lst [.int 3,.int 5,.int 2,.int 8]) (.bin .Mod (.call "_law_cell_at" [.var "_law_script",.int 2]) (.int 4))])=some (.rng 0 m):=
  bS (ad (au (x:=.list [.int 3,.int 5,.int 2,.int 8]) rfl (ao (ax (ad (ae (aa i1)) (ad (ag _ _ _) (aj _ _))) c2) (ag _ _ _) (aJ (by decide))) hd) (aj _ _)) (jc (Nat.le_trans hm hb))
 rcases c with⟨I,e⟩ | ⟨d,fr,h,e⟩
 ·refine q_for hsrc (dG m) e ?_
  obtain⟨q,r,k,t,fr,h⟩:=I.tp
  rw[List.length_map,List.length_range,Nat.zero_add] at t
  exact um h ⟨q,r,k,t.up (by omega) (by omega),rfl⟩
 ·exact q_forR hsrc (dG m) e h
theorem ny(B:BN P)(n:Nat){c dp m:Nat}(hm:m≤38){z:Int}{σ:St}{d:D}(hd:fb W R c dp d)(h1:Has σ "_law_cell" (.int z))(h2:Has σ "_law_top" d)(h3:Has σ "_law_many_here" (.int m)):Rex (al P X (n+6)) uZ σ fun d _=>fb W R (c+12 * m) (dp+m) d:=by
 have hb:38≤big:=by decide
 obtain⟨σ',e⟩:=mA (cf:=al P X (n+6)) (body:=[.assign "_law_top" (.call "_law_around" [.bin .Mod (.call "_law_mixed" [.var "_law_cell",.var "_law_k"]) (.int 9),.call "_law_mixed" [.var "_law_cell",.bin .Add (.int 50) (.var "_law_k")],.var "_law_top"])]) (z:="_law_k") (fun k σ=>Has σ "_law_cell" (.int z)∧∃ d,fb W R (c+12 * k) (dp+k) d∧Has σ "_law_top" d) (fun _ _=>False) m ((List.range m).map fun (i:Nat)=>D.int (i:Int)) 0 (freeze (ME.names (.blt "range" [.var "_law_many_here"])) σ) (by rw[List.length_map,List.length_range];omega) ⟨b9 h1,d,hd,b9 h2⟩ (by
  rintro k it σ hk hit ⟨i1,d,⟨q,r,k',t,rfl⟩,i2⟩
  obtain⟨i,_,rfl⟩:=List.mem_map.mp hit
  obtain⟨x,_,mx⟩:=mixed (X:=X) B.toBG (n+5) z i
  obtain⟨y,_,my⟩:=mixed (X:=X) B.toBG (n+5) z (50+i)
  obtain⟨q',r',t',e'⟩:=d8 (X:=X) B n (x % 9) y t
  have hz:=ak (y:="_law_k") (v:=(false,.int i)) rfl i1
  have ht:=ak (y:="_law_k") (v:=(false,.int i)) rfl i2
  have hi:Has (aC σ "_law_k" (false,.int i)) "_law_k" (.int i):=aB
  generalize aC σ "_law_k" (false,.int i)=σ at *
  refine aN (av (aM (ad (ao (ax (ad (ae (aa hz)) (ad (ae (aa hi)) (aj _ _))) mx) (ag _ _ _) (aJ (by decide))) (ad (ax (ad (ae (aa hz)) (ad (ao (ag _ _ _) (ae (aa hi)) cw) (aj _ _))) my) (ad (ae (aa ht)) (aj _ _)))) e')) ?_
  exact bJ (.inl ⟨rfl,ak rfl (ay hz),_,⟨q',r',k',t'.up (by omega) (by omega),rfl⟩,aB⟩))
 rcases e with⟨⟨_,d,hd,fr,h⟩,e⟩ | ⟨_,_,h,_⟩
 ·refine q_for (bS (ad (ae (aa h3)) (aj _ _)) (jc (Nat.le_trans hm hb))) (dG m) e ?_
  rw[List.length_map,List.length_range,Nat.zero_add] at hd
  exact um h hd
 ·exact h.elim
theorem built_eq(B:BE P)(n:Nat){ns:List Int}(h45:45≤n)(htab:rZ P X W R (.list (ns.map .int)))(hleaf:∀ n,∀ k:Nat,k<3→∃ q r,TpA W R 0 0 q r 1∧(al P X (n+3)).call "_law_leaf" [.list (ns.map .int),.int k]=some (aF W q r 1,false)) :
  ∃ d fr,fb W R 456 38 d∧(al P X (n+9)).call "_law_built" [.list (ns.map .int)]=some (d,fr):=by
 have c5:(al P X (n+8)).call "_law_cell_at" [.list (ns.map .int),.int 5]=some (.int (ns.getD 5 0),false):=fm (X:=X) B.toBG (n+7) ns 5
 have c1:(al P X (n+8)).call "_law_cell_at" [.list (ns.map .int),.int 1]=some (.int (ns.getD 1 0),false):=fm (X:=X) B.toBG (n+7) ns 1
 obtain⟨d0,fr0,hd0,e0⟩:=stepped_eq (X:=X) B n h45 htab (hleaf (n+4))
 obtain⟨TT,ft,ht8,hans⟩:=htab (n+3)
 have ht8:(al P X (n+8)).call "_law_tables" [.list (ns.map .int),.int 0]=some (TT,ft):=ht8
 obtain⟨ql,rl,tl,el⟩:=hleaf (n+5) 0 (by decide)
 generalize ns.getD 5 0=y at *
 generalize ns.getD 1 0=z at *
 generalize D.list (ns.map .int)=S at *
 have t8:∀ {σ:St} {d:D} {m:Nat},m≤7→fb W R 240 29 d→Has σ "_law_script" S→Has σ "_law_cell" (.int (z / 35))→Has σ "_law_top" d→Has σ "_law_many_here" (.int m)→Rex (al P X (n+8)) u3 σ fun d _=>fb W R 456 38 d:=by
  intro σ d m hm hd i1 i2 i3 i4
  refine cV (k:=z / 35 % 32 == 5) (aD (ao (ae (aa i2)) (ag _ _ _) (aJ (by decide))) (ag _ _ _) rfl) rfl (fun _=>?_) fun _=>?_
  ·refine aY (av (aM (ad (ae (aa i1)) (ad (ag _ _ _) (aj _ _))) el)) ?_
   refine aY (av (d:=.int (38:Nat)) (fr:=false) rfl) ?_
   obtain⟨d,fr,h,r⟩:=ny (X:=X) (W:=W) B.toBN (n+2) (m:=38) (c:=0) (dp:=0) (by decide) ⟨ql,rl,1,tl,rfl⟩ (ak rfl (ay (ak rfl (ay i2)))) (ak rfl (ay aB)) aB
   exact⟨d,fr,h.up (by omega) (by omega),r⟩
  ·obtain⟨d,fr,h,r⟩:=ny (X:=X) (W:=W) B.toBN (n+2) (by omega) hd i2 i3 i4
   exact⟨d,fr,h.up (by omega) (by omega),r⟩
 have t5:∀ {σ:St} {d:D},fb W R 240 29 d→Has σ "_law_script" S→Has σ "_law_top" d→Rex (al P X (n+8)) u4 σ fun d _=>fb W R 456 38 d:=by
  intro σ d hd i1 i2
  refine aY (av (d:=.int (z / 35)) (fr:=false) (aw (ao (ax (ad (ae (aa i1)) (ad (ag _ _ _) (aj _ _))) c1) (ag _ _ _) (a7 (by decide))) rfl rfl)) ?_
  refine aY (av (d:=.int (0:Nat)) (fr:=false) rfl) ?_
  refine cV (k:=z / 35 % 8 == 1) (aD (ao (ae (aa (ak rfl (ay aB)))) (ag _ _ _) (aJ (by decide))) (ag _ _ _) rfl) rfl (fun _=>?_) fun _=>?_
  ·obtain⟨m,em,hm⟩:=bM (z / 35 / 8) (k:=6) (by decide)
   have hx:dQ .Mod (.int (z / 35 / 8)) (.int 6)=some (.int m):=by rw[← em];exact aJ (by decide)
   refine aY (av (d:=.int m) (fr:=false) (aw (ao (ao (ae (aa (ak rfl (ay aB)))) (ag _ _ _) (a7 (by decide))) (ag _ _ _) hx) rfl rfl)) ?_
   exact t8 (m:=m) (by omega) hd (ak rfl (ay (ak rfl (ay (ak rfl (ay i1)))))) (ak rfl (ay (ak rfl (ay aB)))) (ak rfl (ay (ak rfl (ay (ak rfl (ay i2)))))) aB
  ·exact t8 (m:=0) (by omega) hd (ak rfl (ay (ak rfl (ay i1)))) (ak rfl (ay aB)) (ak rfl (ay (ak rfl (ay i2)))) aB
 have t4:∀ {σ:St} {d:D},fb W R 228 28 d→Has σ "_law_script" S→Has σ "_law_last" (.int y)→Has σ "_law_top" d→Rex (al P X (n+8)) built4 σ fun d _=>fb W R 456 38 d:=by
  intro σ d hd i1 i3 i2
  obtain⟨q,r,k,t,rfl⟩:=id hd
  obtain⟨x,_,mx⟩:=mixed (X:=X) B.toBG (n+7) y 9
  obtain⟨q',r',t',e'⟩:=d8 (X:=X) B.toBN (n+2) 0 (x / 4 * 4+2) t
  obtain⟨tb,fr,ea⟩:=hans (n+8) q' r' k _ _ (by omega) (by decide) t'
  refine aY (av (aM (ad (ag _ _ _) (ad (ao (ao (ao (ax (ad (ae (aa i3)) (ad (ag _ _ _) (aj _ _))) mx) (ag _ _ _) (a7 (by decide))) (ag _ _ _) (ry (by decide))) (ag _ _ _) cw) (ad (ae (aa i2)) (aj _ _)))) e')) ?_
  have i1':=ak (y:="_law_more") (v:=(false,aF W q' r' k)) rfl (ay (e:=aF W q' r' k) (ns:=ME.names (.call "_law_around" [.int 0,.bin .Add (.bin .Mult (.bin .FloorDiv (.call "_law_mixed" [.var "_law_last",.int 9]) (.int 4)) (.int 4)) (.int 2),.var "_law_top"])) i1)
  have i2':=ak (y:="_law_more") (v:=(false,aF W q' r' k)) rfl (ay (e:=aF W q' r' k) (ns:=ME.names (.call "_law_around" [.int 0,.bin .Add (.bin .Mult (.bin .FloorDiv (.call "_law_mixed" [.var "_law_last",.int 9]) (.int 4)) (.int 4)) (.int 2),.var "_law_top"])) i2)
  have i3':=ak (y:="_law_more") (v:=(false,aF W q' r' k)) rfl (ay (e:=aF W q' r' k) (ns:=ME.names (.call "_law_around" [.int 0,.bin .Add (.bin .Mult (.bin .FloorDiv (.call "_law_mixed" [.var "_law_last",.int 9]) (.int 4)) (.int 4)) (.int 2),.var "_law_top"])) i3)
  have i4':Has (aC (settle (aF W q' r' k) (ME.names (.call "_law_around" [.int 0,.bin .Add (.bin .Mult (.bin .FloorDiv (.call "_law_mixed" [.var "_law_last",.int 9]) (.int 4)) (.int 4)) (.int 2),.var "_law_top"])) σ) "_law_more" (false,aF W q' r' k)) "_law_more" (aF W q' r' k):=aB
  generalize aC (settle (aF W q' r' k) (ME.names (.call "_law_around" [.int 0,.bin .Add (.bin .Mult (.bin .FloorDiv (.call "_law_mixed" [.var "_law_last",.int 9]) (.int 4)) (.int 4)) (.int 2),.var "_law_top"])) σ) "_law_more" (false,aF W q' r' k)=σ at *
  refine cV (k:=decide (y % 3 > 0)&&(y % 5 == 0||!tb.isEmpty)) (dC (k:=decide (y % 3 > 0)) (l:=y % 5 == 0||!tb.isEmpty) (aD (ao (ae (aa i3')) (ag _ _ _) (aJ (by decide))) (ag _ _ _) rfl) fun _=>bA (hZ (k:=y % 5 == 0) (l:=!tb.isEmpty) (aD (ao (ae (aa i3')) (ag _ _ _) (aJ (by decide))) (ag _ _ _) rfl) fun _=>bA (aD (ax (ad (au (x:=aF W q' r' k) (y:=.int 0) (ae (aa i4')) (ag _ _ _) rfl) (ad (ax (ad (ae (aa i1')) (ad (ag _ _ _) (aj _ _))) ht8) (aj _ _))) ea) (cI (aj _ _) (Nat.zero_le _)) (tab_nn tb)))) rfl (fun _=>?_) fun _=>t5 (hd.up (by omega) (by omega)) i1' i2'
  exact aY (av (d:=aF W q' r' k) (fr:=frF (.var "_law_more") (aF W q' r' k)) (aw (ae (aa i4')) rfl rfl)) (t5 ⟨q',r',k,t',rfl⟩ (ak rfl (ay i1')) aB)
 have hq:∀ {σ:St},Has σ "_law_last" (.int y)→evE (al P X (n+8)) (vis σ) (.bin .Mod (.bin .FloorDiv (.var "_law_last") (.int 3)) (.int 3))=some (.int (y / 3 % 3)):=fun i=>ao (ao (ae (aa i)) (ag _ _ _) (a7 (by decide))) (ag _ _ _) (aJ (by decide))
 refine cP (X:=X) (args:=[S]) B.bu rfl ?_
 refine aY (av (aM (ad (d:=S) rfl (aj _ _)) e0)) ?_
 refine aY (av (aM (ad (ae (aa (ak rfl (ay af)))) (ad (ag _ _ _) (aj _ _))) c5)) ?_
 refine cV (k:=y / 3 % 3 == 1) (aD (hq aB) (ag _ _ _) rfl) rfl (fun h1=>?_) fun _=>?_
 ·obtain⟨q,r,k,t,rfl⟩:=hd0
  obtain⟨q',r',t',e'⟩:=d8 (X:=X) B.toBN (n+2) 8 (y / 9 % 3) t
  refine aY (av (aM (ad (ag _ _ _) (ad (ao (ao (ae (aa aB)) (ag _ _ _) (a7 (by decide))) (ag _ _ _) (aJ (by decide))) (ad (ae (aa (ak rfl (ay aB)))) (aj _ _)))) e')) ?_
  rw[beq_iff_eq] at h1
  refine cV (k:=false) (x:=.bool false) (aD (hq (ak rfl (ay aB))) (ag _ _ _) (by rw[h1];rfl)) rfl nofun fun _=>?_
  exact t4 ⟨q',r',k,t',rfl⟩ (ak rfl (ay (ak rfl (ay (ak rfl (ay af)))))) (ak rfl (ay aB)) aB
 ·refine cV (k:=y / 3 % 3 == 2) (aD (hq aB) (ag _ _ _) rfl) rfl (fun _=>?_) fun _=>t4 (hd0.up (by omega) (by omega)) (ak rfl (ay (ak rfl (ay af)))) aB (ak rfl (ay aB))
  obtain⟨q,r,k,t,rfl⟩:=hd0
  obtain⟨x,_,mx⟩:=mixed (X:=X) B.toBG (n+7) y 4
  obtain⟨q',r',t',e'⟩:=d8 (X:=X) B.toBN (n+2) 5 (x / 4 * 4+1) t
  refine aY (av (aM (ad (ag _ _ _) (ad (ao (ao (ao (ax (ad (ae (aa aB)) (ad (ag _ _ _) (aj _ _))) mx) (ag _ _ _) (a7 (by decide))) (ag _ _ _) (ry (by decide))) (ag _ _ _) cw) (ad (ae (aa (ak rfl (ay aB)))) (aj _ _)))) e')) ?_
  exact t4 ⟨q',r',k,t',rfl⟩ (ak rfl (ay (ak rfl (ay (ak rfl (ay af)))))) (ak rfl (ay aB)) aB
end

set_option maxRecDepth 100000
noncomputable def iE:Fn:=⟨["_law_cell","_law_wide","_law_many_here"],[
  .assign "_law_rows" (.lst []),
  .for_ "_law_at" (.blt "range" [.var "_law_many_here"]) [.assign "_law_like" (.bin .Sub (.var "_law_at") (.bin .FloorDiv (.bin .Mod (.var "_law_at") (.int 3)) (.int 2))),.ite (.cmp .Eq (.bin .Mod (.var "_law_at") (.int 5)) (.int 4)) [.assign "_law_like" (.int 0)] [],.append "_law_rows" (.blt "tuple" [.comp (.call "_law_thing_by" [.call "_law_mixed" [.var "_law_cell",.bin .Add (.bin .Mult (.int 13) (.var "_law_like")) (.var "_law_k")]]) "_law_k" (.blt "range" [.var "_law_wide"]) []])],
  .ret (.var "_law_rows")]⟩
noncomputable def jm:Fn:=⟨["_law_script","_law_more"],[
  .assign "_law_names_here" (.call "_law_names" [.var "_law_script"]),
  .assign "_law_tables_here" (.dct [] []),
  .for_ "_law_k" (.blt "range" [.int 3]) [.assign "_law_shape" (.call "_law_cell_at" [.var "_law_script",.var "_law_k"]),.assign "_law_cell" (.call "_law_mixed" [.call "_law_cell_at" [.var "_law_script",.bin .Add (.int 3) (.var "_law_k")],.bin .Add (.int 80) (.var "_law_more")]),.setk "_law_tables_here" (.sub (.var "_law_names_here") (.var "_law_k")) (.call "_law_rows_by" [.var "_law_cell",.call "_law_wide_by" [.var "_law_shape"],.call "_law_rows_of" [.var "_law_shape"]])],
  .ret (.var "_law_tables_here")]⟩
structure BT(P:List (String×Fn)):Prop extends BE P,BA P where
 rowsBy:P.lookup "_law_rows_by"=some iE
 tables:P.lookup "_law_tables"=some jm
noncomputable abbrev rowsB:List MS:=[.assign "_law_like" (.bin .Sub (.var "_law_at") (.bin .FloorDiv (.bin .Mod (.var "_law_at") (.int 3)) (.int 2))),.ite (.cmp .Eq (.bin .Mod (.var "_law_at") (.int 5)) (.int 4)) [.assign "_law_like" (.int 0)] [],.append "_law_rows" (.blt "tuple" [.comp (.call "_law_thing_by" [.call "_law_mixed" [.var "_law_cell",.bin .Add (.bin .Mult (.int 13) (.var "_law_like")) (.var "_law_k")]]) "_law_k" (.blt "range" [.var "_law_wide"]) []])]
section
variable {P:List (String×Fn)} {X:CF}
theorem rows_by(B:BT P)(n:Nat)(c:Int){m k:Nat}(hm:m≤1000)(hk:k≤60):∃ t:Tab,aO m t∧t.length=k∧(al P X (n+3)).call "_law_rows_by" [.int c,.int m,.int k]=some (aA t,true):=by
 obtain⟨σ',⟨t,h1,h2,h3,_⟩,e⟩:=fV (cf:=al P X (n+2)) (body:=rowsB) (z:="_law_at") (g:=fun i:Nat=>D.int (i:Int)) (fun b σ=>∃ t:Tab,aO m t∧t.length=b.length∧dA σ "_law_rows" (aA t)∧Has σ "_law_cell" (.int c)∧Has σ "_law_wide" (.int m)) (List.range k) [] (freeze ["_law_many_here"] (aC [("_law_cell",(false,.int c)),("_law_wide",(false,.int m)),("_law_many_here",(false,.int k))] "_law_rows" (true,.list [])))
  ⟨[],(fun _ h=>nomatch h),rfl,jK rfl et,b9 (ak rfl af),b9 (ak rfl (ai rfl af))⟩ (by
  rintro b i σ _ hb ⟨t,h1,h2,h3,h4,h5⟩
  have fin:∀ (L:Int) (σ:St),dA σ "_law_rows" (aA t)→Has σ "_law_cell" (.int c)→Has σ "_law_wide" (.int m)→Has σ "_law_like" (.int L)→Out (al P X (n+2)) (rowsB.drop 2) σ fun fl σ'=>fl=.next∧∃ t:Tab,aO m t∧t.length=(b++[i]).length∧dA σ' "_law_rows" (aA t)∧Has σ' "_law_cell" (.int c)∧Has σ' "_law_wide" (.int m):=fun L σ i3 i4 i5 i6=>by
   obtain⟨cs,q1,q2,q3⟩:=jp (cf:=al P X (n+2)) (ρ:=vis σ) (z:="_law_k") (elt:=.call "_law_thing_by" [.call "_law_mixed" [.var "_law_cell",.bin .Add (.bin .Mult (.int 13) (.var "_law_like")) (.var "_law_k")]]) (src:=.var "_law_wide") hm r5 (ae (aa i5)) fun j _=>by
    obtain⟨r,_,hr⟩:=mixed (X:=X) B.toBG (n+1) c (13 * L+j)
    obtain⟨d,gd,hd⟩:=pW (X:=X) B.toBG n r
    exact⟨d,gd,ax (ad (ax (ad (ae (aX rfl (aa i4))) (ad (ao (ao (ag _ _ _) (ae (aX rfl (aa i6))) (nB (by unfold lim;omega))) (ae bw) cw) (aj _ _))) hr) (aj _ _)) hd⟩
   refine aN (cQ (ds:=t.map .tup) q3 (eQ rfl i3) ?_) (bJ ⟨rfl,t++[cs],fun r hr=>(List.mem_append.mp hr).elim (h1 r) fun hr=>List.mem_singleton.mp hr▸⟨q1,fun d hd=>(q2 d hd).cell⟩,?_,?_,ak rfl (ay i4),ak rfl (ay i5)⟩)
   ·rw[List.length_map,h2]
    exact Nat.lt_of_lt_of_le (by rw[List.length_range,List.length_nil,Nat.zero_add] at hb;exact hb) (Nat.le_trans hk (by decide))
   ·rw[List.length_append,List.length_append,h2];rfl
   ·rw[dD];exact et
  refine aN (bc (d:=.int (i - i % 3 / 2)) (fr:=false) (aw (ao (ae (aa aB)) (ao (ao (ae (aa aB)) (ag _ _ _) (aJ (by decide))) (ag _ _ _) (a7 (by unfold lim;decide))) rY) rfl rfl) rfl) (cM (k:=(i:Int) % 5 == 4) (aD (ao (ae (aa (ak rfl aB))) (ag _ _ _) (aJ (by decide))) (ag _ _ _) rfl) rfl (fun _=>?_) fun _=>?_)
  ·exact aN (bc (d:=.int 0) (fr:=false) (aw (ag _ _ _) rfl rfl) rfl) (fin 0 _ (cO rfl (cO rfl (cO rfl h3))) (ak rfl (ak rfl (ak rfl h4))) (ak rfl (ak rfl (ak rfl h5))) aB)
  ·exact fin _ _ (cO rfl (cO rfl h3)) (ak rfl (ak rfl h4)) (ak rfl (ak rfl h5)) aB)
 refine⟨t,h1,h2.trans (by rw[List.nil_append,List.length_range]),az B.rowsBy rfl ?_⟩
 exact aL (av (d:=.list []) (fr:=true) rfl) (eH (x:=.rng 0 k) (bS (ad (d:=.int k) (ae (aa (ak rfl (ai rfl (ai rfl af))))) (aj _ _)) (jc (Nat.le_trans hk (by decide)))) (dG k) e (eB h3))
noncomputable abbrev tabsB:List MS:=[.assign "_law_shape" (.call "_law_cell_at" [.var "_law_script",.var "_law_k"]),.assign "_law_cell" (.call "_law_mixed" [.call "_law_cell_at" [.var "_law_script",.bin .Add (.int 3) (.var "_law_k")],.bin .Add (.int 80) (.var "_law_more")]),.setk "_law_tables_here" (.sub (.var "_law_names_here") (.var "_law_k")) (.call "_law_rows_by" [.var "_law_cell",.call "_law_wide_by" [.var "_law_shape"],.call "_law_rows_of" [.var "_law_shape"]])]
structure TabI(S:D)(a b c:Str)(more:Int)(ks vs:List D)(σ:St):Prop where
 s:Has σ "_law_script" S
 m:Has σ "_law_more" (.int more)
 n:Has σ "_law_names_here" (.list [.str a,.str b,.str c])
 t:dA σ "_law_tables_here" (.dict ks vs)
theorem ku(B:BT P)(n:Nat)(ns:List Int){a b c:Str}{more:Int}{i:Nat}{nm:Str}{ks vs:List D}(hs:a9 (.list [.str a,.str b,.str c]) (.int i)=some (.str nm))(hk:dX (.str nm) ks=true)(hl:ks.length<4)(hno:∀ x∈ks,aR x (.str nm)=false)(hlen:ks.length=vs.length){σ:St}(I:TabI (.list (ns.map .int)) a b c more ks vs σ) :
  ∃ t σ',(aO (bC (ns.getD i 0)) t∧t.length=cm (ns.getD i 0))∧TabI (.list (ns.map .int)) a b c more (ks++[.str nm]) (vs++[aA t]) σ'∧a8 (al P X (n+4)) tabsB (aC σ "_law_k" (false,.int i))=some (.next,σ'):=by
 have c1:=fm (X:=X) B.toBG (n+3) ns i
 have c2:=fm (X:=X) B.toBG (n+3) ns (3+i)
 obtain⟨x,_,hx⟩:=mixed (X:=X) B.toBG (n+3) (ns.getD (3+i) 0) (80+more)
 obtain⟨t,t1,t2,ht⟩:=rows_by (X:=X) B (n+1) x (m:=bC (ns.getD i 0)) (k:=cm (ns.getD i 0)) (Nat.le_trans (jJ _) (by decide)) (Nat.le_trans (jS (X:=X) B.toBE 0 _).1 (by decide))
 have w1:=r8 (X:=X) B.toBE (n+3) (ns.getD i 0)
 have w2:=(jS (X:=X) B.toBE (n+3) (ns.getD i 0)).2
 have e3:((3+i:Nat):Int)=3+(i:Int):=Int.natCast_add 3 i
 rw[e3] at c2
 obtain⟨fl,σ',⟨rfl,q⟩,e⟩:Out (al P X (n+4)) tabsB (aC σ "_law_k" (false,.int i)) fun fl σ'=>fl=.next∧TabI (.list (ns.map .int)) a b c more (ks++[.str nm]) (vs++[aA t]) σ':=by
  refine aN (bc (d:=.int (ns.getD i 0)) (fr:=false) (aM (ad (ae (aa (ak rfl I.s))) (ad (ae (aa aB)) (aj _ _))) c1) rfl) ?_
  refine aN (bc (d:=.int x) (fr:=false) (aM (ad (ax (ad (ae (aa (ak rfl (ak rfl I.s)))) (ad (ao (ag _ _ _) (ae (aa (ak rfl aB))) cw) (aj _ _))) c2) (ad (ao (ag _ _ _) (ae (aa (ak rfl (ak rfl I.m)))) cw) (aj _ _))) hx) rfl) ?_
  refine aN (uo (d:=aA t) (dk:=.str nm) (ks:=ks) (vs:=vs) (ax (ad (ae (aa aB)) (ad (ax (ad (ae (aa (ak rfl aB))) (aj _ _)) w1) (ad (ax (ad (ae (aa (ak rfl aB))) (aj _ _)) w2) (aj _ _)))) ht) (au (ae (aa (ak rfl (ak rfl (ak rfl I.n))))) (ae (aa (ak rfl (ak rfl aB)))) hs) (eQ rfl (eQ rfl (cO rfl (cO rfl (cO rfl I.t))))) (by rw[hk,decide_eq_true (Nat.lt_trans hl (by decide))];rfl)) (bJ ⟨rfl,?_,?_,?_,?_⟩)
  ·exact ak rfl (ay (ay (ak rfl (ak rfl (ak rfl I.s)))))
  ·exact ak rfl (ay (ay (ak rfl (ak rfl (ak rfl I.m)))))
  ·exact ak rfl (ay (ay (ak rfl (ak rfl (ak rfl I.n)))))
  ·rw[pH hlen hno];exact et
 exact⟨t,σ',⟨t1,t2⟩,q,e⟩
theorem for3{cf:CF}{body:List MS}{z:String}{σ σ0 σ1 σ2:St}{d0 d1 d2:D}(e0:a8 cf body (aC σ z (false,d0))=some (.next,σ0))(e1:a8 cf body (aC σ0 z (false,d1))=some (.next,σ1))(e2:a8 cf body (aC σ1 z (false,d2))=some (.next,σ2)):cj (cC cf body z) [d0,d1,d2] σ=some (.next,σ2):=by
 rw[cF,e0];show cj _ _ _=_;rw[cF,e1];show cj _ _ _=_;rw[cF,e2];rfl
theorem nW(B:BT P)(n:Nat)(ns:List Int)(more:Int){a b c:Str}(hab:a≠b)(hac:a≠c)(hbc:b≠c)(hn:(al P X (n+4)).call "_law_names" [.list (ns.map .int)]=some (.list [.str a,.str b,.str c],true)) :
  ∃ t0 t1 t2,((aO (bC (ns.getD 0 0)) t0∧t0.length=cm (ns.getD 0 0))∧(aO (bC (ns.getD 1 0)) t1∧t1.length=cm (ns.getD 1 0))∧(aO (bC (ns.getD 2 0)) t2∧t2.length=cm (ns.getD 2 0)))∧(al P X (n+5)).call "_law_tables" [.list (ns.map .int),.int more]=some (Tbs.d [(a,t0),(b,t1),(c,t2)],true):=by
 have i0:TabI (.list (ns.map .int)) a b c more [] [] (freeze [] (aC (aC (freeze ["_law_script"] [("_law_script",(false,.list (ns.map .int))),("_law_more",(false,.int more))]) "_law_names_here" (true,.list [.str a,.str b,.str c])) "_law_tables_here" (true,.dict [] []))):=⟨b9 (ak rfl (ak rfl (b9 af))),b9 (ak rfl (ak rfl (b9 (ai rfl af)))),b9 (ak rfl aB),jK rfl et⟩
 have one:∀ {x y:Str},x≠y→∀ z∈[D.str x],aR z (.str y)=false:=fun h z hz=>List.mem_singleton.mp hz▸uc h
 obtain⟨t0,σ0,p0,j0,e0⟩:=ku (X:=X) B n ns (i:=0) (nm:=a) (ks:=[]) (vs:=[]) rfl rfl (Nat.le_of_ble_eq_true rfl) (fun x (h:x∈[])=>nomatch h) rfl i0
 obtain⟨t1,σ1,p1,j1,e1⟩:=ku (X:=X) B n ns (i:=1) (nm:=b) (ks:=[.str a]) (vs:=[aA t0]) rfl rfl (Nat.le_of_ble_eq_true rfl) (one hab) rfl j0
 obtain⟨t2,σ2,p2,j2,e2⟩:=ku (X:=X) B n ns (i:=2) (nm:=c) (ks:=[.str a,.str b]) (vs:=[aA t0,aA t1]) rfl rfl (Nat.le_of_ble_eq_true rfl) (fun z hz=>(List.mem_cons.mp hz).elim (fun e=>e▸uc hac) (one hbc z)) rfl j1
 refine⟨t0,t1,t2,⟨p0,p1,p2⟩,az B.tables rfl ?_⟩
 refine aL (av (aM (ad (ae (aa af)) (aj _ _)) hn)) (aL (av (d:=.dict [] []) (fr:=true) rfl) ?_)
 refine eH (x:=.rng 0 3) (its:=[.int 0,.int 1,.int 2]) (σ':=σ2) rfl rfl ?_ (eB j2.t)
 exact for3 e0 e1 e2
end

set_option maxRecDepth 100000
noncomputable def fE:Fn:=⟨["_law_handed","_law_tables_here"],[
  .ite (.cmp .NotEq (.lcp (.var "_law_handed")) (.lcp (.var "_law_tables_here"))) [.ret (.bool false)] [],
  .ret (.not (.comp (.var "_law_name") "_law_name" (.lcp (.var "_law_tables_here")) [.not (.call "_law_rows_are" [.sub (.var "_law_handed") (.var "_law_name"),.sub (.var "_law_tables_here") (.var "_law_name")])]))]⟩
noncomputable def rW:Fn:=⟨["_law_script"],[
  .assign "_law_query" (.sub (.call "_law_built" [.var "_law_script"]) (.int 0)),
  .assign "_law_tables_here" (.call "_law_tables" [.var "_law_script",.int 0]),
  .assign "_law_handed" (.call "_law_tables" [.var "_law_script",.int 0]),
  .assign "_law_found" (.call "answer" [.var "_law_query",.var "_law_handed"]),
  .ret (.bop .And [.call "_law_rows_are" [.var "_law_found",.call "_law_answer" [.var "_law_query",.var "_law_tables_here"]],.call "_law_stayed" [.var "_law_handed",.var "_law_tables_here"]])]⟩
noncomputable def PP:List (String×Fn):=[("_law_before",fJ),("before",kU),("does",pE),("_law_one_by",fH),("_law_ahead",gP),("_law_told",iz),("_law_row_like",g9),("_law_stands",fF),("rank",tn),("told_of",jy),("holds",mY),("alike",qW),("_law_many",iF),("_law_clause_by",cX),("_law_pairs_by",hM),("_law_ordered",eW),("_law_grouped",eX),("_law_holds",gN),("_law_alike",gO),("_law_cell_is",eY),("once",pD),("ordered",jA),("grouped",jB),("cells_at",lx),("keeps",mX),("meets",mW),("_law_thing_by",eD),("_law_sign_by",iC),("_law_keys_by",iH),("_law_sums_by",iA),("_law_places_by",fY),("_law_clauses_by",cK),("_law_of_two",ef),("_law_sieve_on",eE),("_law_inner",kg),("_law_done",iI),("_law_joined",fI),("_law_row_is",fG),("stepped",jz),("met",rV),("_law_rows_of",iD),("_law_wide_by",iy),("_law_rows_by",iE),("_law_names",kc),("_law_leaf",iG),("_law_mixed",kf),("_law_around",ej),("_law_cell_at",iJ),("_law_stepped",iB),("_law_stayed",fE),("_law_answer",cG),("_law_rows_are",eF),("answer",i9),("_law_tables",jm),("_law_built",ki),("law",rW)]
noncomputable def X7:CF:=⟨fun _ _=>none,fun x=>if x="STEPS" then some (.tup jg) else none⟩
theorem bt:BT PP:={ toBE:=⟨⟨⟨⟨rfl,rfl,rfl,rfl⟩,rfl,rfl⟩,rfl,rfl,rfl,rfl,rfl,rfl,rfl,rfl,rfl⟩,rfl,rfl,rfl,rfl,rfl,rfl⟩,toBA:=⟨rfl,rfl,rfl,rfl,rfl,rfl,rfl,rfl,rfl,rfl,rfl,rfl,rfl,rfl,rfl⟩,rowsBy:=rfl,tables:=rfl }
theorem bl:BL PP:=⟨rfl,rfl,rfl,rfl,rfl,rfl,rfl,rfl,rfl,rfl,rfl,rfl,rfl,rfl,rfl,rfl⟩
theorem sr{cf:CF}{z:String}{e:ME}{r:List MS}{σ:St}{d R:D}{fr f:Bool}(h:evF cf (vis σ) e=some (d,fr))(k:∀ σ':St,(∀ x u,(x == z)=false→Has σ x u→Has σ' x u)→Has σ' z d→Run cf r σ' R f):Run cf (.assign z e::r) σ R f:=
 aL (av h) (k _ (fun x u hx i=>ak hx (ay i)) aB)
theorem skX{cf:CF}{e:ME}{σ:St}{t r:List MS}{R:D}{fr k:Bool}(h:evE cf (vis σ) e=some (.bool k))(hk:k=false)(z:Run cf r σ R fr):Run cf (.ite e t []::r) σ R fr:=cH (k:=false) (x:=.bool false) (hk▸h) rfl nofun fun _=>z
theorem eqS_self{d:D}(h:d.isCell=true):eqS d d=some true:=aP (C:=fun d=>eqS d d=some true) h (fun i=>by show some (i == i)=_;rw[beq_self_eq_true]) fun x=>by show some (x == x)=_;rw[beq_self_eq_true]
theorem m7:∀ {l:List D},(∀ d∈l,d.isCell=true)→fi l l=some true
 | [],_=>rfl
 | d::l,h=>by
  show (eqS d d).bind _=_
  rw[eqS_self (h d (.head _))]
  show (fi l l).map _=_
  rw[m7 fun x hx=>h x (.tail _ hx)];rfl
theorem cells3{x y z:D}(hx:x.isCell=true)(hy:y.isCell=true)(hz:z.isCell=true):∀ d∈[x,y,z],d.isCell=true:=fun d hd=>(List.mem_cons.mp hd).elim (fun e=>e▸hx) fun hd=>(List.mem_cons.mp hd).elim (fun e=>e▸hy) fun hd=>List.mem_singleton.mp hd▸hz
theorem ne_of_eq{a b:D}(h:eqX a b=some true):eG .NotEq a b=some (.bool false):=by
 show (eqX a b).map (fun x=>D.bool (!x))=_
 rw[h];rfl
theorem nm_same(a b c:Str):eG .NotEq (.list [.str a,.str b,.str c]) (.list [.str a,.str b,.str c])=some (.bool false):=by
 refine ne_of_eq ?_
 show (if [D.str a,.str b,.str c].length=[D.str a,.str b,.str c].length then fi [D.str a,.str b,.str c] [D.str a,.str b,.str c] else some false)=_
 rw[if_pos rfl]
 exact m7 (cells3 rfl rfl rfl)
theorem tbs3{W3w W3r:Wd}{a b c:Str}{t0 t1 t2:Tab}{w0 w1 w2 r0 r1 r2:Nat}(e1:W3w=W3 a b c w0 w1 w2)(e2:W3r=W3 a b c r0 r1 r2)(p0:aO w0 t0∧t0.length=r0)(p1:aO w1 t1∧t1.length=r1)(p2:aO w2 t2∧t2.length=r2):tJ W3w W3r [(a,t0),(b,t1),(c,t2)]:=fun nm k h=>by
 subst e1 e2
 unfold W3 at h ⊢
 rw[List.lookup_cons] at h ⊢
 cases x1:nm == a with
 | true=>
  rw[x1] at h
  exact⟨t0,rfl,Option.some.inj h▸p0.1,fun r hr=>by rw[List.lookup_cons,x1] at hr;exact Option.some.inj hr▸Nat.le_of_eq p0.2⟩
 | false=>
  rw[x1] at h
  dsimp only at h ⊢
  rw[List.lookup_cons] at h ⊢
  cases x2:nm == b with
  | true=>
   rw[x2] at h
   exact⟨t1,rfl,Option.some.inj h▸p1.1,fun r hr=>by rw[List.lookup_cons,x1] at hr;dsimp only at hr;rw[List.lookup_cons,x2] at hr;exact Option.some.inj hr▸Nat.le_of_eq p1.2⟩
  | false=>
   rw[x2] at h
   dsimp only at h ⊢
   rw[List.lookup_cons] at h ⊢
   cases x3:nm == c with
   | true=>
    rw[x3] at h
    exact⟨t2,rfl,Option.some.inj h▸p2.1,fun r hr=>by rw[List.lookup_cons,x1] at hr;dsimp only at hr;rw[List.lookup_cons,x2] at hr;dsimp only at hr;rw[List.lookup_cons,x3] at hr;exact Option.some.inj hr▸Nat.le_of_eq p2.2⟩
   | false=>rw[x3] at h;cases h
theorem lstayed(n:Nat){a b c:Str}{t0 t1 t2:Tab}{w0 w1 w2:Nat}(hab:a≠b)(hac:a≠c)(hbc:b≠c)(l0:w0≤12)(l1:w1≤12)(l2:w2≤12)(m0:t0.length≤8)(m1:t1.length≤8)(m2:t2.length≤8)(p0:aO w0 t0)(p1:aO w1 t1)(p2:aO w2 t2):(al PP X7 (n+4)).call "_law_stayed" [Tbs.d [(a,t0),(b,t1),(c,t2)],Tbs.d [(a,t0),(b,t1),(c,t2)]]=some (.bool true,false):=by
 have lst:qB (Tbs.d [(a,t0),(b,t1),(c,t2)])=some [.str a,.str b,.str c]:=rfl
 have lb:∀ {k:Nat},k≤12→k≤big:=fun h=>Nat.le_trans h (by decide)
 have l8:∀ {k:Nat},k≤8→k≤big:=fun h=>Nat.le_trans h (by decide)
 have look:∀ x∈[a,b,c],∃ t,List.lookup x [(a,t0),(b,t1),(c,t2)]=some t∧(al PP X7 (n+3)).call "_law_rows_are" [aA t,aA t]=some (.bool true,false):=fun x hx=>by
  rw[List.lookup_cons,List.lookup_cons,List.lookup_cons]
  have r0:=iZ (X:=X7) bl n p0 (lb l0) (l8 m0)
  have r1:=iZ (X:=X7) bl n p1 (lb l1) (l8 m1)
  have r2:=iZ (X:=X7) bl n p2 (lb l2) (l8 m2)
  cases x1:x == a with
  | true=>exact⟨t0,rfl,r0⟩
  | false=>cases x2:x == b with
   | true=>exact⟨t1,rfl,r1⟩
   | false=>cases x3:x == c with
    | true=>exact⟨t2,rfl,r2⟩
    | false=>
     rcases List.mem_cons.mp hx with rfl | hx
     ·rw[beq_self_eq_true] at x1;cases x1
     rcases List.mem_cons.mp hx with rfl | hx
     ·rw[beq_self_eq_true] at x2;cases x2
     rcases List.mem_singleton.mp hx with rfl
     rw[beq_self_eq_true] at x3;cases x3
 refine az (by rfl:PP.lookup "_law_stayed"=some fE) rfl ?_
 show Run _ fE.body [("_law_handed",(false,Tbs.d [(a,t0),(b,t1),(c,t2)])),("_law_tables_here",(false,Tbs.d [(a,t0),(b,t1),(c,t2)]))] _ _
 refine skX (aD (pT (ae (aa af)) lst) (pT (ae (aa (ai rfl af))) lst) (nm_same a b c)) rfl ?_
 have q:=iU (cf:=al PP X7 (n+3)) (ρ:=vis [("_law_handed",(false,Tbs.d [(a,t0),(b,t1),(c,t2)])),("_law_tables_here",(false,Tbs.d [(a,t0),(b,t1),(c,t2)]))]) (z:="_law_name") (g:=D.str) (l:=[a,b,c]) (p:=fun _=>false) (src:=.lcp (.var "_law_tables_here")) (c:=.not (.call "_law_rows_are" [.sub (.var "_law_handed") (.var "_law_name"),.sub (.var "_law_tables_here") (.var "_law_name")])) (pT (ae (aa (ai rfl af))) lst) rfl (show 3≤big by decide) fun x hx=>by
  obtain⟨t,e,k⟩:=look x hx
  have hs:=tb_sub e
  exact fc (k:=true) (ax (ad (au (ae (aX rfl (aa af))) (ae bw) hs) (ad (au (ae (aX rfl (aa (ai rfl af)))) (ae bw) hs) (aj _ _))) k) rfl
 rw[u6] at q
 exact aK (aw q rfl rfl) rfl
theorem pure_ok(n:Nat)(ns:List Int):∃ fr,(al PP X7 (n+111)).call "law" [.list (ns.map .int)]=some (.bool true,fr):=by
 have hX:X7.glob "STEPS"=some (.tup jg):=rfl
 obtain⟨a,b,c,⟨hab,hac,hbc⟩,hn⟩:=names_eq (X:=X7) bt.toBE ns
 have htab:rZ PP X7 (W3 a b c (bC (ns.getD 0 0)) (bC (ns.getD 1 0)) (bC (ns.getD 2 0))) (W3 a b c (cm (ns.getD 0 0)) (cm (ns.getD 1 0)) (cm (ns.getD 2 0))) (.list (ns.map .int)):=fun n=>by
  obtain⟨t0,t1,t2,⟨p0,p1,p2⟩,ht⟩:=nW (X:=X7) bt n ns 0 hab hac hbc (hn (n+2))
  refine⟨_,true,ht,fun m q r k cc dp hm hd t=>?_⟩
  obtain⟨m,rfl⟩:∃ j,m=j+5:=⟨m - 5,by omega⟩
  obtain⟨fr,e⟩:=di (X:=X7) bl (tbs3 rfl rfl p0 p1 p2) q r m t.ok t.rb t.r t.nar (Nat.le_trans t.dp (by omega))
  exact⟨_,fr,e⟩
 obtain⟨t0,t1,t2,⟨p0,p1,p2⟩,ht⟩:=nW (X:=X7) bt (n+105) ns 0 hab hac hbc (hn (n+107))
 have hT:=tbs3 (W3w:=W3 a b c (bC (ns.getD 0 0)) (bC (ns.getD 1 0)) (bC (ns.getD 2 0))) (W3r:=W3 a b c (cm (ns.getD 0 0)) (cm (ns.getD 1 0)) (cm (ns.getD 2 0))) rfl rfl p0 p1 p2
 obtain⟨d,fr,⟨q,r,k,t,rfl⟩,hb⟩:=built_eq bt.toBE (n+101) (by omega) htab fun n k hk=>leaf_eq bt.toBE n ns hab hac hbc (hn n) k hk
 have hdp:=t.dp
 have ht:(al PP X7 (n+110)).call "_law_tables" [.list (ns.map .int),.int 0]=_:=ht
 have han:(al PP X7 (n+110)).call "answer" [q.d,Tbs.d _]=_:=cr bt.toBA hX hT q r (n+105) t.ok t.rb t.r t.nar (by omega)
 obtain⟨f2,hla⟩:=di (X:=X7) bl hT q r (n+105) t.ok t.rb t.r t.nar (by omega)
 have hok:=bD hT q r t.ok t.rb
 have hwd:q.wd (W3 a b c (bC (ns.getD 0 0)) (bC (ns.getD 1 0)) (bC (ns.getD 2 0)))≤big:=Nat.le_trans t.wd (Nat.le_trans (Nat.mul_le_mul_left 24 t.k2) (by decide))
 have hra:=iZ (X:=X7) bl (n+107) hok.1 hwd (Nat.le_trans hok.2 (Nat.le_trans t.r (by decide)))
 have ro:∀ z,cm z≤8:=fun z=>(jS (X:=X7) bt.toBE 0 z).1
 have hst:=lstayed (n+106) (a:=a) (b:=b) (c:=c) hab hac hbc (jJ _) (jJ _) (jJ _) (p0.2▸ro _) (p1.2▸ro _) (p2.2▸ro _) p0.1 p1.1 p2.1
 have u0:a9 (aF (W3 a b c (bC (ns.getD 0 0)) (bC (ns.getD 1 0)) (bC (ns.getD 2 0))) q r k) (.int 0)=some q.d:=rfl
 refine⟨false,az (by rfl:PP.lookup "law"=some rW) rfl ?_⟩
 show Run _ rW.body [("_law_script",(false,.list (ns.map .int)))] _ _
 generalize aF (W3 a b c (bC (ns.getD 0 0)) (bC (ns.getD 1 0)) (bC (ns.getD 2 0))) q r k=T at *
 generalize q.ans [(a,t0),(b,t1),(c,t2)]=A at *
 generalize Tbs.d [(a,t0),(b,t1),(c,t2)]=U at *
 generalize D.list (ns.map .int)=S at *
 have hb:(al PP X7 (n+110)).call "_law_built" [S]=some (T,fr):=hb
 have hla:(al PP X7 (n+110)).call "_law_answer" [q.d,U]=some (aA A,f2):=hla
 have hra:(al PP X7 (n+110)).call "_law_rows_are" [aA A,aA A]=some (.bool true,false):=hra
 generalize q.d=QD at *
 generalize al PP X7 (n+110)=cf at *
 refine sr (aw (au (ax (ad (ae (aa af)) (aj _ _)) hb) (ag _ _ _) u0) rfl rfl) fun σ1 f1 z1=>?_
 have s1:=f1 _ _ rfl af
 refine sr (aM (ad (ae (aa s1)) (ad (ag _ _ _) (aj _ _))) ht) fun σ2 f2 z2=>?_
 have s2:=f2 _ _ rfl s1
 have q2:=f2 _ _ rfl z1
 refine sr (aM (ad (ae (aa s2)) (ad (ag _ _ _) (aj _ _))) ht) fun σ3 f3 z3=>?_
 have q3:=f3 _ _ rfl q2
 have t3:=f3 _ _ rfl z2
 refine sr (aM (ad (ae (aa q3)) (ad (ae (aa z3)) (aj _ _))) han) fun σ4 f4 z4=>?_
 have q4:=f4 _ _ rfl q3
 have t4:=f4 _ _ rfl t3
 have h4:=f4 _ _ rfl z3
 exact aK (aw (dC (k:=true) (l:=true) (ax (ad (ae (aa z4)) (ad (ax (ad (ae (aa q4)) (ad (ae (aa t4)) (aj _ _))) hla) (aj _ _))) hra) fun _=>bA (ax (ad (ae (aa h4)) (ad (ae (aa t4)) (aj _ _))) hst)) rfl rfl) rfl

noncomputable def GlobOk(mg:Str→Option Value)(h:Heap):Prop:=∃ a vs n,mg (Str.ofString "STEPS")=some (.ref a)∧h.get? a=some (da vs n)∧jO vs.toList nZ=true
theorem GlobOk.keeps{mg:Str→Option Value}{h h':Heap}(x:GlobOk mg h)(hk:∀ b o,h.get? b=some o→h'.get? b=some o):GlobOk mg h':=let ⟨a,vs,n,h1,h2,h3⟩:=x;⟨a,vs,n,h1,hk _ _ h2,h3⟩
theorem glob_of(s:Shared)(e:stepsAt s=true):GlobOk (s.heap.nsMap mainGlobals) s.heap:=by
 unfold stepsAt at e
 split at e
 ·rename_i a ha
  split at e
  ·rename_i o ho
   unfold pY at e
   simp only[Bool.and_eq_true,beq_iff_eq,Option.isNone_iff_eq_none,Array.isEmpty_iff] at e
   obtain⟨⟨⟨e1,e2⟩,e3⟩,e4⟩:=e
   split at e1
   ·rename_i vs n hd
    refine⟨a,vs,n,ha,?_,e1⟩
    rw[ho]
    obtain⟨c,d,dt,sl⟩:=o
    dsimp only at e2 e3 e4 hd
    subst e2 e3 e4 hd
    rfl
   ·cases e1
  ·cases e
 ·cases e
theorem n8{P:Params}{h:Heap}{H:Addr→Prop}:∀ {vs:List Value} {ys:List Str},jO vs ys=true→aq P h H vs (ys.map .str)
 | [],[],_=>.nil
 | [],_::_,e=>by cases e
 | _::_,[],e=>by cases e
 | v::vs,y::ys,e=>by
  rw[jO,Bool.and_eq_true] at e
  obtain⟨e1,e2⟩:=e
  refine .cons ?_ (n8 e2)
  cases v <;> first | (cases e1;done) | skip
  rename_i x t
  have e3:(x == y)=true:=e1
  rw[beq_iff_eq] at e3
  subst e3
  exact .str _ _
theorem hx7{prog:Program}{w:World}{base:Heap}{mg:Str→Option Value}{A:Around}(g:GlobOk mg base):dU prog w base mg X7 A:=by
 refine⟨(fun _ _ _ _ h=>nomatch h),fun x d h=>?_⟩
 have h:(if x="STEPS" then some (D.tup jg) else none)=some d:=h
 split at h
 ·rename_i hx
  cases h
  subst hx
  obtain⟨a,vs,n,h1,h2,h3⟩:=g
  refine⟨_,h1,.tup h2 (fun q=>q) (by decide) ?_⟩
  exact n8 h3
 ·cases h
end Mine
namespace Mine
open PySem PySem.W PyProof.Rows
set_option maxRecDepth 100000
set_option maxHeartbeats 0
theorem chkd:pK (recsOf vw) PP=true:=by decide +kernel
theorem freed:lX vw (looseW vw [])=true:=by decide +kernel
end Mine
open PySem PySem.W PyProof.Rows
set_option maxRecDepth 100000 in
set_option maxHeartbeats 8000000 in
theorem PySem.Challenge.cw_uf030018_10_holds : PySem.Challenge.rw_uf030018_10.Holds := by
 refine holds_law Mine.ws fun said=>?_
 refine holds_open (q:=Mine.vw) (loose:=[]) (Xt:=fun s=>(xlAt Mine.vw [] s&&recOk (RowW.records PySem.Challenge.rw_uf030018_10.row.toRowW) s)&&(Mine.tbAt s&&Mine.stepsAt s)) (XP:=(fun mg h=>XL Mine.vw [] mg h∧Mine.TbOk mg h∧Mine.GlobOk mg h)) (Yf:=Hook.obs Hook.none) (Ya:=Hook.val Hook.none) (YP:=Hook.says Hook.none) (N:=20000) Mine.left (Hook.of Hook.none) (Hook.keeps Hook.none) (fun s e=>⟨xl_of s (Bool.and_eq_true_iff.mp (Bool.and_eq_true_iff.mp e).1).1,Mine.tb_of s (Bool.and_eq_true_iff.mp (Bool.and_eq_true_iff.mp e).2).1,Mine.glob_of s (Bool.and_eq_true_iff.mp (Bool.and_eq_true_iff.mp e).2).2⟩) (fun mg h h' x k=>⟨XL.keeps mg h h' x.1 k,Mine.TbOk.keeps x.2.1 k,Mine.GlobOk.keeps x.2.2 k⟩) Mine.dlDef Mine.dlIs Mine.dlKw (fun s e=>recFacts_of (Bool.and_eq_true_iff.mp (Bool.and_eq_true_iff.mp e).1).2) (by rfl) said Mine.okAll ⟨rfl,rfl,rfl,rfl,rfl,by decide +kernel⟩ ?hw ?hc
 (case hw=>w_witness2)
 intro w s₀ s₁ mg mb G Y fa o pm cd doc dV kV ho hd hcd hD hmg hg args vals as hpre hlay hrd hwl hlo
 rw[Mine.dlName] at hmg
 refine Ground.open G ?_
 intro T B D TE TW
 wrow_args hpre hlay hrd hwl hlo
 exact Mine.law_fin (P:=Mine.PP) (X:=Mine.X7) 111 T Mine.chkd Mine.freed (by decide) (fun _ _=>Mine.hx7 G.X.2.2) G.X.2.1 hmg hg (by assumption) (by assumption) (Mine.pure_ok _ _)
