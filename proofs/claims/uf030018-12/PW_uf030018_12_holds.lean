import PyProof.Rows.All
import Wide.All
import Open.Line
import Wide.FinOn
import PyProof.Cells
import PyProof.RangeIter
import PyProof.CodeObjX
import PyProof.FactsAll.tuple
import PyProof.DictKinds
import PyProof.CompMap
import PyProof.DictKind
import PyProof.Rows.Tup
import PyProof.DictRoads
import PyProof.DictDisplay
import PyProof.NeKinds
import PyProof.DictRoadsH
import PyProof.StrBlockI
import PyProof.StrBlock2
import PyProof.CompFree
import PyProof.Rows.Walk
import PyProof.Rows.IntRules
import PyProof.Rows.RuleB_mul
import PyProof.Rows.RuleB_floordiv
import PyProof.Rows.RuleB_pow
import PyProof.Rows.RuleB_mod
import PyProof.Rows.RuleC_int
import PyProof.Rows.RuleU_int
import PyProof.Rows.StrRules
import PyProof.Rows.Nodes
import PyProof.Rows.TupSub
import PyProof.ListOps
import PyProof.TupleOps
import PyProof.DictStraight
import PyProof.Rows.Lst
import PyProof.Rows.TupMore
import PyProof.Rows.StrTemp
import PyProof.ListTruth
import PyProof.TupleOfSeq
import PyProof.CallStr
import PyProof.RangeFor
import PyProof.Conv_int_bool
import PyProof.SliceStr2
import PyProof.SliceMore
import PyProof.ListIndexNeg
import PyProof.IsiPairs
import PyProof.IsiHeapPairs
import PyProof.Rows.Exc
import PyProof.Rows.Globals
import PyProof.IsiTuple
import PyProof.ListCopy
import PyProof.WalkInts
import PyProof.Rows.SumAny
import KE.KDictList
import PyProof.WalksMore
import PyProof.Rows.Chain
import PyProof.Rows.StrTempNeg
import PyProof.Rows.SortRuns
import PyProof.SetKind
import PyProof.SetRoads
import PyProof.Rows.SetFrom
import PyProof.Rows.SortShell
import PyProof.ForAppend
import PySem.Challenge.RW_uf030018_12
set_option Elab.async false
set_option linter.all false
set_option backward.eqns.nonrecursive false
set_option genSizeOf false
namespace Mine
open PySem PySem.W PyProof.Rows
noncomputable def tb : Addr := 395
noncomputable def oc : Addr := 399
noncomputable def lamN : Str := Str.ofString "law"
noncomputable def tbAt (s : Shared) : Bool := match s.heap.nsMap mainGlobals lamN with
  | some (.ref a) => (match s.heap.get? a with
    | some o => (match o.data with
      | .func fd => fd.code == .ref oc && (match s.heap.get? oc with
        | some c => (match c.data with | .fields vs => vs[11]? == some (.ref tb) | _ => false)
        | none => false)
      | _ => false)
    | none => false)
  | _ => false
noncomputable def stepNames : List Str := ["table", "sieve", "pick", "join", "group", "order", "both", "once", "first"].map Str.ofString
noncomputable def strIs (v : Value) (y : Str) : Bool := match v with
  | .str x _ => x == y
  | _ => false
noncomputable def strsAre : List Value → List Str → Bool
  | [], [] => true
  | v :: vs, y :: ys => strIs v y && strsAre vs ys
  | _, _ => false
noncomputable def stepsObj (o : Obj) : Bool := (match o.data with | .seq vs _ => strsAre vs.toList stepNames | _ => false) && o.cls == .type "tuple" && o.dict.isNone && o.slots.isEmpty
noncomputable def stepsAt (s : Shared) : Bool := match s.heap.nsMap mainGlobals (Str.ofString "STEPS") with
  | some (.ref a) => (match s.heap.get? a with | some o => stepsObj o | none => false)
  | _ => false
set_option maxRecDepth 100000
set_option maxHeartbeats 0
noncomputable def keepS : Stmt → Bool
  | .Assign [.Name x _] _ _ => x != Str.ofString "__name__"
  | _ => true
noncomputable def vw : Program := { PySem.Challenge.pw_uf030018_12 with main := { PySem.Challenge.pw_uf030018_12.main with body := PySem.Challenge.pw_uf030018_12.main.body.filter keepS } }
theorem glue {S A B C Y : Type _} {o : Option S} {f : S → A × B} {g : S → C × Y} {F : S → (A × B × C) × Y} {a : A} {b : B} {c : C} {y : Y} (h1 : o.map f = some (a, b)) (h2 : o.map g = some (c, y)) (hF : ∀ s, F s = (((f s).1, (f s).2, (g s).1), (g s).2)) : o.map F = some ((a, b, c), y) := by
  cases o with
  | none => cases h1
  | some s => exact congrArg some ((hF s).trans (by rw [Option.some.inj h1, Option.some.inj h2]))
theorem leftA (w : World) : (openEnds treeTable PySem.Challenge.pw_uf030018_12 w 20000).map (fun s => (seen ((recsOf vw).map (·.name)) (ownsOf vw) [] { s with gens := #[] }, s.heap.bltView)) = some (expectedOf vw, bltViewBooted) := by kernel_rfl
theorem leftB (w : World) : (openEnds treeTable PySem.Challenge.pw_uf030018_12 w 20000).map (fun s => ((openSeen vw [] (importedModules PySem.Challenge.pw_uf030018_12.main.body) (fun s => (xlAt vw [] s && recOk (RowW.records PySem.Challenge.rw_uf030018_12.row.toRowW) s) && (tbAt s && stepsAt s)) true s).2.2, Hook.obs Hook.none s)) = some ((openGood vw []).2.2, Hook.val Hook.none w) := by kernel_rfl
theorem left : LeftO PySem.Challenge.pw_uf030018_12 vw [] (fun s => (xlAt vw [] s && recOk (RowW.records PySem.Challenge.rw_uf030018_12.row.toRowW) s) && (tbAt s && stepsAt s)) (Hook.obs Hook.none) (Hook.val Hook.none) 20000 := fun w => glue (leftA w) (leftB w) fun _ => rfl
theorem ws : OpenLaw.wellSaid PySem.Challenge.rw_uf030018_12 = true := by decide +kernel
theorem dlSome : (defOf vw (Str.ofString "law")).isSome = true := by decide +kernel
noncomputable def dl : DefRec × List (Str × Expr) := (defOf vw (Str.ofString "law")).get dlSome
theorem dlDef : defOf vw PySem.Challenge.rw_uf030018_12.row.name = some (dl.1, dl.2) := (Option.some_get dlSome).symm
theorem dlIs : PySem.Challenge.rw_uf030018_12.row.prog.theDef PySem.Challenge.rw_uf030018_12.row.name = some (dl.1.params, dl.1.body, dl.1.scope) := by kernel_rfl
theorem dlKw : kwWritten? dl.1.params.kwonlyargs dl.1.params.kw_defaults = some dl.2 := by kernel_rfl
theorem dlName : dl.1.name = Str.ofString "law" := by kernel_rfl
theorem okAll : (chainsOk vw && opensWell PySem.Challenge.rw_uf030018_12.row.prog && (frees PySem.Challenge.rw_uf030018_12.row.toRowW && PySem.Challenge.rw_uf030018_12.row.within.isEmpty)) = true := by decide +kernel
end Mine
namespace Mine
open PySem
noncomputable def lamP : Str := lamN ++ ".<locals>."
noncomputable def lamQ : Str := lamP ++ "<lambda>"
/-- a table of inner codes or a code: what a lambda's making looks at and changes -/
noncomputable def isTab (o : Obj) : Bool := match o.cls, o.data with
  | .none, .fields _ => true
  | .type "code", .fields _ => true
  | _, _ => false
noncomputable abbrev tabE : Obj := { cls := .none, data := .fields #[] }
/-- a lambda's code -/
noncomputable def LamAt (h : Heap) (c : Addr) : Prop := ∃ o vs t, h.get? c = some o ∧ o.cls = .type "code" ∧ o.data = .fields vs ∧ vs[1]? = some (.str lamQ t)
noncomputable def TrOk (h : Heap) : List Value → Prop
  | [] => True
  | .int _ _ :: .int _ _ :: .ref c :: r => LamAt h c ∧ TrOk h r
  | _ => False
/-- a table of lambdas' codes -/
noncomputable def GoodT (h : Heap) (o : Obj) : Prop := ∃ xs, o = { cls := .none, data := .fields xs } ∧ TrOk h xs.toList
open Classical in
/-- the heap with that table blanked, if it is good -/
noncomputable def gat (h : Heap) (a : Addr) : Option Obj :=
  if a = tb then (h.get? a).bind fun o => if isTab o = true then (if GoodT h o then some tabE else none) else some o else h.get? a

section
variable {h h' : Heap} {a : Addr} {o : Obj}
theorem isTab_code (hc : o.cls = .type "code") {vs : Array Value} (hd : o.data = .fields vs) : isTab o = true := by
  unfold isTab; rw [hc, hd]; rfl
theorem LamAt.mono {c : Addr} (x : LamAt h c) (hk : ∀ b o, h.get? b = some o → isTab o = true → o.cls ≠ .none → h'.get? b = some o) : LamAt h' c :=
  let ⟨o, vs, t, e, hc, hd, r⟩ := x; ⟨o, vs, t, hk _ _ e (isTab_code hc hd) (by rw [hc]; nofun), hc, hd, r⟩
theorem TrOk.mono (hk : ∀ b o, h.get? b = some o → isTab o = true → o.cls ≠ .none → h'.get? b = some o) : ∀ l, TrOk h l → TrOk h' l := fun l => by
  fun_induction TrOk h l with
  | case1 => exact id
  | case2 a t b u c r ih => exact fun x => ⟨x.1.mono hk, ih x.2⟩
  | case3 l h1 h2 => exact False.elim
theorem GoodT.mono (x : GoodT h o) (hk : ∀ b o, h.get? b = some o → isTab o = true → o.cls ≠ .none → h'.get? b = some o) : GoodT h' o := let ⟨xs, e, r⟩ := x; ⟨xs, e, r.mono hk⟩
theorem GoodT.tab (x : GoodT h o) : isTab o = true := let ⟨_, e, _⟩ := x; e ▸ rfl
theorem GoodT.empty : GoodT h tabE := ⟨#[], rfl, trivial⟩

theorem Heap.gt_ne (hn : a ≠ tb) : gat h a = h.get? a := by unfold gat; rw [if_neg hn]
theorem Heap.gt_of (e : h.get? a = some o) (ht : isTab o = false := by rfl) : gat h a = some o := by
  unfold gat; split
  · rw [e, Option.bind_some, if_neg (by rw [ht]; nofun)]
  · exact e
theorem Heap.gt_good (e : h.get? tb = some o) (g : GoodT h o) : gat h tb = some tabE := by
  unfold gat; rw [if_pos rfl, e, Option.bind_some, if_pos g.tab, if_pos g]
theorem Heap.gt_some (e : gat h a = some o) : ∃ o', h.get? a = some o' ∧ (o' = o ∧ (a = tb → isTab o = false) ∨ a = tb ∧ o = tabE ∧ GoodT h o') := by
  unfold gat at e
  split at e
  · rename_i q
    rw [Option.bind_eq_some_iff] at e
    obtain ⟨o', e1, e2⟩ := e
    split at e2
    · split at e2
      · rename_i g; cases e2; exact ⟨o', e1, .inr ⟨q, rfl, g⟩⟩
      · cases e2
    · rename_i ht; cases e2; exact ⟨_, e1, .inl ⟨rfl, fun _ => by simpa using ht⟩⟩
  · rename_i q; exact ⟨o, e, .inl ⟨rfl, fun e => absurd e q⟩⟩
theorem Heap.of_gt' (e : gat h a = some o) (hne : o.cls ≠ .none) : h.get? a = some o := by
  obtain ⟨o', e1, ⟨rfl, _⟩ | ⟨_, e2, _⟩⟩ := gt_some e
  · exact e1
  · subst e2; exact absurd rfl hne
theorem Heap.of_gt (e : gat h a = some o) (ht : isTab o = false := by rfl) : h.get? a = some o := by
  obtain ⟨o', e1, ⟨rfl, _⟩ | ⟨_, e2, _⟩⟩ := gt_some e
  · exact e1
  · subst e2; cases ht
theorem Heap.gt_lt (e : gat h a = some o) : @LT.lt Nat _ a h.objs.size := let ⟨_, e, _⟩ := gt_some e; Heap.lt_size e
theorem Heap.gt_lift {F : Addr → Prop} (hF : ∀ b o, h.get? b = some o → isTab o = true → F b) (hk : ∀ b o, F b → h.get? b = some o → h'.get? b = some o) : ∀ b o, F b → gat h b = some o → gat h' b = some o := fun b o f e => by
  obtain ⟨o', e', ⟨rfl, q⟩ | ⟨rfl, rfl, g⟩⟩ := gt_some e
  · by_cases hb : b = tb
    · exact gt_of (hk b o' f e') (q hb)
    · rw [gt_ne hb]; exact hk b o' f e'
  · exact gt_good (hk _ o' f e') (g.mono fun b o e ht _ => hk b o (hF b o e ht) e)
/-- what was there is there -/
noncomputable def KH (h h' : Heap) : Prop := ∀ b o, gat h b = some o → gat h' b = some o
theorem Heap.gt_up (hk : ∀ b o, h.get? b = some o → h'.get? b = some o) : KH h h' :=
  fun b o e => gt_lift (F := fun _ => True) (fun _ _ _ _ => trivial) (fun b o _ e => hk b o e) b o trivial e
theorem Heap.gt_push_of_some (x : Obj) (e : gat h a = some o) : gat (h.push x) a = some o := gt_up (fun _ _ e => Heap.get?_push_of_some _ e) a o e
theorem Heap.gt_push_size (x : Obj) (hf : x.isFreed = false) (ht : isTab x = false := by rfl) : gat (h.push x) h.objs.size = some x := gt_of (Heap.get?_push_size _ hf) ht
theorem Heap.gt_none_of_le (e : @LE.le Nat _ h.objs.size a) : gat h a = none := by
  cases q : gat h a with
  | none => rfl
  | some o => obtain ⟨o', e', _⟩ := gt_some q; rw [Heap.get?_none_of_le e] at e'; cases e'
theorem g1 {b : Addr} (hs : Heap.SameBut b h h') (n : ∀ o, h.get? b = some o → isTab o = false) (a : Addr) (hn : a ≠ b) (e : gat h a = some o) : gat h' a = some o :=
  Heap.gt_lift (F := fun x => x ≠ b) (fun x o e ht q => by rw [n o (q ▸ e)] at ht; cases ht) (fun x o hx e => (hs.2 x hx).trans e) a o hn e
/-- the same but for one place, where no table and no code lies -/
structure Heap.SB (b : Addr) (h h' : Heap) : Prop where
  s : Heap.SameBut b h h'
  n : ∀ o, h.get? b = some o → isTab o = false
  n' : ∀ o, h'.get? b = some o → isTab o = false
theorem Heap.SB.g {b : Addr} (hs : Heap.SB b h h') (a : Addr) (hn : a ≠ b) : gat h' a = gat h a := by
  have one : ∀ {h h' : Heap}, Heap.SB b h h' → ∀ o, gat h a = some o → gat h' a = some o := fun {h h'} hs o e =>
    gt_lift (F := fun x => x ≠ b) (fun x o e ht q => by rw [hs.n o (q ▸ e)] at ht; cases ht) (fun x o hx e => (hs.s.2 x hx).trans e) a o hn e
  have hs' : Heap.SB b h' h := ⟨⟨hs.s.1.symm, fun x hx => (hs.s.2 x hx).symm⟩, hs.n', hs.n⟩
  cases q : gat h a with
  | some o => exact one hs o q
  | none =>
    cases q' : gat h' a with
    | none => rfl
    | some o => rw [one hs' o q'] at q; cases q
theorem notTab_of {o : Obj} (h : ∀ v, o.data ≠ .fields v) : isTab o = false := by
  unfold isTab
  split
  · next e => exact absurd e (h _)
  · next e => exact absurd e (h _)
  · rfl
theorem notTab_cls {o : Obj} (h : o.cls ≠ .none) (h2 : o.cls ≠ .type "code") : isTab o = false := by
  unfold isTab
  split
  · next e _ => exact absurd e h
  · next e _ => exact absurd e h2
  · rfl
theorem notTab_at (e : h.get? a = some o) (ht : isTab o = false := by rfl) : ∀ o, h.get? a = some o → isTab o = false := fun o' e' => by
  rw [e] at e'; cases e'; exact ht
theorem notTab_ns {m : Str → Option Value} (x : h.Ns a m) : ∀ o, h.get? a = some o → isTab o = false :=
  let ⟨_, _, _, e, hd, _⟩ := x; notTab_at e (notTab_of (by rw [hd]; nofun))
theorem notTab_cell {v : Option Value} (x : h.IsCell a v) : ∀ o, h.get? a = some o → isTab o = false :=
  let ⟨_, e, hd⟩ := x; notTab_at e (notTab_of (by rw [hd]; nofun))
theorem gt_ns {m : Str → Option Value} (x : h.Ns a m) : ∃ o, gat h a = some o := let ⟨_, _, _, e, _⟩ := id x; ⟨_, Heap.gt_of e (notTab_ns x _ e)⟩
theorem gt_cell {v : Option Value} (x : h.IsCell a v) : ∃ o, gat h a = some o := let ⟨_, e, _⟩ := id x; ⟨_, Heap.gt_of e (notTab_cell x _ e)⟩
end
end Mine
namespace Mine
open PySem

/-- by-value data -/
inductive D where
  | none
  | bool (b : Bool)
  | int (i : Int)
  | str (x : Str)
  | tup (ds : List D)
  | list (ds : List D)
  | dict (ks : List D) (vs : List D)
  | rng (a b : Int)

noncomputable def big : Nat := 2 ^ 24

/-- hashes of keys: ints, strs, tuples of these -/
noncomputable def hashC (P : Params) : D → Int
  | .int i => hashInt i
  | .str x => if x.cps.isEmpty = true then 0 else reduceHash (P.strHash x.cps)
  | _ => 0
noncomputable def hashK (P : Params) : D → Int
  | .tup ds => reduceHash (Builtin.Tuple.tupleHashOf (ds.map (hashC P)))
  | d => hashC P d
noncomputable def D.isCell : D → Bool
  | .int _ | .str _ => true
  | _ => false
noncomputable def D.isKey : D → Bool
  | .int _ | .str _ => true
  | .tup ds => ds.all D.isCell
  | _ => false

noncomputable abbrev tupO (vs : Array Value) (n : Nat) : Obj := { cls := .type "tuple", dict := Option.none, data := .seq vs n, slots := #[] }
noncomputable abbrev lstO (vs : Array Value) (n : Nat) : Obj := { cls := .type "list", dict := Option.none, data := .seq vs n, slots := #[] }
noncomputable abbrev dicO (es : Array DictEntry) (n : Nat) : Obj := { cls := .type "dict", dict := Option.none, data := .dict es n, slots := #[] }

mutual
/-- the value v stands for d in the heap h, by objects that lie outside of H -/
inductive Rep (P : Params) (h : Heap) (H : Addr → Prop) : Value → D → Prop
  | none : Rep P h H .none .none
  | bool (b : Bool) : Rep P h H (.bool b) (.bool b)
  | int (i : Int) (t : Tok) : Rep P h H (.int i t) (.int i)
  | str (x : Str) (t : Tok) : Rep P h H (.str x t) (.str x)
  | tup {a : Addr} {vs : Array Value} {n : Nat} {ds : List D} : h.get? a = some (tupO vs n) → ¬ H a → ds.length ≤ big → RepAll P h H vs.toList ds → Rep P h H (.ref a) (.tup ds)
  | list {a : Addr} {vs : Array Value} {n : Nat} {ds : List D} : h.get? a = some (lstO vs n) → ¬ H a → ds.length ≤ big → RepAll P h H vs.toList ds → Rep P h H (.ref a) (.list ds)
  | dict {a : Addr} {es : Array DictEntry} {n : Nat} {ks vs : List D} : h.get? a = some (dicO es n) → ¬ H a → ks.length ≤ big → RepAll P h H (es.toList.map (·.key)) ks → RepAll P h H (es.toList.map (·.val)) vs →
      es.toList.map (·.hash) = ks.map (hashK P) → ks.all D.isKey = true → ks.Nodup → (a == sysModules) = false → Rep P h H (.ref a) (.dict ks vs)
  | rng {a : Addr} {lo hi : Int} {t u v : Tok} : IsRange h a lo hi 1 t u v → ¬ H a → (-big ≤ lo ∧ lo ≤ big ∧ -big ≤ hi ∧ hi ≤ big) → Rep P h H (.ref a) (.rng lo hi)
inductive RepAll (P : Params) (h : Heap) (H : Addr → Prop) : List Value → List D → Prop
  | nil : RepAll P h H [] []
  | cons {v : Value} {d : D} {vs : List Value} {ds : List D} : Rep P h H v d → RepAll P h H vs ds → RepAll P h H (v :: vs) (d :: ds)
end

mutual
theorem Rep.mono {P : Params} {h h' : Heap} {H H' : Addr → Prop} (hk : ∀ a o, ¬ H a → gat h a = some o → gat h' a = some o) (hH : ∀ a o, gat h a = some o → H' a → H a) :
    ∀ {v : Value} {d : D}, Rep P h H v d → Rep P h' H' v d
  | _, _, .none => .none
  | _, _, .bool b => .bool b
  | _, _, .int i t => .int i t
  | _, _, .str x t => .str x t
  | _, _, .tup ho hn hl hr => .tup (Heap.of_gt (hk _ _ hn (Heap.gt_of ho))) (fun x => hn (hH _ _ (Heap.gt_of ho) x)) hl (RepAll.mono hk hH hr)
  | _, _, .list ho hn hl hr => .list (Heap.of_gt (hk _ _ hn (Heap.gt_of ho))) (fun x => hn (hH _ _ (Heap.gt_of ho) x)) hl (RepAll.mono hk hH hr)
  | _, _, .dict ho hn hl hr hr' e1 e2 e3 e4 => .dict (Heap.of_gt (hk _ _ hn (Heap.gt_of ho))) (fun x => hn (hH _ _ (Heap.gt_of ho) x)) hl (RepAll.mono hk hH hr) (RepAll.mono hk hH hr') e1 e2 e3 e4
  | _, _, .rng hr hn hl => .rng (Heap.of_gt (hk _ _ hn (Heap.gt_of hr))) (fun x => hn (hH _ _ (Heap.gt_of hr) x)) hl
theorem RepAll.mono {P : Params} {h h' : Heap} {H H' : Addr → Prop} (hk : ∀ a o, ¬ H a → gat h a = some o → gat h' a = some o) (hH : ∀ a o, gat h a = some o → H' a → H a) :
    ∀ {vs : List Value} {ds : List D}, RepAll P h H vs ds → RepAll P h' H' vs ds
  | _, _, .nil => .nil
  | _, _, .cons hv hr => .cons (Rep.mono hk hH hv) (RepAll.mono hk hH hr)
end

theorem Rep.keeps {P : Params} {h h' : Heap} {H : Addr → Prop} {v : Value} {d : D} (hr : Rep P h H v d) (hk : KH h h') : Rep P h' H v d :=
  hr.mono (fun a o _ e => hk a o e) (fun _ _ _ x => x)
theorem RepAll.keeps {P : Params} {h h' : Heap} {H : Addr → Prop} {v : List Value} {d : List D} (hr : RepAll P h H v d) (hk : KH h h') : RepAll P h' H v d :=
  hr.mono (fun a o _ e => hk a o e) (fun _ _ _ x => x)
theorem Rep.sub {P : Params} {h : Heap} {H H' : Addr → Prop} {v : Value} {d : D} (hr : Rep P h H v d) (hH : ∀ a, H' a → H a) : Rep P h H' v d :=
  hr.mono (fun _ _ _ e => e) (fun a _ _ x => hH a x)

theorem RepAll.length {P : Params} {h : Heap} {H : Addr → Prop} : ∀ {vs : List Value} {ds : List D}, RepAll P h H vs ds → vs.length = ds.length
  | _, _, .nil => rfl
  | _, _, .cons _ hr => by simp [RepAll.length hr]
theorem RepAll.append {P : Params} {h : Heap} {H : Addr → Prop} : ∀ {vs ws : List Value} {ds es : List D}, RepAll P h H vs ds → RepAll P h H ws es → RepAll P h H (vs ++ ws) (ds ++ es)
  | _, _, _, _, .nil, k => k
  | _, _, _, _, .cons hv hr, k => .cons hv (RepAll.append hr k)
theorem RepAll.get {P : Params} {h : Heap} {H : Addr → Prop} : ∀ {vs : List Value} {ds : List D} (i : Nat) {d : D}, RepAll P h H vs ds → ds[i]? = some d → ∃ v, vs[i]? = some v ∧ Rep P h H v d
  | _, _, _, _, .nil, e => by simp at e
  | _, _, 0, _, .cons hv hr, e => by simp at e; subst e; exact ⟨_, rfl, hv⟩
  | _, _, i + 1, _, .cons hv hr, e => by simpa using RepAll.get i hr (by simpa using e)
theorem RepAll.drop {P : Params} {h : Heap} {H : Addr → Prop} : ∀ {vs : List Value} {ds : List D} (i : Nat), RepAll P h H vs ds → RepAll P h H (vs.drop i) (ds.drop i)
  | _, _, 0, k => by simpa using k
  | _, _, i + 1, .nil => by simpa using RepAll.nil
  | _, _, i + 1, .cons hv hr => by simpa using RepAll.drop i hr
theorem RepAll.take {P : Params} {h : Heap} {H : Addr → Prop} : ∀ {vs : List Value} {ds : List D} (i : Nat), RepAll P h H vs ds → RepAll P h H (vs.take i) (ds.take i)
  | _, _, 0, _ => by simpa using RepAll.nil
  | _, _, i + 1, .nil => by simpa using RepAll.nil
  | _, _, i + 1, .cons hv hr => by simpa using RepAll.cons hv (RepAll.take i hr)

theorem Rep.off {P : Params} {h : Heap} {H : Addr → Prop} {a : Addr} {d : D} (hr : Rep P h H (.ref a) d) : ¬ H a := by
  cases hr <;> assumption
noncomputable def D.scalar : D → Bool
  | .none | .bool _ | .int _ | .str _ => true
  | _ => false
theorem Rep.scalar {P : Params} {h h' : Heap} {H H' : Addr → Prop} {v : Value} {d : D} (hr : Rep P h H v d) (hs : d.scalar = true) : Rep P h' H' v d := by
  cases hr <;> first | exact .none | exact .bool _ | exact .int _ _ | exact .str _ _ | cases hs

theorem ofString_inj {a b : String} (h : Str.ofString a = Str.ofString b) : a = b := by
  rw [Str.ofString_eq_toList, Str.ofString_eq_toList] at h
  have h1 : a.toList.map Char.toNat = b.toList.map Char.toNat := by simpa using h
  have h2 : a.toList = b.toList := by
    generalize a.toList = l at h1; generalize b.toList = m at h1
    induction l generalizing m with
    | nil => cases m <;> simp_all
    | cons x l ih =>
      cases m with
      | nil => simp at h1
      | cons y m =>
        simp only [List.map_cons, List.cons.injEq] at h1
        have : x = y := by
          have := h1.1
          exact Char.toNat_inj.mp this
        rw [this, ih _ h1.2]
  exact String.toList_inj.mp h2

end Mine
namespace Mine
open PySem PySem.SeqAt
/-! dicts with keys that are ints and strs -/
noncomputable abbrev CK := Int ⊕ Str
noncomputable def ofCK : CK → D
  | .inl i => .int i
  | .inr x => .str x
noncomputable def CK.is : CK → Value → Bool
  | .inl i, v => Value.isInt i v
  | .inr x, v => Value.isStrOf x v
theorem CK.is_inl {i : Int} {v : Value} (h : CK.is (.inl i) v = true) : ∃ t, v = .int i t := Value.isInt_shape h
theorem CK.is_inr {x : Str} {v : Value} (h : CK.is (.inr x) v = true) : ∃ t, v = .str x t := Value.isStrOf_shape h
noncomputable def cellKind (prog : Program) (w : World) : KeyKind prog w CK where
  is := CK.is
  hash := fun k => hashK w.params (ofCK k)
  inj := fun v a b ha hb => by
    cases a <;> cases b
    · obtain ⟨t, rfl⟩ := CK.is_inl ha
      obtain ⟨u, e⟩ := CK.is_inl hb
      cases e; rfl
    · obtain ⟨t, rfl⟩ := CK.is_inl ha
      obtain ⟨u, e⟩ := CK.is_inr hb
      cases e
    · obtain ⟨t, rfl⟩ := CK.is_inr ha
      obtain ⟨u, e⟩ := CK.is_inl hb
      cases e
    · obtain ⟨t, rfl⟩ := CK.is_inr ha
      obtain ⟨u, e⟩ := CK.is_inr hb
      cases e; rfl
  byValue := fun k v h => by
    cases k
    · obtain ⟨t, rfl⟩ := CK.is_inl h; rfl
    · obtain ⟨t, rfl⟩ := CK.is_inr h; rfl
  pyHash := fun {A E s k v Q} hv h => by
    cases k
    · obtain ⟨t, rfl⟩ := CK.is_inl hv; exact wpAny_pyHash_int h
    · obtain ⟨t, rfl⟩ := CK.is_inr hv; exact wpAny_pyHash_str h
  eqBool := fun {A E s a b u v Q} hu hv h => by
    cases a <;> cases b
    · rename_i i j
      obtain ⟨t, rfl⟩ := CK.is_inl hu
      obtain ⟨u, rfl⟩ := CK.is_inl hv
      have h' : Q (decide (i = j)) s := by simpa using h
      exact wpAny_eqBool_int h'
    · obtain ⟨t, rfl⟩ := CK.is_inl hu
      obtain ⟨u, rfl⟩ := CK.is_inr hv
      exact EqAt.int_str _ _ _ _ prog w E Q (by simpa using h)
    · obtain ⟨t, rfl⟩ := CK.is_inr hu
      obtain ⟨u, rfl⟩ := CK.is_inl hv
      exact EqAt.str_int _ _ _ _ prog w E Q (by simpa using h)
    · rename_i i j
      obtain ⟨t, rfl⟩ := CK.is_inr hu
      obtain ⟨u, rfl⟩ := CK.is_inr hv
      have h' : Q (decide (i = j)) s := by simpa using h
      exact wpAny_eqBool_str h'
  «strs» := fun k x t v h => by
    cases k
    · obtain ⟨u, e⟩ := CK.is_inl h; cases e
    · exact (strKind prog w).strs _ x t v h
theorem ofCK_inj {a b : CK} (h : ofCK a = ofCK b) : a = b := by
  cases a <;> cases b <;> cases h <;> rfl
theorem cell_ck {d : D} (h : d.isCell = true) : ∃ k, d = ofCK k := by
  cases d <;> first | cases h | skip
  · exact ⟨.inl _, rfl⟩
  · exact ⟨.inr _, rfl⟩
theorem cells_ck : ∀ {ks : List D}, ks.all D.isCell = true → ∃ cs : List CK, ks = cs.map ofCK
  | [], _ => ⟨[], rfl⟩
  | k :: ks, h => by
    simp only [List.all_cons, Bool.and_eq_true] at h
    obtain ⟨c, rfl⟩ := cell_ck h.1
    obtain ⟨cs, rfl⟩ := cells_ck h.2
    exact ⟨c :: cs, rfl⟩
theorem rep_ck {P : Params} {h : Heap} {H : Addr → Prop} {v : Value} {k : CK} (r : Rep P h H v (ofCK k)) : CK.is k v = true := by
  cases k <;> cases r <;> simp [CK.is, Value.isInt, Value.isStrOf]
theorem ck_rep {P : Params} {h : Heap} {H : Addr → Prop} {v : Value} {k : CK} (r : CK.is k v = true) : Rep P h H v (ofCK k) := by
  cases k
  · obtain ⟨t, rfl⟩ := CK.is_inl r; exact .int _ _
  · obtain ⟨t, rfl⟩ := CK.is_inr r; exact .str _ _
theorem pairs_of {prog : Program} {w : World} {h : Heap} {H : Addr → Prop} : ∀ {es : List DictEntry} {cs : List CK}, RepAll w.params h H (es.map (·.key)) (cs.map ofCK) → Pairs (cellKind prog w) es (cs.zip (es.map (·.val)))
  | [], cs, r => by
    cases cs with
    | nil => exact .nil
    | cons _ _ => cases r
  | e :: es, cs, r => by
    cases cs with
    | nil => cases r
    | cons c cs =>
      cases r with
      | cons r1 r2 => exact .cons (rep_ck r1) rfl (pairs_of r2)
theorem of_pairs {prog : Program} {w : World} {h : Heap} {H : Addr → Prop} : ∀ {es : List DictEntry} {kvs : List (CK × Value)}, Pairs (cellKind prog w) es kvs → RepAll w.params h H (es.map (·.key)) (kvs.map fun p => ofCK p.1) ∧ es.map (·.val) = kvs.map (·.2)
  | [], _, .nil => ⟨.nil, rfl⟩
  | e :: es, _, .cons h1 h2 h3 => by
    obtain ⟨a, b⟩ := of_pairs (h := h) (H := H) h3
    exact ⟨.cons (ck_rep h1) a, by simp [h2, b]⟩
theorem zip_fst {α β : Type} : ∀ {a : List α} {b : List β}, a.length = b.length → (a.zip b).map (·.1) = a
  | [], [], _ => rfl
  | x :: a, y :: b, h => by simp [zip_fst (a := a) (b := b) (by simpa using h)]
theorem zip_snd {α β : Type} : ∀ {a : List α} {b : List β}, a.length = b.length → (a.zip b).map (·.2) = b
  | [], [], _ => rfl
  | x :: a, y :: b, h => by simp [zip_snd (a := a) (b := b) (by simpa using h)]
theorem dictOf_rep {prog : Program} {w : World} {h : Heap} {H : Addr → Prop} {a : Addr} {es : Array DictEntry} {n : Nat} {cs : List CK} (ho : h.get? a = some (dicO es n)) (hr : RepAll w.params h H (es.toList.map (·.key)) (cs.map ofCK))
    (hh : es.toList.map (·.hash) = (cs.map ofCK).map (hashK w.params)) (hn : (cs.map ofCK).Nodup) : h.DictOf (cellKind prog w) a (cs.zip (es.toList.map (·.val))) := by
  have hl : cs.length = (es.toList.map (·.val)).length := by have := hr.length; simp at this ⊢; omega
  refine ⟨_, es, n, ho, ⟨rfl, rfl, rfl⟩, rfl, ?_, pairs_of hr, ?_⟩
  · intro e he
    obtain ⟨i, hi, rfl⟩ := List.mem_iff_getElem.mp (Array.mem_toList_iff.mpr he)
    have hc : i < cs.length := by rw [hl]; simpa using hi
    refine ⟨cs[i], ?_, ?_⟩
    · obtain ⟨v, h1, h2⟩ := hr.get i (d := ofCK cs[i]) (by simp [hc])
      have : v = es.toList[i].key := by simpa [List.getElem?_eq_getElem hi] using h1.symm
      exact rep_ck (this ▸ h2)
    · have := congrArg (fun l => l[i]?) hh
      show _ = hashK w.params (ofCK cs[i])
      simpa [List.getElem?_eq_getElem hi, hc] using this
  · rw [zip_fst hl]
    exact (List.pairwise_map.mp hn).imp fun h e => h (by rw [e])
theorem rep_dictOf {prog : Program} {w : World} {h : Heap} {H : Addr → Prop} {a : Addr} {kvs : List (CK × Value)} (hd : h.DictOf (cellKind prog w) a kvs) :
    ∃ es n, h.get? a = some (dicO es n) ∧ RepAll w.params h H (es.toList.map (·.key)) (kvs.map fun p => ofCK p.1) ∧ es.toList.map (·.val) = kvs.map (·.2) ∧ es.toList.map (·.hash) = (kvs.map fun p => ofCK p.1).map (hashK w.params) ∧
      (kvs.map fun p => ofCK p.1).all D.isKey = true ∧ (kvs.map fun p => ofCK p.1).Nodup := by
  obtain ⟨o, es, ep, ho, ⟨c1, c2, c3⟩, hdat, hk, hp, hn⟩ := hd
  obtain ⟨p1, p2⟩ := of_pairs (h := h) (H := H) hp
  have ho' : o = dicO es ep := by obtain ⟨a, b, c, d⟩ := o; dsimp only at c1 c2 c3 hdat; subst c1 c2 c3 hdat; rfl
  refine ⟨es, ep, ho' ▸ ho, p1, p2, ?_, ?_, ?_⟩
  · have key : ∀ (l : List DictEntry) (kvs : List (CK × Value)), (∀ e ∈ l, ∃ k, (cellKind prog w).is k e.key = true ∧ e.hash = (cellKind prog w).hash k) → Pairs (cellKind prog w) l kvs → l.map (·.hash) = (kvs.map fun p => ofCK p.1).map (hashK w.params) := by
      intro l kvs hk hp
      induction hp with
      | nil => rfl
      | cons h1 h2 h3 ih =>
        obtain ⟨k, q1, q2⟩ := hk _ (List.mem_cons_self)
        have e := (cellKind prog w).inj _ _ _ q1 h1
        rw [e] at q2
        rw [List.map_cons, List.map_cons, List.map_cons, ih fun e he => hk e (List.mem_cons_of_mem _ he), q2]
        rfl
    exact key _ _ (fun e he => hk e (Array.mem_toList_iff.mp he)) hp
  · rw [List.all_eq_true]
    intro d hd
    obtain ⟨p, _, rfl⟩ := List.mem_map.mp hd
    cases p.1 <;> rfl
  · have : (kvs.map fun p => ofCK p.1) = (kvs.map (·.1)).map ofCK := by simp
    rw [this]
    exact List.pairwise_map.mpr (hn.imp fun h e => h (ofCK_inj e))

noncomputable def cellEq (a b : D) : Bool := match a with
  | .int i => (match b with | .int j => i == j | _ => false)
  | .str x => (match b with | .str y => x == y | _ => false)
  | _ => false
noncomputable def cellsEq : List D → List D → Bool
  | [], [] => true
  | a :: r, b :: r' => cellEq a b && cellsEq r r'
  | _, _ => false
noncomputable def keyEq (a b : D) : Bool := match a with
  | .tup x => (match b with | .tup y => cellsEq x y | _ => false)
  | a => cellEq a b
noncomputable def dget : List D → List D → D → Option D
  | k :: ks, v :: vs, x => if keyEq k x then some v else dget ks vs x
  | _, _, _ => Option.none
noncomputable def dput : List D → List D → D → D → List D × List D
  | k' :: ks, v' :: vs, k, v => if keyEq k' k then (k' :: ks, v :: vs) else (k' :: (dput ks vs k v).1, v' :: (dput ks vs k v).2)
  | _, _, k, v => ([k], [v])
theorem cellEq_ck (a b : CK) : cellEq (ofCK a) (ofCK b) = decide (a = b) := by
  cases a <;> cases b
  · simp only [ofCK, cellEq, Sum.inl.injEq]; rfl
  · rfl
  · rfl
  · simp only [ofCK, cellEq, Sum.inr.injEq]; rfl
theorem keyEq_ck (a b : CK) : keyEq (ofCK a) (ofCK b) = decide (a = b) := by
  rw [← cellEq_ck]; cases a <;> rfl
theorem dget_valueAt {P : Params} {h : Heap} {H : Addr → Prop} {k : CK} {d : D} : ∀ {cs : List CK} {vals : List Value} {vs : List D}, RepAll P h H vals vs → dget (cs.map ofCK) vs (ofCK k) = some d → ∃ v, valueAt (cs.zip vals) k = some v ∧ Rep P h H v d
  | [], _, _, _, e => by simp [dget] at e
  | c :: cs, _, _, .nil, e => by simp [dget] at e
  | c :: cs, _, _, .cons (v := v) (vs := vals) (ds := vs) hv hr, e => by
    simp only [List.map_cons, dget, keyEq_ck] at e
    by_cases hc : c = k
    · rw [if_pos (by simpa using hc)] at e
      cases e
      exact ⟨v, by simp [valueAt, hc], hv⟩
    · rw [if_neg (by simpa using hc)] at e
      obtain ⟨u, h1, h2⟩ := dget_valueAt hr e
      refine ⟨u, ?_, h2⟩
      unfold valueAt at h1 ⊢
      rw [List.zip_cons_cons, List.find?_cons_of_neg (by simpa using hc)]
      exact h1
theorem any_valueAt {k : CK} : ∀ {cs : List CK} {vals : List Value}, cs.length = vals.length → (valueAt (cs.zip vals) k).isSome = (cs.map ofCK).any fun x => keyEq x (ofCK k)
  | [], [], _ => rfl
  | c :: cs, v :: vals, e => by
    have ih := any_valueAt (k := k) (cs := cs) (vals := vals) (by simpa using e)
    simp only [List.map_cons, List.any_cons, keyEq_ck]
    unfold valueAt at ih ⊢
    by_cases hc : c = k
    · simp [hc]
    · rw [List.zip_cons_cons, List.find?_cons_of_neg (by simpa using hc), ih]
      simp [hc]
theorem stored_dput {P : Params} {h : Heap} {H : Addr → Prop} {k : CK} {v : Value} {d : D} (hv : Rep P h H v d) {cs : List CK} : ∀ {vals : List Value} {vs : List D}, cs.length = vals.length → cs.Nodup → RepAll P h H vals vs →
    ((stored (cs.zip vals) k v).map fun p => ofCK p.1) = (dput (cs.map ofCK) vs (ofCK k) d).1 ∧ RepAll P h H ((stored (cs.zip vals) k v).map (·.2)) (dput (cs.map ofCK) vs (ofCK k) d).2 := by
  induction cs with
  | nil =>
    intro vals vs e _ hr
    cases hr with
    | nil => exact ⟨rfl, .cons hv .nil⟩
    | cons _ _ => simp at e
  | cons c cs IH =>
    intro vals' vs' e hn hr'
    cases hr' with
    | nil => simp at e
    | cons hu hr =>
    rename_i u _ vals vs
    have hl : cs.length = vals.length := by simpa using e
    obtain ⟨hnc, hn'⟩ := List.nodup_cons.mp hn
    obtain ⟨ih1, ih2⟩ := IH hl hn' hr
    simp only [List.map_cons, dput, keyEq_ck, List.zip_cons_cons]
    by_cases hc : c = k
    · subst hc
      have hs : stored ((c, u) :: cs.zip vals) c v = (c, v) :: cs.zip vals := by
        unfold stored
        rw [if_pos (by simp)]
        simp only [List.map_cons, if_true]
        rw [map_store_of_not_mem _ _ _ (by rw [zip_fst hl]; exact hnc)]
      rw [hs, if_pos (by simp)]
      refine ⟨?_, ?_⟩
      · simp only [List.map_cons]
        congr 1
        have : (cs.zip vals).map (fun p => ofCK p.1) = ((cs.zip vals).map (·.1)).map ofCK := by simp
        rw [this, zip_fst hl]
      · simp only [List.map_cons]
        rw [zip_snd hl]
        exact .cons hv hr
    · have hs : stored ((c, u) :: cs.zip vals) k v = (c, u) :: stored (cs.zip vals) k v := by
        unfold stored
        by_cases ha : (cs.zip vals).any (fun kv => decide (kv.1 = k)) = true
        · rw [if_pos ha, if_pos (by simp [ha, hc])]
          simp [hc]
        · rw [if_neg ha, if_neg (by simpa [hc] using ha)]
          rfl
      rw [hs, if_neg (by simpa using hc)]
      exact ⟨by simp only [List.map_cons]; rw [ih1], .cons hu ih2⟩
end Mine
namespace Mine
open PySem PySem.SeqAt
/-! dicts with keys that are tuples of ints and strs -/
section
variable {prog : Program} {w : World} {h : Heap} {H : Addr → Prop}
end
end Mine
namespace Mine
open PySem

/-! the mini language -/
inductive ME where
  | var (x : String)
  | glob (x : String)
  | int (i : Int)
  | str (s : String)
  | bool (b : Bool)
  | none
  | bin (op : Operator) (a b : ME)
  | cmp (op : CmpOp) (a b : ME)
  | bop (op : BoolOp) (es : List ME)
  | not (a : ME)
  | neg (a : ME)
  | tup (es : List ME)
  | lst (es : List ME)
  | sub (a i : ME)
  | sl (a lo hi : ME)
  | dct (ks vs : List ME)
  | comp (elt : ME) (x : String) (src : ME) (cs : List ME)
  | call (f : String) (args : List ME)
  | isi (a : ME) (T : String)
  | blt (f : String) (args : List ME)
  | lcp (a : ME)
  | sset (a : ME)
  | cc (o1 o2 : CmpOp) (a b c : ME)

inductive MS where
  | assign (x : String) (e : ME)
  | append (x : String) (e : ME)
  | setk (x : String) (k e : ME)
  | ite (c : ME) (t f : List MS)
  | for_ (x : String) (src : ME) (body : List MS)
  | ret (e : ME)
  | bad
  | expr (e : ME)
  | while_ (c : ME) (body : List MS)

noncomputable def D.isList : D → Bool
  | .list _ => true
  | _ => false
/-! data operations -/
noncomputable def D.items : D → Option (List D)
  | .list ds | .tup ds => some ds
  | .rng a b => some ((List.range (b - a).toNat).map fun (i : Nat) => D.int (a + (i : Int)))
  | _ => Option.none

noncomputable def truth : D → Option Bool
  | .bool b => some b
  | .none => some false
  | .int i => some (i != 0)
  | .list ds | .tup ds => some (!ds.isEmpty)
  | _ => Option.none

noncomputable def eqS (a b : D) : Option Bool := match a with
  | .bool x => (match b with | .bool y => some (x == y) | _ => Option.none)
  | .int x => (match b with | .int y => some (x == y) | .str _ => some false | _ => Option.none)
  | .str x => (match b with | .str y => some (x == y) | .int _ => some false | _ => Option.none)
  | _ => Option.none
noncomputable def eqAll : List D → List D → Option Bool
  | [], [] => some true
  | a :: r, b :: r' => match eqS a b, eqAll r r' with
    | some x, some y => some (x && y)
    | _, _ => Option.none
  | _, _ => some false
/-- == of two data -/
noncomputable def eqD (a b : D) : Option Bool := match a with
  | .list ds => (match b with | .list es => if ds.length = es.length then eqAll ds es else some false | _ => Option.none)
  | .tup ds => (match b with | .tup es => if ds.length = es.length then eqAll ds es else if es.length = 0 then some false else Option.none | _ => Option.none)
  | a => eqS a b

noncomputable def eqX (a b : D) : Option Bool := eqD a b
noncomputable def lim : Int := 2 ^ 64
noncomputable def powLim : Int := 2 ^ 1000
noncomputable def strLim : Int := 10 ^ 100
noncomputable def binI (op : Operator) (a b : Int) : Option D := match op with
  | .Add => some (.int (a + b))
  | .Sub => some (.int (a - b))
  | .Mult => if (-lim < a ∧ a < lim) ∨ (-lim < b ∧ b < lim) then some (.int (a * b)) else Option.none
  | .FloorDiv => if 0 < b ∧ b < lim then some (.int (a / b)) else Option.none
  | .Mod => if 0 < b then some (.int (a % b)) else Option.none
  | .Pow => if -powLim < a ∧ a < powLim ∧ 0 ≤ b ∧ b ≤ 100 then some (.int (a ^ b.toNat)) else Option.none
  | _ => Option.none
noncomputable def binS (op : Operator) (a : Str) (d : D) : Option D := match op with
  | .Add => (match d with | .str b => if a.length + b.length ≤ big then some (.str (a ++ b)) else Option.none | _ => Option.none)
  | .Mult => (match d with | .int n => if 0 ≤ n ∧ n ≤ 1000 ∧ a.length ≤ 1000 then some (.str (Txt.mul a n)) else Option.none | _ => Option.none)
  | _ => Option.none
noncomputable def binL (op : Operator) (a : List D) (d : D) : Option D := match op with
  | .Add => (match d with | .list b => if a.length + b.length ≤ big then some (.list (a ++ b)) else Option.none | _ => Option.none)
  | _ => Option.none
noncomputable def binT (op : Operator) (a : List D) (d : D) : Option D := match op with
  | .Add => (match d with | .tup b => if a.length + b.length ≤ big then some (.tup (a ++ b)) else Option.none | _ => Option.none)
  | _ => Option.none
noncomputable def binD (op : Operator) (x y : D) : Option D := match x with
  | .int a => (match y with | .int b => binI op a b | _ => Option.none)
  | .str a => binS op a y
  | .list a => binL op a y
  | .tup a => binT op a y
  | _ => Option.none

noncomputable def cmpI (op : CmpOp) (a b : Int) : Option D := match op with
  | .Lt => some (.bool (decide (a < b)))
  | .LtE => some (.bool (decide (a ≤ b)))
  | .Gt => some (.bool (decide (a > b)))
  | .GtE => some (.bool (decide (a ≥ b)))
  | _ => Option.none
noncomputable def ordD (op : CmpOp) (x y : D) : Option D := match x with
  | .int a => (match y with | .int b => cmpI op a b | _ => Option.none)
  | .str a => (match y with | .str b => (match op with | .Lt => some (.bool (decide (a.cps.toList < b.cps.toList))) | _ => Option.none) | _ => Option.none)
  | _ => Option.none
noncomputable def keyOk (k : D) (ks : List D) : Bool := (k.isCell && ks.all D.isCell) || false
/-- k in c -/
noncomputable def memD (k c : D) : Option Bool := match c with
  | .dict ks _ => if keyOk k ks then some (ks.any fun x => keyEq x k) else Option.none
  | .tup ds => if k.isCell && ds.all D.isCell then some (ds.any fun x => cellEq x k) else Option.none
  | _ => Option.none
noncomputable def cmpD (op : CmpOp) (a b : D) : Option D := match op with
  | .Eq => (eqX a b).map .bool
  | .NotEq => (eqX a b).map fun x => .bool (!x)
  | .In => (memD a b).map .bool
  | .NotIn => (memD a b).map fun x => .bool (!x)
  | op => ordD op a b

/-- the place of an index -/
noncomputable def idx (k : Int) (n : Nat) : Option Nat := if 0 ≤ k ∧ k < n then some k.toNat else if -(n : Int) ≤ k ∧ k < 0 then some (k + n).toNat else Option.none
noncomputable def charAt (x : Str) (j : Nat) : Str := ⟨#[x.cps.getD j 0]⟩
noncomputable def subD (d i : D) : Option D := match d with
  | .list ds => (match i with | .int k => (idx k ds.length).bind fun j => ds[j]? | _ => Option.none)
  | .tup ds => (match i with | .int k => (idx k ds.length).bind fun j => ds[j]? | _ => Option.none)
  | .str x => (match i with | .int k => if 0 ≤ k ∧ k < x.length ∧ x.length ≤ big then some (.str (charAt x k.toNat)) else Option.none | _ => Option.none)
  | .dict ks vs => if keyOk i ks then dget ks vs i else Option.none
  | _ => Option.none

noncomputable def bnd (lo : D) (dflt : Nat) : Option Nat := match lo with
  | .none => some dflt
  | .int i => if 0 ≤ i then some i.toNat else Option.none
  | _ => Option.none
noncomputable def bndS (lo : D) : Option (Option Int) := match lo with
  | .none => some Option.none
  | .int i => some (some i)
  | _ => Option.none
noncomputable def slD (d lo hi : D) : Option D := match d with
  | .list ds => (bnd lo 0).bind fun a => (bnd hi ds.length).map fun b => .list ((ds.take b).drop a)
  | .tup ds => (bnd lo 0).bind fun a => (bnd hi ds.length).map fun b => .tup ((ds.take b).drop a)
  | .str x => if x.length ≤ big then (bndS lo).bind fun a => (bndS hi).map fun b => .str (Txt.slice x a b) else Option.none
  | _ => Option.none

noncomputable def isiD (d : D) (T : String) : Option Bool :=
  if T = "str" ∨ T = "bool" ∨ T = "int" ∨ T = "tuple" ∨ T = "list" then (match d with
    | .str _ => some (T == "str")
    | .int _ => some (T == "int")
    | .bool _ => some (T == "int" || T == "bool")
    | .tup _ => some (T == "tuple")
    | .list _ => some (T == "list")
    | _ => Option.none) else Option.none

noncomputable def lenD (d : D) : Option D := match d with
  | .list ds => some (.int ds.length)
  | .tup ds => some (.int ds.length)
  | .str x => if x.length ≤ big then some (.int x.length) else Option.none
  | _ => Option.none
noncomputable def rngD (a n : Int) : Option D := if (-(big : Int) ≤ n ∧ n ≤ big) ∧ -(big : Int) ≤ a ∧ a ≤ big then some (.rng a n) else Option.none
noncomputable def bltI (f : String) (i : Int) : Option D :=
  if f = "range" then rngD 0 i else if f = "str" then (if -strLim < i ∧ i < strLim then some (.str (Str.ofString (toString i))) else Option.none) else Option.none
noncomputable def bltI2 (f : String) (a b : Int) : Option D :=
  if f = "range" then rngD a b else if f = "max" then some (.int (if b > a then b else a)) else if f = "min" then some (.int (if b < a then b else a)) else Option.none
/-- the built-ins, but for list -/
noncomputable def bltD (f : String) (as : List D) : Option D := match as with
  | [d] => if f = "len" then lenD d else (match d with
    | .list ds => if f = "tuple" then some (.tup ds) else Option.none
    | .int i => bltI f i
    | .bool b => if f = "int" then some (.int (if b then 1 else 0)) else Option.none
    | .str x => if f = "str" then some (.str x) else Option.none
    | _ => Option.none)
  | [a, b] => (match a with
    | .int i => (match b with | .int j => bltI2 f i j | _ => Option.none)
    | _ => Option.none)
  | _ => Option.none
/-- list of it -/
noncomputable def lstD (d : D) : Option (List D) := match d with
  | .list ds => some ds
  | .tup ds => some ds
  | .dict ks _ => if ks.all D.isCell then some ks else Option.none
  | _ => Option.none

/-! sorted(set(..)) of ints -/
noncomputable def intsD : List D → Option (List Int)
  | [] => some []
  | .int i :: r => (intsD r).map (i :: ·)
  | _ => Option.none
noncomputable def insU (x : Int) : List Int → List Int
  | [] => [x]
  | y :: l => if x < y then x :: y :: l else if x = y then y :: l else y :: insU x l
noncomputable def usort (ns : List Int) : List Int := ns.foldr insU []
noncomputable def ssetD (d : D) : Option D := match d with
  | .list ds => if ds.length < 63 then (intsD ds).map fun ns => .list ((usort ns).map .int) else Option.none
  | _ => Option.none
/-! the evaluator -/
noncomputable def compM (f : D → Option (Option D)) : List D → Option (List D)
  | [] => some []
  | it :: r => match f it with
    | Option.none => Option.none
    | some o => match compM f r with
      | Option.none => Option.none
      | some ds => some (match o with | Option.none => ds | some d => d :: ds)

structure CF where
  call : String → List D → Option (D × Bool)
  glob : String → Option D

mutual
noncomputable def evE (cf : CF) (ρ : List (String × D)) (me : ME) : Option D := match me with
  | .var x => ρ.lookup x
  | .glob x => cf.glob x
  | .int i => some (.int i)
  | .str s => some (.str (Str.ofString s))
  | .bool b => some (.bool b)
  | .none => some .none
  | .bin op a b => match evE cf ρ a with
    | some x => (match evE cf ρ b with | some y => binD op x y | Option.none => Option.none)
    | Option.none => Option.none
  | .cmp op a b => match evE cf ρ a with
    | some x => (match evE cf ρ b with | some y => cmpD op x y | Option.none => Option.none)
    | Option.none => Option.none
  | .bop op es => evBop cf ρ op es
  | .not a => match evE cf ρ a with
    | some x => (truth x).map fun t => .bool (!t)
    | Option.none => Option.none
  | .neg a => match evE cf ρ a with
    | some (.int i) => some (.int (-i))
    | _ => Option.none
  | .tup es => match evEs cf ρ es with
    | some ds => if ds.length ≤ big then some (.tup ds) else Option.none
    | Option.none => Option.none
  | .lst es => match evEs cf ρ es with
    | some ds => if ds.length ≤ big then some (.list ds) else Option.none
    | Option.none => Option.none
  | .dct ks vs => match evEs cf ρ ks with
    | some ds => (match evEs cf ρ vs with
      | some es => if ds.isEmpty && es.isEmpty then some (.dict [] []) else Option.none
      | Option.none => Option.none)
    | Option.none => Option.none
  | .sub a i => match evE cf ρ a with
    | some x => (match evE cf ρ i with | some y => subD x y | Option.none => Option.none)
    | Option.none => Option.none
  | .sl a lo hi => match evE cf ρ a with
    | some x => (match evE cf ρ lo with
      | some y => (match evE cf ρ hi with | some z => slD x y z | Option.none => Option.none)
      | Option.none => Option.none)
    | Option.none => Option.none
  | .comp elt x src cs => match evE cf ρ src with
    | some d => (match d.items with
      | some its => if its.length ≤ big then (compM (fun it => match evCs cf ((x, it) :: ρ) cs with
          | some true => (match evE cf ((x, it) :: ρ) elt with | some y => some (some y) | Option.none => Option.none)
          | some false => some Option.none
          | Option.none => Option.none) its).map .list else Option.none
      | Option.none => Option.none)
    | Option.none => Option.none
  | .call f args => match evEs cf ρ args with
    | some ds => (cf.call f ds).map (·.1)
    | Option.none => Option.none
  | .isi a T => match evE cf ρ a with
    | some x => (isiD x T).map .bool
    | Option.none => Option.none
  | .blt f args => match evEs cf ρ args with
    | some ds => bltD f ds
    | Option.none => Option.none
  | .lcp a => match evE cf ρ a with
    | some x => (lstD x).map .list
    | Option.none => Option.none
  | .sset a => match evE cf ρ a with
    | some x => ssetD x
    | Option.none => Option.none
  | .cc o1 o2 a b c => match evE cf ρ a with
    | some x => (match evE cf ρ b with
      | some y => (match cmpD o1 x y with
        | some (.bool t) => if t then (match evE cf ρ c with | some z => cmpD o2 y z | Option.none => Option.none) else some (.bool false)
        | _ => Option.none)
      | Option.none => Option.none)
    | Option.none => Option.none
termination_by structural me
noncomputable def evEs (cf : CF) (ρ : List (String × D)) (ms : List ME) : Option (List D) := match ms with
  | [] => some []
  | e :: r => match evE cf ρ e with
    | some d => (match evEs cf ρ r with | some ds => some (d :: ds) | Option.none => Option.none)
    | Option.none => Option.none
termination_by structural ms
noncomputable def evBop (cf : CF) (ρ : List (String × D)) (op : BoolOp) (ms : List ME) : Option D := match ms with
  | [] => Option.none
  | [e] => evE cf ρ e
  | e :: r => match evE cf ρ e with
    | some d => (match truth d with
      | some t => if t = (match op with | .And => false | .Or => true) then some d else evBop cf ρ op r
      | Option.none => Option.none)
    | Option.none => Option.none
termination_by structural ms
noncomputable def evCs (cf : CF) (ρ : List (String × D)) (ms : List ME) : Option Bool := match ms with
  | [] => some true
  | e :: r => match evE cf ρ e with
    | some d => (match truth d with
      | some t => if t then evCs cf ρ r else some false
      | Option.none => Option.none)
    | Option.none => Option.none
termination_by structural ms
end

/-! the variables that an expression reads -/
mutual
noncomputable def ME.names : ME → List String
  | .var x => [x]
  | .bin _ a b | .cmp _ a b | .sub a b => a.names ++ b.names
  | .bop _ es | .tup es | .lst es | .call _ es | .blt _ es => namesL es
  | .not a | .neg a | .isi a _ | .lcp a => a.names
  | .sset a => a.names
  | .cc _ _ a b c => a.names ++ b.names ++ c.names
  | .dct ks vs => namesL ks ++ namesL vs
  | .sl a lo hi => a.names ++ lo.names ++ hi.names
  | .comp elt x src cs => src.names ++ (elt.names ++ namesL cs).filter (· != x)
  | .glob _ | .int _ | .str _ | .bool _ | .none => []
noncomputable def namesL : List ME → List String
  | [] => []
  | e :: r => e.names ++ namesL r
end

/-! statements -/
noncomputable abbrev St := List (String × (Bool × D))
noncomputable def vis (σ : St) : List (String × D) := σ.map fun p => (p.1, p.2.2)
noncomputable def setv (σ : St) (x : String) (v : Bool × D) : St := match σ with
  | [] => [(x, v)]
  | (y, w) :: r => if y = x then (y, v) :: r else (y, w) :: setv r x v
noncomputable def freeze (ns : List String) (σ : St) : St := σ.map fun p => (p.1, (p.2.1 && !ns.contains p.1, p.2.2))
noncomputable def settle (d : D) (ns : List String) (σ : St) : St := if d.scalar then σ else freeze ns σ

inductive Fl where
  | next
  | ret (fr : Bool) (d : D)

/-- an expression's value, and whether it is a new list that nothing else holds -/
noncomputable def frF (me : ME) (d : D) : Bool := match me with
  | .lst _ | .comp _ _ _ _ | .dct _ _ | .lcp _ => true
  | .sset _ => true
  | .cc _ _ _ _ _ => false
  | .sl _ _ _ | .bin _ _ _ => d.isList
  | .var _ | .glob _ | .int _ | .str _ | .bool _ | .none | .cmp _ _ _ | .bop _ _ | .not _ | .neg _ | .tup _ | .sub _ _ | .call _ _ | .isi _ _ | .blt _ _ => false
noncomputable def isCallE (me : ME) : Option (String × List ME) := match me with
  | .call f args => some (f, args)
  | _ => Option.none
noncomputable def evF (cf : CF) (ρ : List (String × D)) (me : ME) : Option (D × Bool) := match isCallE me with
  | some (f, args) => (match evEs cf ρ args with
    | some ds => cf.call f ds
    | Option.none => Option.none)
  | Option.none => (evE cf ρ me).map fun d => (d, frF me d)

section
variable (cf : CF) (ρ : List (String × D))
theorem evF_call (f : String) (args : List ME) : evF cf ρ (.call f args) = (match evEs cf ρ args with | some ds => cf.call f ds | Option.none => Option.none) := rfl
theorem evF_lst (es : List ME) : evF cf ρ (.lst es) = (evE cf ρ (.lst es)).map fun d => (d, true) := rfl
theorem evF_dct (ks vs : List ME) : evF cf ρ (.dct ks vs) = (evE cf ρ (.dct ks vs)).map fun d => (d, true) := rfl
theorem evF_sset (a : ME) : evF cf ρ (.sset a) = (evE cf ρ (.sset a)).map fun d => (d, true) := rfl
theorem evF_lcp (a : ME) : evF cf ρ (.lcp a) = (evE cf ρ (.lcp a)).map fun d => (d, true) := rfl
theorem evF_comp (elt : ME) (x : String) (src : ME) (cs : List ME) : evF cf ρ (.comp elt x src cs) = (evE cf ρ (.comp elt x src cs)).map fun d => (d, true) := rfl
theorem evF_sl (a l h : ME) : evF cf ρ (.sl a l h) = (evE cf ρ (.sl a l h)).map fun d => (d, d.isList) := rfl
theorem evF_bin (op : Operator) (a b : ME) : evF cf ρ (.bin op a b) = (evE cf ρ (.bin op a b)).map fun d => (d, d.isList) := rfl
end
noncomputable def forD (f : D → St → Option (Fl × St)) : List D → St → Option (Fl × St)
  | [], σ => some (.next, σ)
  | it :: r, σ => match f it σ with
    | some (.next, σ') => forD f r σ'
    | x => x
noncomputable def whileD (c : St → Option Bool) (f : St → Option (Fl × St)) : Nat → St → Option (Fl × St)
  | 0, _ => Option.none
  | n + 1, σ => match c σ with
    | some true => (match f σ with
      | some (.next, σ') => whileD c f n σ'
      | x => x)
    | some false => some (.next, σ)
    | Option.none => Option.none
noncomputable def wlim : Nat := 1000
noncomputable def condF (cf : CF) (c : ME) (σ : St) : Option Bool := match evE cf (vis σ) c with
  | some d => truth d
  | Option.none => Option.none
mutual
noncomputable def exS (cf : CF) (st : MS) (σ : St) : Option (Fl × St) := match st, σ with
  | .assign x e, σ => match evF cf (vis σ) e with
    | some (d, fr) => some (.next, setv (settle d e.names σ) x (fr, d))
    | Option.none => Option.none
  | .append x e, σ => match evE cf (vis σ) e with
    | some d => (match (settle d e.names σ).lookup x with
      | some (true, .list ds) => if ds.length < big then some (.next, setv (settle d e.names σ) x (true, .list (ds ++ [d]))) else Option.none
      | _ => Option.none)
    | Option.none => Option.none
  | .setk x k e, σ => match evE cf (vis σ) e with
    | some d => (match evE cf (vis σ) k with
      | some dk => (match (settle dk k.names (settle d e.names σ)).lookup x with
        | some (true, .dict ks vs) => if keyOk dk ks && decide (ks.length < big) then some (.next, setv (settle dk k.names (settle d e.names σ)) x (true, .dict (dput ks vs dk d).1 (dput ks vs dk d).2)) else Option.none
        | _ => Option.none)
      | Option.none => Option.none)
    | Option.none => Option.none
  | .ite c t f, σ => match evE cf (vis σ) c with
    | some d => (match truth d with
      | some true => exSs cf t σ
      | some false => exSs cf f σ
      | Option.none => Option.none)
    | Option.none => Option.none
  | .for_ x src body, σ => match evE cf (vis σ) src with
    | some d => (match d.items with
      | some its => forD (fun it σ => exSs cf body (setv σ x (false, it))) its (freeze src.names σ)
      | Option.none => Option.none)
    | Option.none => Option.none
  | .ret e, σ => match e with
    | .var x => (match σ.lookup x with | some (fr, d) => some (.ret fr d, σ) | Option.none => Option.none)
    | e => (match evF cf (vis σ) e with
      | some (d, fr) => some (.ret fr d, σ)
      | Option.none => Option.none)
  | .bad, _ => Option.none
  | .expr e, σ => match evE cf (vis σ) e with
    | some d => if d.scalar then some (.next, σ) else Option.none
    | Option.none => Option.none
  | .while_ c body, σ => whileD (condF cf c) (fun σ => exSs cf body σ) wlim σ
termination_by structural st
noncomputable def exSs (cf : CF) (ss : List MS) (σ : St) : Option (Fl × St) := match ss, σ with
  | [], σ => some (.next, σ)
  | st :: r, σ => match exS cf st σ with
    | some (.next, σ') => exSs cf r σ'
    | x => x
termination_by structural ss
end

structure Fn where
  params : List String
  body : List MS

/-- calls: n is how deep they may nest; X: functions that are shown by hand, and global constants -/
noncomputable def callN (P : List (String × Fn)) (X : CF) : Nat → CF
  | 0 => ⟨fun _ _ => Option.none, X.glob⟩
  | n + 1 => ⟨fun f args => match P.lookup f with
    | Option.none => X.call f args
    | some fn => if args.length = fn.params.length then
        (match exSs (callN P X n) fn.body ((fn.params.zip args).map fun p => (p.1, (false, p.2))) with
        | some (.ret fr d, _) => some (d, fr)
        | some (.next, _) => some (.none, false)
        | _ => Option.none)
      else Option.none, X.glob⟩
set_option autoImplicit true in
theorem ev_var (cf : CF) (ρ : List (String × D)) : evE cf ρ (ME.var x) = (ρ.lookup x) := rfl
set_option autoImplicit true in
theorem ev_glob (cf : CF) (ρ : List (String × D)) : evE cf ρ (ME.glob x) = (cf.glob x) := rfl
set_option autoImplicit true in
theorem ev_bin (cf : CF) (ρ : List (String × D)) : evE cf ρ (ME.bin op a b) = (match evE cf ρ a with
      | some x => (match evE cf ρ b with | some y => binD op x y | Option.none => Option.none)
      | Option.none => Option.none) := rfl
set_option autoImplicit true in
theorem ev_cmp (cf : CF) (ρ : List (String × D)) : evE cf ρ (ME.cmp op a b) = (match evE cf ρ a with
      | some x => (match evE cf ρ b with | some y => cmpD op x y | Option.none => Option.none)
      | Option.none => Option.none) := rfl
set_option autoImplicit true in
theorem ev_bop (cf : CF) (ρ : List (String × D)) : evE cf ρ (ME.bop op es) = (evBop cf ρ op es) := rfl
set_option autoImplicit true in
theorem ev_not (cf : CF) (ρ : List (String × D)) : evE cf ρ (ME.not a) = (match evE cf ρ a with
      | some x => (truth x).map fun t => .bool (!t)
      | Option.none => Option.none) := rfl
set_option autoImplicit true in
theorem ev_neg (cf : CF) (ρ : List (String × D)) : evE cf ρ (ME.neg a) = (match evE cf ρ a with
      | some (.int i) => some (.int (-i))
      | _ => Option.none) := rfl
set_option autoImplicit true in
theorem ev_tup (cf : CF) (ρ : List (String × D)) : evE cf ρ (ME.tup es) = (match evEs cf ρ es with
      | some ds => if ds.length ≤ big then some (.tup ds) else Option.none
      | Option.none => Option.none) := rfl
set_option autoImplicit true in
theorem ev_lst (cf : CF) (ρ : List (String × D)) : evE cf ρ (ME.lst es) = (match evEs cf ρ es with
      | some ds => if ds.length ≤ big then some (.list ds) else Option.none
      | Option.none => Option.none) := rfl
set_option autoImplicit true in
theorem ev_dct (cf : CF) (ρ : List (String × D)) : evE cf ρ (ME.dct ks vs) = (match evEs cf ρ ks with
      | some ds => (match evEs cf ρ vs with
        | some es => if ds.isEmpty && es.isEmpty then some (.dict [] []) else Option.none
        | Option.none => Option.none)
      | Option.none => Option.none) := rfl
set_option autoImplicit true in
theorem ev_sub (cf : CF) (ρ : List (String × D)) : evE cf ρ (ME.sub a i) = (match evE cf ρ a with
      | some x => (match evE cf ρ i with | some y => subD x y | Option.none => Option.none)
      | Option.none => Option.none) := rfl
set_option autoImplicit true in
theorem ev_sl (cf : CF) (ρ : List (String × D)) : evE cf ρ (ME.sl a lo hi) = (match evE cf ρ a with
      | some x => (match evE cf ρ lo with
        | some y => (match evE cf ρ hi with | some z => slD x y z | Option.none => Option.none)
        | Option.none => Option.none)
      | Option.none => Option.none) := rfl
set_option autoImplicit true in
theorem ev_comp (cf : CF) (ρ : List (String × D)) : evE cf ρ (ME.comp elt x src cs) = (match evE cf ρ src with
      | some d => (match d.items with
        | some its => if its.length ≤ big then (compM (fun it => match evCs cf ((x, it) :: ρ) cs with
            | some true => (match evE cf ((x, it) :: ρ) elt with | some y => some (some y) | Option.none => Option.none)
            | some false => some Option.none
            | Option.none => Option.none) its).map .list else Option.none
        | Option.none => Option.none)
      | Option.none => Option.none) := rfl
set_option autoImplicit true in
theorem ev_call (cf : CF) (ρ : List (String × D)) : evE cf ρ (ME.call f args) = (match evEs cf ρ args with
      | some ds => (cf.call f ds).map (·.1)
      | Option.none => Option.none) := rfl
set_option autoImplicit true in
theorem ev_isi (cf : CF) (ρ : List (String × D)) : evE cf ρ (ME.isi a T) = (match evE cf ρ a with
      | some x => (isiD x T).map .bool
      | Option.none => Option.none) := rfl
set_option autoImplicit true in
theorem ev_blt (cf : CF) (ρ : List (String × D)) : evE cf ρ (ME.blt f args) = (match evEs cf ρ args with
      | some ds => bltD f ds
      | Option.none => Option.none) := rfl
set_option autoImplicit true in
theorem ev_lcp (cf : CF) (ρ : List (String × D)) : evE cf ρ (ME.lcp a) = (match evE cf ρ a with
      | some x => (lstD x).map .list
      | Option.none => Option.none) := rfl
set_option autoImplicit true in
theorem evs_nil (cf : CF) (ρ : List (String × D)) : evEs cf ρ ([]) = (some []) := rfl
set_option autoImplicit true in
theorem evs_cons (cf : CF) (ρ : List (String × D)) : evEs cf ρ (e :: r) = (match evE cf ρ e with
      | some d => (match evEs cf ρ r with | some ds => some (d :: ds) | Option.none => Option.none)
      | Option.none => Option.none) := rfl
set_option autoImplicit true in
theorem evc_nil (cf : CF) (ρ : List (String × D)) : evCs cf ρ ([]) = (some true) := rfl
set_option autoImplicit true in
theorem evc_cons (cf : CF) (ρ : List (String × D)) : evCs cf ρ (e :: r) = (match evE cf ρ e with
      | some d => (match truth d with
        | some t => if t then evCs cf ρ r else some false
        | Option.none => Option.none)
      | Option.none => Option.none) := rfl
set_option autoImplicit true in
theorem xs_assign (cf : CF) (σ : St) : exS cf (MS.assign x e) σ = (match evF cf (vis σ) e with
      | some (d, fr) => some (.next, setv (settle d e.names σ) x (fr, d))
      | Option.none => Option.none) := rfl
set_option autoImplicit true in
theorem xs_append (cf : CF) (σ : St) : exS cf (MS.append x e) σ = (match evE cf (vis σ) e with
      | some d => (match (settle d e.names σ).lookup x with
        | some (true, .list ds) => if ds.length < big then some (.next, setv (settle d e.names σ) x (true, .list (ds ++ [d]))) else Option.none
        | _ => Option.none)
      | Option.none => Option.none) := rfl
set_option autoImplicit true in
theorem xs_setk (cf : CF) (σ : St) : exS cf (MS.setk x k e) σ = (match evE cf (vis σ) e with
      | some d => (match evE cf (vis σ) k with
        | some dk => (match (settle dk k.names (settle d e.names σ)).lookup x with
          | some (true, .dict ks vs) => if keyOk dk ks && decide (ks.length < big) then some (.next, setv (settle dk k.names (settle d e.names σ)) x (true, .dict (dput ks vs dk d).1 (dput ks vs dk d).2)) else Option.none
          | _ => Option.none)
        | Option.none => Option.none)
      | Option.none => Option.none) := rfl
set_option autoImplicit true in
theorem xs_ite (cf : CF) (σ : St) : exS cf (MS.ite c t f) σ = (match evE cf (vis σ) c with
      | some d => (match truth d with
        | some true => exSs cf t σ
        | some false => exSs cf f σ
        | Option.none => Option.none)
      | Option.none => Option.none) := rfl
set_option autoImplicit true in
theorem xs_for_ (cf : CF) (σ : St) : exS cf (MS.for_ x src body) σ = (match evE cf (vis σ) src with
      | some d => (match d.items with
        | some its => forD (fun it σ => exSs cf body (setv σ x (false, it))) its (freeze src.names σ)
        | Option.none => Option.none)
      | Option.none => Option.none) := rfl
set_option autoImplicit true in
theorem xs_ret (cf : CF) (σ : St) : exS cf (MS.ret e) σ = (match e with
      | .var x => (match σ.lookup x with | some (fr, d) => some (.ret fr d, σ) | Option.none => Option.none)
      | e => (match evF cf (vis σ) e with
        | some (d, fr) => some (.ret fr d, σ)
        | Option.none => Option.none)) := rfl
set_option autoImplicit true in
theorem xs_bad (cf : CF) (σ : St) : exS cf (MS.bad) σ = (Option.none) := rfl
theorem xs_expr (cf : CF) (e : ME) (σ : St) : exS cf (MS.expr e) σ = (match evE cf (vis σ) e with
    | some d => if d.scalar then some (.next, σ) else Option.none
    | Option.none => Option.none) := rfl
theorem xs_while (cf : CF) (c : ME) (body : List MS) (σ : St) : exS cf (MS.while_ c body) σ = whileD (condF cf c) (fun σ => exSs cf body σ) wlim σ := rfl
set_option autoImplicit true in
theorem xss_nil (cf : CF) (σ : St) : exSs cf ([]) σ = (some (.next, σ)) := rfl
set_option autoImplicit true in
theorem xss_cons (cf : CF) (σ : St) : exSs cf (st :: r) σ = (match exS cf st σ with
      | some (.next, σ') => exSs cf r σ'
      | x => x) := rfl
theorem nms_nil : namesL [] = [] := rfl
theorem nms_cons (e : ME) (r : List ME) : namesL (e :: r) = e.names ++ namesL r := rfl
theorem nm_var (x : String) : (ME.var x).names = [x] := rfl
theorem ev_sset (cf : CF) (ρ : List (String × D)) (a : ME) : evE cf ρ (ME.sset a) = (match evE cf ρ a with | some x => ssetD x | Option.none => Option.none) := rfl
theorem ev_cc (cf : CF) (ρ : List (String × D)) (o1 o2 : CmpOp) (a b c : ME) : evE cf ρ (ME.cc o1 o2 a b c) = (match evE cf ρ a with
    | some x => (match evE cf ρ b with
      | some y => (match cmpD o1 x y with
        | some (.bool t) => if t then (match evE cf ρ c with | some z => cmpD o2 y z | Option.none => Option.none) else some (.bool false)
        | _ => Option.none)
      | Option.none => Option.none)
    | Option.none => Option.none) := rfl
theorem nm_lcp (a : ME) : (ME.lcp a).names = a.names := rfl
theorem lookup_vis (x : String) : ∀ (σ : St), (vis σ).lookup x = (σ.lookup x).map (·.2)
  | [] => rfl
  | (y, v) :: r => by
    have ih := lookup_vis x r
    unfold vis at ih ⊢
    rw [List.map_cons, List.lookup_cons, List.lookup_cons]
    by_cases h : x = y
    · subst h; simp
    · have : (x == y) = false := by simpa using h
      simp only [this]
      exact ih
theorem lookup_setv (x y : String) (v : Bool × D) : ∀ (σ : St), (setv σ x v).lookup y = if y = x then some v else σ.lookup y
  | [] => by
    unfold setv
    rw [List.lookup_cons]
    by_cases h : y = x
    · simp [h]
    · have : (y == x) = false := by simpa using h
      simp [h, this]
  | (z, u) :: r => by
    unfold setv
    split
    · rename_i h; subst h
      rw [List.lookup_cons, List.lookup_cons]
      by_cases h : y = z
      · simp [h]
      · have : (y == z) = false := by simpa using h
        simp [h, this]
    · rename_i hz
      rw [List.lookup_cons, List.lookup_cons, lookup_setv x y v r]
      by_cases h : y = x
      · subst h
        have : (y == z) = false := by simpa using Ne.symm hz
        simp [this]
      · simp [h]
theorem lookup_freeze (ns : List String) (x : String) : ∀ (σ : St), (freeze ns σ).lookup x = (σ.lookup x).map fun p => (p.1 && !ns.contains x, p.2)
  | [] => rfl
  | (y, v) :: r => by
    have ih := lookup_freeze ns x r
    unfold freeze at ih ⊢
    rw [List.map_cons, List.lookup_cons, List.lookup_cons]
    by_cases h : x = y
    · subst h; simp
    · have : (x == y) = false := by simpa using h
      simp only [this]
      exact ih

end Mine
namespace Mine
open PySem

noncomputable abbrev KD := Str → Option NameKind
noncomputable def isVar (k : KD) (x : Str) : Bool := (k x == some .local || k x == some .cell || k x == some .free) && x != Str.ofString "__debug__" && x != Str.ofString "__classdict__" && x != Str.ofString ".0"
noncomputable def isGlob (k : KD) (x : Str) : Bool := k x == some .globalImplicit && x != Str.ofString "__debug__"
noncomputable def kindC (k : KD) (scope : Scope) : KD := fun x => (scope.names.map fun p => if p.2 == .free && k p.1 == some .cell then (p.1, NameKind.cell) else p).lookup x
noncomputable def notSet : Expr → Bool
  | .Set .. => false
  | _ => true
/-- the marks of the frame of the def that makes lambdas -/
noncomputable def ordK (k : KD) : Bool := k (Str.ofString "keys") == some .local && k (Str.ofString "sorted") == some .globalImplicit && k (Str.ofString "place") == some .cell
noncomputable def okScope (k : KD) (scope : Scope) (x : Str) : Bool :=
  scope.kind == .function && decide (scope.names.map (·.1)).Nodup && (scope.names.lookup x == some .local || scope.names.lookup x == some .cell) &&
  scope.names.all (fun p => p.2 != .free || k p.1 == some .cell || k p.1 == some .free) && scope.names.all (fun p => p.2 == .free || p.2 == .globalImplicit || p.1 == x || p.1 == Str.ofString ".0") && !ordK (kindC k scope)

noncomputable def ME.isNone : ME → Bool
  | .none => true
  | _ => false

noncomputable def notSlice : Expr → Bool
  | .Slice .. => false
  | _ => true
theorem dite_inv {c : Prop} [Decidable c] {f : c → Bool} (h : dite c f (fun _ => false) = true) : ∃ hc, f hc = true := by
  by_cases hc : c
  · rw [dif_pos hc] at h; exact ⟨hc, h⟩
  · rw [dif_neg hc] at h; cases h
noncomputable def c1 {α : Type} (l : List α) (f : α → Bool) : Bool := match l with | [x] => f x | _ => false
theorem c1_inv {α : Type} {l : List α} {f : α → Bool} {C : Prop} (h : c1 l f = true) (k : ∀ x, l = [x] → f x = true → C) : C := by
  match l, h with
  | [x], h => exact k x rfl h
noncomputable def c2 {α : Type} (l : List α) (f : α → α → Bool) : Bool := match l with | [x, y] => f x y | _ => false
theorem c2_inv {α : Type} {l : List α} {f : α → α → Bool} {C : Prop} (h : c2 l f = true) (k : ∀ x y, l = [x, y] → f x y = true → C) : C := by
  match l, h with
  | [x, y], h => exact k x y rfl h
noncomputable def cOpt {α : Type} (l : Option α) (f : α → Bool) : Bool := match l with | some x => f x | none => false
theorem cOpt_inv {α : Type} {l : Option α} {f : α → Bool} {C : Prop} (h : cOpt l f = true) (k : ∀ x, l = some x → f x = true → C) : C := by
  cases l with
  | none => cases h
  | some x => exact k x rfl h
theorem and2 {a b : Bool} {C : Prop} (h : (a && b) = true) (k : a = true → b = true → C) : C := k (Bool.and_eq_true_iff.mp h).1 (Bool.and_eq_true_iff.mp h).2
theorem isGlob_of {k : KD} {x : Str} (h : isGlob k x = true) : k x = some .globalImplicit ∧ x ≠ Str.ofString "__debug__" := and2 h fun h1 h2 => ⟨eq_of_beq h1, by simpa using h2⟩
noncomputable def cName (e : Expr) (f : Str → Pos → Bool) : Bool := dite (e.ctorIdx = 23) (fun h => Expr.Name.elim (motive_1 := fun _ => Bool) e h f) (fun _ => false)
theorem cName_inv {e : Expr} {f : Str → Pos → Bool} {C : Prop} (h : cName e f = true) (k : ∀ (y : Str) (p : Pos), e = .Name y p → f y p = true → C) : C :=
  (dite_inv h).elim fun hc h => Expr.Name.elim (motive_1 := fun e => ∀ hc, Expr.Name.elim (motive_1 := fun _ => Bool) e hc f = true → (∀ (y : Str) (p : Pos), e = .Name y p → f y p = true → C) → C) e hc (fun v0 v1 _ h k => k v0 v1 rfl h) hc h k
noncomputable def cConst (e : Expr) (f : Const → Nat → Pos → Bool) : Bool := dite (e.ctorIdx = 19) (fun h => Expr.Constant.elim (motive_1 := fun _ => Bool) e h f) (fun _ => false)
theorem cConst_inv {e : Expr} {f : Const → Nat → Pos → Bool} {C : Prop} (h : cConst e f = true) (k : ∀ (c : Const) (n : Nat) (p : Pos), e = .Constant c n p → f c n p = true → C) : C :=
  (dite_inv h).elim fun hc h => Expr.Constant.elim (motive_1 := fun e => ∀ hc, Expr.Constant.elim (motive_1 := fun _ => Bool) e hc f = true → (∀ (c : Const) (n : Nat) (p : Pos), e = .Constant c n p → f c n p = true → C) → C) e hc (fun v0 v1 v2 _ h k => k v0 v1 v2 rfl h) hc h k
noncomputable def cBin (e : Expr) (f : Expr → Operator → Expr → Pos → Bool) : Bool := dite (e.ctorIdx = 2) (fun h => Expr.BinOp.elim (motive_1 := fun _ => Bool) e h f) (fun _ => false)
theorem cBin_inv {e : Expr} {f : Expr → Operator → Expr → Pos → Bool} {C : Prop} (h : cBin e f = true) (k : ∀ (l : Expr) (o : Operator) (r : Expr) (p : Pos), e = .BinOp l o r p → f l o r p = true → C) : C :=
  (dite_inv h).elim fun hc h => Expr.BinOp.elim (motive_1 := fun e => ∀ hc, Expr.BinOp.elim (motive_1 := fun _ => Bool) e hc f = true → (∀ (l : Expr) (o : Operator) (r : Expr) (p : Pos), e = .BinOp l o r p → f l o r p = true → C) → C) e hc (fun v0 v1 v2 v3 _ h k => k v0 v1 v2 v3 rfl h) hc h k
noncomputable def cBool (e : Expr) (f : BoolOp → List Expr → Pos → Bool) : Bool := dite (e.ctorIdx = 0) (fun h => Expr.BoolOp.elim (motive_1 := fun _ => Bool) e h f) (fun _ => false)
theorem cBool_inv {e : Expr} {f : BoolOp → List Expr → Pos → Bool} {C : Prop} (h : cBool e f = true) (k : ∀ (o : BoolOp) (vs : List Expr) (p : Pos), e = .BoolOp o vs p → f o vs p = true → C) : C :=
  (dite_inv h).elim fun hc h => Expr.BoolOp.elim (motive_1 := fun e => ∀ hc, Expr.BoolOp.elim (motive_1 := fun _ => Bool) e hc f = true → (∀ (o : BoolOp) (vs : List Expr) (p : Pos), e = .BoolOp o vs p → f o vs p = true → C) → C) e hc (fun v0 v1 v2 _ h k => k v0 v1 v2 rfl h) hc h k
noncomputable def cUn (e : Expr) (f : UnaryOp → Expr → Pos → Bool) : Bool := dite (e.ctorIdx = 3) (fun h => Expr.UnaryOp.elim (motive_1 := fun _ => Bool) e h f) (fun _ => false)
theorem cUn_inv {e : Expr} {f : UnaryOp → Expr → Pos → Bool} {C : Prop} (h : cUn e f = true) (k : ∀ (o : UnaryOp) (x : Expr) (p : Pos), e = .UnaryOp o x p → f o x p = true → C) : C :=
  (dite_inv h).elim fun hc h => Expr.UnaryOp.elim (motive_1 := fun e => ∀ hc, Expr.UnaryOp.elim (motive_1 := fun _ => Bool) e hc f = true → (∀ (o : UnaryOp) (x : Expr) (p : Pos), e = .UnaryOp o x p → f o x p = true → C) → C) e hc (fun v0 v1 v2 _ h k => k v0 v1 v2 rfl h) hc h k
noncomputable def cTup (e : Expr) (f : List Expr → Nat → Pos → Bool) : Bool := dite (e.ctorIdx = 25) (fun h => Expr.Tuple.elim (motive_1 := fun _ => Bool) e h f) (fun _ => false)
theorem cTup_inv {e : Expr} {f : List Expr → Nat → Pos → Bool} {C : Prop} (h : cTup e f = true) (k : ∀ (vs : List Expr) (n : Nat) (p : Pos), e = .Tuple vs n p → f vs n p = true → C) : C :=
  (dite_inv h).elim fun hc h => Expr.Tuple.elim (motive_1 := fun e => ∀ hc, Expr.Tuple.elim (motive_1 := fun _ => Bool) e hc f = true → (∀ (vs : List Expr) (n : Nat) (p : Pos), e = .Tuple vs n p → f vs n p = true → C) → C) e hc (fun v0 v1 v2 _ h k => k v0 v1 v2 rfl h) hc h k
noncomputable def cLst (e : Expr) (f : List Expr → Pos → Bool) : Bool := dite (e.ctorIdx = 24) (fun h => Expr.List.elim (motive_1 := fun _ => Bool) e h f) (fun _ => false)
theorem cLst_inv {e : Expr} {f : List Expr → Pos → Bool} {C : Prop} (h : cLst e f = true) (k : ∀ (vs : List Expr) (p : Pos), e = .List vs p → f vs p = true → C) : C :=
  (dite_inv h).elim fun hc h => Expr.List.elim (motive_1 := fun e => ∀ hc, Expr.List.elim (motive_1 := fun _ => Bool) e hc f = true → (∀ (vs : List Expr) (p : Pos), e = .List vs p → f vs p = true → C) → C) e hc (fun v0 v1 _ h k => k v0 v1 rfl h) hc h k
noncomputable def cSub (e : Expr) (f : Expr → Expr → Pos → Bool) : Bool := dite (e.ctorIdx = 21) (fun h => Expr.Subscript.elim (motive_1 := fun _ => Bool) e h f) (fun _ => false)
theorem cSub_inv {e : Expr} {f : Expr → Expr → Pos → Bool} {C : Prop} (h : cSub e f = true) (k : ∀ (v : Expr) (s : Expr) (p : Pos), e = .Subscript v s p → f v s p = true → C) : C :=
  (dite_inv h).elim fun hc h => Expr.Subscript.elim (motive_1 := fun e => ∀ hc, Expr.Subscript.elim (motive_1 := fun _ => Bool) e hc f = true → (∀ (v : Expr) (s : Expr) (p : Pos), e = .Subscript v s p → f v s p = true → C) → C) e hc (fun v0 v1 v2 _ h k => k v0 v1 v2 rfl h) hc h k
noncomputable def cSlice (e : Expr) (f : Option Expr → Option Expr → Option Expr → Pos → Bool) : Bool := dite (e.ctorIdx = 26) (fun h => Expr.Slice.elim (motive_1 := fun _ => Bool) e h f) (fun _ => false)
theorem cSlice_inv {e : Expr} {f : Option Expr → Option Expr → Option Expr → Pos → Bool} {C : Prop} (h : cSlice e f = true) (k : ∀ (l : Option Expr) (u : Option Expr) (t : Option Expr) (p : Pos), e = .Slice l u t p → f l u t p = true → C) : C :=
  (dite_inv h).elim fun hc h => Expr.Slice.elim (motive_1 := fun e => ∀ hc, Expr.Slice.elim (motive_1 := fun _ => Bool) e hc f = true → (∀ (l : Option Expr) (u : Option Expr) (t : Option Expr) (p : Pos), e = .Slice l u t p → f l u t p = true → C) → C) e hc (fun v0 v1 v2 v3 _ h k => k v0 v1 v2 v3 rfl h) hc h k
noncomputable def cCmp (e : Expr) (f : Expr → List CmpOp → List Expr → Pos → Bool) : Bool := dite (e.ctorIdx = 15) (fun h => Expr.Compare.elim (motive_1 := fun _ => Bool) e h f) (fun _ => false)
theorem cCmp_inv {e : Expr} {f : Expr → List CmpOp → List Expr → Pos → Bool} {C : Prop} (h : cCmp e f = true) (k : ∀ (l : Expr) (os : List CmpOp) (rs : List Expr) (p : Pos), e = .Compare l os rs p → f l os rs p = true → C) : C :=
  (dite_inv h).elim fun hc h => Expr.Compare.elim (motive_1 := fun e => ∀ hc, Expr.Compare.elim (motive_1 := fun _ => Bool) e hc f = true → (∀ (l : Expr) (os : List CmpOp) (rs : List Expr) (p : Pos), e = .Compare l os rs p → f l os rs p = true → C) → C) e hc (fun v0 v1 v2 v3 _ h k => k v0 v1 v2 v3 rfl h) hc h k
noncomputable def cCall (e : Expr) (f : Expr → List Expr → List Keyword → Pos → Bool) : Bool := dite (e.ctorIdx = 16) (fun h => Expr.Call.elim (motive_1 := fun _ => Bool) e h f) (fun _ => false)
theorem cCall_inv {e : Expr} {f : Expr → List Expr → List Keyword → Pos → Bool} {C : Prop} (h : cCall e f = true) (k : ∀ (g : Expr) (as : List Expr) (ks : List Keyword) (p : Pos), e = .Call g as ks p → f g as ks p = true → C) : C :=
  (dite_inv h).elim fun hc h => Expr.Call.elim (motive_1 := fun e => ∀ hc, Expr.Call.elim (motive_1 := fun _ => Bool) e hc f = true → (∀ (g : Expr) (as : List Expr) (ks : List Keyword) (p : Pos), e = .Call g as ks p → f g as ks p = true → C) → C) e hc (fun v0 v1 v2 v3 _ h k => k v0 v1 v2 v3 rfl h) hc h k
noncomputable def cLC (e : Expr) (f : Expr → List Comprehension → Scope → Pos → Bool) : Bool := dite (e.ctorIdx = 8) (fun h => Expr.ListComp.elim (motive_1 := fun _ => Bool) e h f) (fun _ => false)
theorem cLC_inv {e : Expr} {f : Expr → List Comprehension → Scope → Pos → Bool} {C : Prop} (h : cLC e f = true) (k : ∀ (t : Expr) (gs : List Comprehension) (sc : Scope) (p : Pos), e = .ListComp t gs sc p → f t gs sc p = true → C) : C :=
  (dite_inv h).elim fun hc h => Expr.ListComp.elim (motive_1 := fun e => ∀ hc, Expr.ListComp.elim (motive_1 := fun _ => Bool) e hc f = true → (∀ (t : Expr) (gs : List Comprehension) (sc : Scope) (p : Pos), e = .ListComp t gs sc p → f t gs sc p = true → C) → C) e hc (fun v0 v1 v2 v3 _ h k => k v0 v1 v2 v3 rfl h) hc h k
noncomputable def cDict (e : Expr) (f : List (Option Expr) → List Expr → Pos → Bool) : Bool := dite (e.ctorIdx = 6) (fun h => Expr.Dict.elim (motive_1 := fun _ => Bool) e h f) (fun _ => false)
theorem cDict_inv {e : Expr} {f : List (Option Expr) → List Expr → Pos → Bool} {C : Prop} (h : cDict e f = true) (k : ∀ (ks : List (Option Expr)) (vs : List Expr) (p : Pos), e = .Dict ks vs p → f ks vs p = true → C) : C :=
  (dite_inv h).elim fun hc h => Expr.Dict.elim (motive_1 := fun e => ∀ hc, Expr.Dict.elim (motive_1 := fun _ => Bool) e hc f = true → (∀ (ks : List (Option Expr)) (vs : List Expr) (p : Pos), e = .Dict ks vs p → f ks vs p = true → C) → C) e hc (fun v0 v1 v2 _ h k => k v0 v1 v2 rfl h) hc h k
noncomputable def cAttr (e : Expr) (f : Expr → Str → Pos → Bool) : Bool := dite (e.ctorIdx = 20) (fun h => Expr.Attribute.elim (motive_1 := fun _ => Bool) e h f) (fun _ => false)
theorem cAttr_inv {e : Expr} {f : Expr → Str → Pos → Bool} {C : Prop} (h : cAttr e f = true) (k : ∀ (x : Expr) (a : Str) (p : Pos), e = .Attribute x a p → f x a p = true → C) : C :=
  (dite_inv h).elim fun hc h => Expr.Attribute.elim (motive_1 := fun e => ∀ hc, Expr.Attribute.elim (motive_1 := fun _ => Bool) e hc f = true → (∀ (x : Expr) (a : Str) (p : Pos), e = .Attribute x a p → f x a p = true → C) → C) e hc (fun v0 v1 v2 _ h k => k v0 v1 v2 rfl h) hc h k
mutual
noncomputable def chkE (k : KD) (e : Expr) (me : ME) : Bool := match me with
  | .var x => cName e fun y _ => y == Str.ofString x && isVar k y
  | .glob x => cName e fun y _ => y == Str.ofString x && isGlob k y
  | .int i => cConst e fun c _ _ => c == .int i
  | .str s => cConst e fun c _ _ => c == .str (Str.ofString s)
  | .bool b => cConst e fun c _ _ => c == .bool b
  | .none => cConst e fun c _ _ => c == .none
  | .bin op a b => cBin e fun l op' r _ => op == op' && chkE k l a && chkE k r b
  | .cmp op a b => cCmp e fun l os rs _ => os == [op] && c1 rs fun r => notSet r && chkE k l a && chkE k r b
  | .bop op es => cBool e fun op' vs _ => op == op' && chkEs k vs es
  | .not a => cUn e fun o x _ => o == .Not && chkE k x a
  | .neg a => cUn e fun o x _ => o == .USub && chkE k x a
  | .tup es => cTup e fun vs _ _ => chkEs k vs es
  | .lst es => cLst e fun vs _ => chkEs k vs es
  | .dct ks vs => cDict e fun kes ves _ => kes.all Option.isSome && chkEs k (kes.filterMap id) ks && chkEs k ves vs
  | .sub a i => cSub e fun v s _ => notSlice s && chkE k v a && chkE k s i
  | .sl a lo hi => cSub e fun v s _ => cSlice s fun l u t _ => t.isNone && chkE k v a && (match l with | Option.none => lo.isNone | some x => chkE k x lo) && (match u with | Option.none => hi.isNone | some x => chkE k x hi)
  | .comp elt x src cs => cLC e fun t gs scope _ => c1 gs fun g => g.is_async == 0 && cName g.target fun y _ => y == Str.ofString x && notSet g.iter && okScope k scope y && chkE k g.iter src && chkE (kindC k scope) t elt && chkEs (kindC k scope) g.ifs cs
  | .call f args => cCall e fun g as ks _ => ks.isEmpty && cName g fun g _ => g == Str.ofString f && isGlob k g && chkEs k as args
  | .isi a T => cCall e fun g as ks _ => ks.isEmpty && c2 as fun x t => cName g fun g _ => cName t fun t _ => g == Str.ofString "isinstance" && isGlob k g && t == Str.ofString T && isGlob k t && chkE k x a
  | .blt f args => cCall e fun g as ks _ => ks.isEmpty && cName g fun g _ => g == Str.ofString f && isGlob k g && chkEs k as args
  | .sset a => cCall e fun g as ks _ => ks.isEmpty && cName g fun g _ => g == Str.ofString "sorted" && isGlob k g && c1 as fun x => cCall x fun g as ks _ => ks.isEmpty && cName g fun g _ => g == Str.ofString "set" && isGlob k g && c1 as fun x => chkE k x a
  | .lcp a => cCall e fun g as ks _ => ks.isEmpty && cName g fun g _ => g == Str.ofString "list" && isGlob k g && c1 as fun x => chkE k x a
  | .cc o1 o2 a b c => cCmp e fun l os rs _ => os == [o1, o2] && c2 rs fun r t => notSet t && chkE k l a && chkE k r b && chkE k t c
termination_by structural me
noncomputable def chkEs (k : KD) (es : List Expr) (ms : List ME) : Bool := match ms with
  | [] => es.isEmpty
  | a :: r => (match es with | e :: es' => chkE k e a && chkEs k es' r | [] => false)
termination_by structural ms
end

theorem cs_nil (k : KD) (es : List Expr) : chkEs k es [] = es.isEmpty := rfl
theorem cs_cons (k : KD) (e : Expr) (es : List Expr) (a : ME) (r : List ME) : chkEs k (e :: es) (a :: r) = (chkE k e a && chkEs k es r) := rfl
theorem cs_consn (k : KD) (a : ME) (r : List ME) : chkEs k [] (a :: r) = false := rfl

section
variable {k : KD} {e : Expr}
inductive IVar (k : KD) (x : String) : Expr → Prop
  | mk {p} (h : isVar k (Str.ofString x) = true) : IVar k x (.Name (Str.ofString x) p)
theorem inv_var {x : String} (h : chkE k e (.var x) = true) : IVar k x e := by
  refine cName_inv h fun y p q1 h => and2 h fun h1 h2 => ?_
  have q2 := eq_of_beq h1
  subst q1 q2
  exact ⟨h2⟩
inductive IGlob (k : KD) (x : String) : Expr → Prop
  | mk {p} (h : isGlob k (Str.ofString x) = true) : IGlob k x (.Name (Str.ofString x) p)
theorem inv_glob {x : String} (h : chkE k e (.glob x) = true) : IGlob k x e := by
  refine cName_inv h fun y p q1 h => and2 h fun h1 h2 => ?_
  have q2 := eq_of_beq h1
  subst q1 q2
  exact ⟨h2⟩
inductive IConst (c : Const) : Expr → Prop
  | mk {n p} : IConst c (.Constant c n p)
theorem inv_const {c : Const} (h : (cConst e fun c' _ _ => c' == c) = true) : IConst c e := by
  refine cConst_inv h fun c' n p q1 h => ?_
  have q2 := eq_of_beq h
  subst q1 q2
  exact ⟨⟩
theorem inv_int {i : Int} (h : chkE k e (.int i) = true) : IConst (.int i) e := inv_const h
theorem inv_str {i : String} (h : chkE k e (.str i) = true) : IConst (.str (Str.ofString i)) e := inv_const h
theorem inv_bool {i : Bool} (h : chkE k e (.bool i) = true) : IConst (.bool i) e := inv_const h
theorem inv_none (h : chkE k e .none = true) : IConst .none e := inv_const h
inductive IBin (k : KD) (op : Operator) (a b : ME) : Expr → Prop
  | mk {l r p} (h1 : chkE k l a = true) (h2 : chkE k r b = true) : IBin k op a b (.BinOp l op r p)
theorem inv_bin {op : Operator} {a b : ME} (h : chkE k e (.bin op a b) = true) : IBin k op a b e := by
  refine cBin_inv h fun l op' r p q1 h => and2 h fun h h3 => and2 h fun h1 h2 => ?_
  have q2 := eq_of_beq h1
  subst q1 q2
  exact ⟨h2, h3⟩
inductive ICmp (k : KD) (op : CmpOp) (a b : ME) : Expr → Prop
  | mk {l r p} (hs : notSet r = true) (h1 : chkE k l a = true) (h2 : chkE k r b = true) : ICmp k op a b (.Compare l [op] [r] p)
theorem inv_cmp {op : CmpOp} {a b : ME} (h : chkE k e (.cmp op a b) = true) : ICmp k op a b e := by
  refine cCmp_inv h fun l os rs p q1 h => and2 h fun h1 h => c1_inv h fun r q2 h => and2 h fun h h4 => and2 h fun h2 h3 => ?_
  have q3 := eq_of_beq h1
  subst q1 q2 q3
  exact ⟨h2, h3, h4⟩
inductive ICc (k : KD) (o1 o2 : CmpOp) (a b c : ME) : Expr → Prop
  | mk {l r t p} (hs : notSet t = true) (h1 : chkE k l a = true) (h2 : chkE k r b = true) (h3 : chkE k t c = true) : ICc k o1 o2 a b c (.Compare l [o1, o2] [r, t] p)
theorem inv_cc {o1 o2 : CmpOp} {a b c : ME} (h : chkE k e (.cc o1 o2 a b c) = true) : ICc k o1 o2 a b c e := by
  refine cCmp_inv h fun l os rs p q1 h => and2 h fun h1 h => c2_inv h fun r t q2 h => and2 h fun h h5 => and2 h fun h h4 => and2 h fun h2 h3 => ?_
  have q3 := eq_of_beq h1
  subst q1 q2 q3
  exact ⟨h2, h3, h4, h5⟩
inductive IBop (k : KD) (op : BoolOp) (es : List ME) : Expr → Prop
  | mk {vs p} (h : chkEs k vs es = true) : IBop k op es (.BoolOp op vs p)
theorem inv_bop {op : BoolOp} {es : List ME} (h : chkE k e (.bop op es) = true) : IBop k op es e := by
  refine cBool_inv h fun op' vs p q1 h => and2 h fun h1 h2 => ?_
  have q2 := eq_of_beq h1
  subst q1 q2
  exact ⟨h2⟩
inductive IUn (k : KD) (o : UnaryOp) (a : ME) : Expr → Prop
  | mk {x p} (h : chkE k x a = true) : IUn k o a (.UnaryOp o x p)
theorem inv_un {o : UnaryOp} {a : ME} (h : (cUn e fun o' x _ => o' == o && chkE k x a) = true) : IUn k o a e := by
  refine cUn_inv h fun o' x p q1 h => and2 h fun h1 h2 => ?_
  have q2 := eq_of_beq h1
  subst q1 q2
  exact ⟨h2⟩
theorem inv_not {a : ME} (h : chkE k e (.not a) = true) : IUn k .Not a e := inv_un h
theorem inv_neg {a : ME} (h : chkE k e (.neg a) = true) : IUn k .USub a e := inv_un h
inductive ITup (k : KD) (es : List ME) : Expr → Prop
  | mk {vs n p} (h : chkEs k vs es = true) : ITup k es (.Tuple vs n p)
theorem inv_tup {es : List ME} (h : chkE k e (.tup es) = true) : ITup k es e :=
  cTup_inv h fun _ _ _ q1 h => q1 ▸ ⟨h⟩
inductive ILst (k : KD) (es : List ME) : Expr → Prop
  | mk {vs p} (h : chkEs k vs es = true) : ILst k es (.List vs p)
theorem inv_lst {es : List ME} (h : chkE k e (.lst es) = true) : ILst k es e :=
  cLst_inv h fun _ _ q1 h => q1 ▸ ⟨h⟩
theorem somes : ∀ {l : List (Option Expr)}, l.all Option.isSome = true → l = (l.filterMap id).map some
  | [], _ => rfl
  | none :: l, h => by simp at h
  | some x :: l, h => by simp at h; simp; exact somes (by simpa using h)
inductive IDct (k : KD) (ks vs : List ME) : Expr → Prop
  | mk {kes ves p} (h1 : chkEs k kes ks = true) (h2 : chkEs k ves vs = true) : IDct k ks vs (.Dict (kes.map some) ves p)
theorem inv_dct {ks vs : List ME} (h : chkE k e (.dct ks vs) = true) : IDct k ks vs e := by
  refine cDict_inv h fun kes ves p q1 h => and2 h fun h h3 => and2 h fun h1 h2 => ?_
  rw [q1, somes h1]
  exact ⟨h2, h3⟩
theorem notSlice_inv {s : Expr} (h : notSlice s = true) : ∀ a b c p, s = .Slice a b c p → False := by
  rintro a b c p rfl; cases h
inductive ISub (k : KD) (a i : ME) : Expr → Prop
  | mk {v s p} (hn : ∀ a b c p, s = .Slice a b c p → False) (h1 : chkE k v a = true) (h2 : chkE k s i = true) : ISub k a i (.Subscript v s p)
theorem inv_sub {a i : ME} (h : chkE k e (.sub a i) = true) : ISub k a i e :=
  cSub_inv h fun _ _ _ q1 h => and2 h fun h h3 => and2 h fun h1 h2 => q1 ▸ ⟨notSlice_inv h1, h2, h3⟩
noncomputable def chkO (k : KD) (l : Option Expr) (lo : ME) : Bool := match l with | Option.none => lo.isNone | some x => chkE k x lo
inductive ISl (k : KD) (a lo hi : ME) : Expr → Prop
  | mk {v l u p pos} (h1 : chkE k v a = true) (h2 : chkO k l lo = true) (h3 : chkO k u hi = true) : ISl k a lo hi (.Subscript v (.Slice l u Option.none p) pos)
theorem inv_sl {a lo hi : ME} (h : chkE k e (.sl a lo hi) = true) : ISl k a lo hi e := by
  refine cSub_inv h fun v s p q1 h => cSlice_inv h fun l u t p q2 h => and2 h fun h h4 => and2 h fun h h3 => and2 h fun h1 h2 => ?_
  have q3 := Option.isNone_iff_eq_none.mp h1
  subst q1 q2 q3
  exact ⟨h2, h3, h4⟩
inductive IComp (k : KD) (elt : ME) (x : String) (src : ME) (cs : List ME) : Expr → Prop
  | mk {t py it ifs scope lp} (hn : notSet it = true) (hs : okScope k scope (Str.ofString x) = true) (h1 : chkE k it src = true) (h2 : chkE (kindC k scope) t elt = true) (h3 : chkEs (kindC k scope) ifs cs = true) :
    IComp k elt x src cs (.ListComp t [⟨.Name (Str.ofString x) py, it, ifs, 0⟩] scope lp)
theorem inv_comp {elt src : ME} {x : String} {cs : List ME} (h : chkE k e (.comp elt x src cs) = true) : IComp k elt x src cs e := by
  refine cLC_inv h fun t gs scope p q1 h => c1_inv h fun g q2 h => and2 h fun h1 h => cName_inv h fun y py q3 h => ?_
  refine and2 h fun h h7 => and2 h fun h h6 => and2 h fun h h5 => and2 h fun h h4 => and2 h fun h2 h3 => ?_
  have q4 := eq_of_beq h2
  have q5 := eq_of_beq h1
  obtain ⟨tg, it, ifs, z⟩ := g
  dsimp only at q3 q5 h3 h5 h7
  subst q1 q2 q3 q4 q5
  exact ⟨h3, h4, h5, h6, h7⟩
inductive ICall (k : KD) (f : String) (args : List ME) : Expr → Prop
  | mk {gp as pos} (hg : isGlob k (Str.ofString f) = true) (h : chkEs k as args = true) : ICall k f args (.Call (.Name (Str.ofString f) gp) as [] pos)
theorem inv_call {f : String} {args : List ME} (h : chkE k e (.call f args) = true) : ICall k f args e := by
  refine cCall_inv h fun g as ks p q1 h => and2 h fun h1 h => cName_inv h fun y py q2 h => and2 h fun h h4 => and2 h fun h2 h3 => ?_
  have q3 := eq_of_beq h2
  have q4 := List.isEmpty_iff.mp h1
  subst q1 q2 q3 q4
  exact ⟨h3, h4⟩
theorem inv_blt {f : String} {args : List ME} (h : chkE k e (.blt f args) = true) : ICall k f args e := inv_call h
inductive ICall1 (k : KD) (f : String) (P : Expr → Prop) : Expr → Prop
  | mk {gp x pos} (hg : isGlob k (Str.ofString f) = true) (h : P x) : ICall1 k f P (.Call (.Name (Str.ofString f) gp) [x] [] pos)
theorem inv_call1 {f : String} {g : Expr → Bool} {P : Expr → Prop} (hP : ∀ x, g x = true → P x) (h : (cCall e fun n as ks _ => ks.isEmpty && cName n fun n _ => n == Str.ofString f && isGlob k n && c1 as g) = true) : ICall1 k f P e := by
  refine cCall_inv h fun n as ks p q1 h => and2 h fun h1 h => cName_inv h fun y py q2 h => and2 h fun h h4 => and2 h fun h2 h3 => c1_inv h4 fun x q5 h4 => ?_
  have q3 := eq_of_beq h2
  have q4 := List.isEmpty_iff.mp h1
  subst q1 q2 q3 q4 q5
  exact ⟨h3, hP _ h4⟩
theorem inv_lcp {a : ME} (h : chkE k e (.lcp a) = true) : ICall1 k "list" (fun x => chkE k x a = true) e := inv_call1 (fun _ h => h) h
theorem inv_sset {a : ME} (h : chkE k e (.sset a) = true) : ICall1 k "sorted" (ICall1 k "set" fun x => chkE k x a = true) e := inv_call1 (fun _ h => inv_call1 (fun _ h => h) h) h
inductive IIsi (k : KD) (a : ME) (T : String) : Expr → Prop
  | mk {gp x tp pos} (hg : isGlob k (Str.ofString "isinstance") = true) (ht : isGlob k (Str.ofString T) = true) (h : chkE k x a = true) : IIsi k a T (.Call (.Name (Str.ofString "isinstance") gp) [x, .Name (Str.ofString T) tp] [] pos)
theorem inv_isi {a : ME} {T : String} (h : chkE k e (.isi a T) = true) : IIsi k a T e := by
  refine cCall_inv h fun g as ks p q1 h => and2 h fun h1 h => c2_inv h fun x t q2 h => cName_inv h fun y py q3 h => cName_inv h fun z pz q4 h => ?_
  refine and2 h fun h h6 => and2 h fun h h5 => and2 h fun h h4 => and2 h fun h2 h3 => ?_
  have q5 := eq_of_beq h2
  have q6 := eq_of_beq h4
  have q7 := List.isEmpty_iff.mp h1
  subst q1 q2 q3 q4 q5 q6 q7
  exact ⟨h3, h5, h6⟩
end
end Mine
namespace Mine
open PySem
noncomputable def fin (r : Option (Fl × St)) : Option (D × Bool) := match r with
  | some (.ret fr d, _) => some (d, fr)
  | some (.next, _) => some (.none, false)
  | _ => none
theorem call_eq {P : List (String × Fn)} {X : CF} {f : String} {fn : Fn} (n : Nat) (args : List D) (h : P.lookup f = some fn) (hl : args.length = fn.params.length) :
    (callN P X (n + 1)).call f args = fin (exSs (callN P X n) fn.body ((fn.params.zip args).map fun p => (p.1, (false, p.2)))) := by
  simp only [callN, h, hl, if_true, fin]
  all_goals (split <;> rename_i q <;> simp [q])
theorem glob_x (P : List (String × Fn)) (X : CF) (n : Nat) (x : String) : (callN P X n).glob x = X.glob x := by cases n <;> rfl

noncomputable def thenS (r : Option (Fl × St)) (k : St → Option (Fl × St)) : Option (Fl × St) := match r with
  | some (.next, σ) => k σ
  | x => x
theorem thenS_next (σ : St) (k) : thenS (some (.next, σ)) k = k σ := rfl
theorem x_nil (cf : CF) (σ : St) : exSs cf [] σ = some (.next, σ) := by simp [xss_nil, xss_cons]
theorem x_cons (cf : CF) (s : MS) (r : List MS) (σ : St) : exSs cf (s :: r) σ = thenS (exS cf s σ) (exSs cf r) := by
  simp only [xss_nil, xss_cons, thenS]
  all_goals (split <;> rename_i q <;> simp_all)
theorem x_app (cf : CF) (a b : List MS) (σ : St) : exSs cf (a ++ b) σ = thenS (exSs cf a σ) (exSs cf b) := by
  induction a generalizing σ with
  | nil => simp [x_nil, thenS]
  | cons s a ih =>
    rw [List.cons_append, x_cons, x_cons]
    generalize exS cf s σ = z
    unfold thenS
    cases z with
    | none => rfl
    | some p =>
      obtain ⟨fl, σ'⟩ := p
      cases fl <;> simp [ih, thenS]
/-- one statement that goes on, one that ends -/
theorem x_go {cf : CF} {s : MS} {r : List MS} {σ σ' : St} (h : exS cf s σ = some (.next, σ')) : exSs cf (s :: r) σ = exSs cf r σ' := by rw [x_cons, h]; rfl
theorem x_end {cf : CF} {s : MS} {r : List MS} {σ σ' : St} {fr : Bool} {d : D} (h : exS cf s σ = some (.ret fr d, σ')) : exSs cf (s :: r) σ = some (.ret fr d, σ') := by rw [x_cons, h]; rfl
theorem x_iteb {cf : CF} {c : ME} {t f r : List MS} {σ : St} {d : D} {k : Bool} (h : evE cf (vis σ) c = some d) (ht : truth d = some k) : exSs cf (.ite c t f :: r) σ = if k = true then exSs cf (t ++ r) σ else exSs cf (f ++ r) σ := by
  rw [x_cons, xs_ite, h]; dsimp only; rw [ht, x_app, x_app]
  cases k <;> rfl
noncomputable def bodyF (cf : CF) (body : List MS) (x : String) : D → St → Option (Fl × St) := fun it σ => exSs cf body (setv σ x (false, it))
noncomputable def loopS (r : Option (Fl × St)) (k : St → Option (Fl × St)) : Option (Fl × St) := match r with
  | some (.next, σ) => k σ
  | x => x
theorem forB_cons (cf : CF) (body : List MS) (x : String) (it : D) (r : List D) (σ : St) : forD (bodyF cf body x) (it :: r) σ = loopS (exSs cf body (setv σ x (false, it))) (forD (bodyF cf body x) r) := by
  show (match exSs cf body (setv σ x (false, it)) with
    | some (.next, σ') => forD (bodyF cf body x) r σ'
    | x => x) = _
  generalize exSs cf body (setv σ x (false, it)) = z
  unfold loopS
  split <;> rfl
theorem x_for {cf : CF} {x : String} {src : ME} {body : List MS} {r : List MS} {σ : St} {d : D} {its : List D} (h : evE cf (vis σ) src = some d) (hi : d.items = some its) : exSs cf (.for_ x src body :: r) σ = thenS (forD (bodyF cf body x) its (freeze src.names σ)) (exSs cf r) := by
  rw [x_cons, xs_for_, h]; dsimp only; rw [hi]; rfl
theorem x_while (cf : CF) (c : ME) (body : List MS) (r : List MS) (σ : St) : exSs cf (.while_ c body :: r) σ = thenS (whileD (condF cf c) (fun σ => exSs cf body σ) wlim σ) (exSs cf r) := by rw [x_cons, xs_while]
noncomputable def ME.isVar : ME → Bool
  | .var _ => true
  | _ => false
theorem x_rv {cf : CF} {e : ME} {σ : St} {d : D} {fr : Bool} (hv : e.isVar = false) (h : evF cf (vis σ) e = some (d, fr)) : exS cf (.ret e) σ = some (.ret fr d, σ) := by
  have key : exS cf (.ret e) σ = (match evF cf (vis σ) e with | some (d, fr) => some (.ret fr d, σ) | none => none) := by cases e <;> first | (cases hv; done) | rfl
  rw [key, h]
theorem x_rx {cf : CF} {z : String} {σ : St} {d : D} {fr : Bool} (h : σ.lookup z = some (fr, d)) : exS cf (.ret (.var z)) σ = some (.ret fr d, σ) := by
  rw [xs_ret]; dsimp only; rw [h]
end Mine
namespace Mine
open PySem
section
variable (cf : CF) (ρ : List (String × D))
theorem e_var (x : String) : evE cf ρ (.var x) = ρ.lookup x := rfl
theorem e_glob (x : String) : evE cf ρ (.glob x) = cf.glob x := rfl
theorem e_int (i : Int) : evE cf ρ (.int i) = some (.int i) := rfl
theorem e_str (i : String) : evE cf ρ (.str i) = some (.str (Str.ofString i)) := rfl
theorem e_bool (i : Bool) : evE cf ρ (.bool i) = some (.bool i) := rfl
theorem e_none : evE cf ρ .none = some .none := rfl
noncomputable def o2 (f : D → D → Option D) (a b : Option D) : Option D := match a with
  | some x => (match b with | some y => f x y | none => none)
  | none => none
theorem e_bin (op : Operator) (a b : ME) : evE cf ρ (.bin op a b) = o2 (binD op) (evE cf ρ a) (evE cf ρ b) := rfl
theorem e_cmp (op : CmpOp) (a b : ME) : evE cf ρ (.cmp op a b) = o2 (cmpD op) (evE cf ρ a) (evE cf ρ b) := rfl
theorem e_sub (a b : ME) : evE cf ρ (.sub a b) = o2 subD (evE cf ρ a) (evE cf ρ b) := rfl
theorem e_bop (op : BoolOp) (es : List ME) : evE cf ρ (.bop op es) = evBop cf ρ op es := rfl
noncomputable def o1 (f : D → Option D) (a : Option D) : Option D := match a with
  | some x => f x
  | none => none
theorem e_not (a : ME) : evE cf ρ (.not a) = o1 (fun x => (truth x).map fun t => .bool (!t)) (evE cf ρ a) := rfl
noncomputable def oL (f : List D → Option D) (a : Option (List D)) : Option D := match a with
  | some x => f x
  | none => none
theorem e_tup (es : List ME) : evE cf ρ (.tup es) = oL (fun ds => if ds.length ≤ big then some (.tup ds) else none) (evEs cf ρ es) := rfl
theorem e_lst (es : List ME) : evE cf ρ (.lst es) = oL (fun ds => if ds.length ≤ big then some (.list ds) else none) (evEs cf ρ es) := rfl
theorem e_blt (f : String) (es : List ME) : evE cf ρ (.blt f es) = oL (bltD f) (evEs cf ρ es) := rfl
theorem e_call (f : String) (es : List ME) : evE cf ρ (.call f es) = oL (fun ds => (cf.call f ds).map (·.1)) (evEs cf ρ es) := rfl
theorem e_sset (a : ME) : evE cf ρ (.sset a) = o1 ssetD (evE cf ρ a) := rfl
theorem e_lcp (a : ME) : evE cf ρ (.lcp a) = o1 (fun x => (lstD x).map .list) (evE cf ρ a) := rfl
theorem e_isi (a : ME) (T : String) : evE cf ρ (.isi a T) = o1 (fun x => (isiD x T).map .bool) (evE cf ρ a) := rfl
theorem e_sl (a l h : ME) : evE cf ρ (.sl a l h) = o1 (fun x => o2 (slD x) (evE cf ρ l) (evE cf ρ h)) (evE cf ρ a) := rfl
noncomputable def compF (elt : ME) (x : String) (cs : List ME) : D → Option (Option D) := fun it => match evCs cf ((x, it) :: ρ) cs with
  | some true => (match evE cf ((x, it) :: ρ) elt with | some y => some (some y) | none => none)
  | some false => some none
  | none => none
theorem e_comp (elt : ME) (x : String) (src : ME) (cs : List ME) : evE cf ρ (.comp elt x src cs) = o1 (fun d => (match d.items with
      | some its => if its.length ≤ big then (compM (compF cf ρ elt x cs) its).map .list else none
      | none => none)) (evE cf ρ src) := rfl
theorem es_nil : evEs cf ρ [] = some [] := rfl
noncomputable def oC (a : Option D) (b : Option (List D)) : Option (List D) := match a with
  | some d => (match b with | some ds => some (d :: ds) | none => none)
  | none => none
theorem es_cons (e : ME) (r : List ME) : evEs cf ρ (e :: r) = oC (evE cf ρ e) (evEs cf ρ r) := rfl
noncomputable def oB (s : Bool) (r : Option D) (a : Option D) : Option D := match a with
  | some d => (match truth d with
    | some t => if t = s then some d else r
    | none => none)
  | none => none
theorem oB_bool (s : Bool) (r : Option D) (t : Bool) : oB s r (some (.bool t)) = if t = s then some (.bool s) else r := by
  unfold oB truth
  by_cases h : t = s
  · subst h; rfl
  · simp [h]
theorem b_and (e e2 : ME) (r : List ME) : evBop cf ρ .And (e :: e2 :: r) = oB false (evBop cf ρ .And (e2 :: r)) (evE cf ρ e) := rfl
theorem b_or (e e2 : ME) (r : List ME) : evBop cf ρ .Or (e :: e2 :: r) = oB true (evBop cf ρ .Or (e2 :: r)) (evE cf ρ e) := rfl
theorem c_nil : evCs cf ρ [] = some true := rfl
end
theorem compM_ok (f : D → Option (Option D)) (Q : D → D → Prop) : ∀ (its : List D), (∀ it ∈ its, ∃ d, Q it d ∧ f it = some (some d)) → ∃ ds, compM f its = some ds ∧ ds.length = its.length ∧ ∀ d ∈ ds, ∃ it ∈ its, Q it d
  | [], _ => ⟨[], rfl, rfl, fun _ h => nomatch h⟩
  | it :: r, h => by
    obtain ⟨d, q, e⟩ := h it (by simp)
    obtain ⟨ds, e2, hl, hq⟩ := compM_ok f Q r fun i hi => h i (by simp [hi])
    refine ⟨d :: ds, by simp [compM, e, e2], by simp [hl], ?_⟩
    intro d' hd
    rcases List.mem_cons.mp hd with rfl | hd
    · exact ⟨it, by simp, q⟩
    · obtain ⟨i, hi, q'⟩ := hq d' hd
      exact ⟨i, by simp [hi], q'⟩
theorem compF_nil {cf : CF} {ρ : List (String × D)} {elt : ME} {x : String} {it d : D} (h : evE cf ((x, it) :: ρ) elt = some d) : compF cf ρ elt x [] it = some (some d) := by
  unfold compF; simp [c_nil, h]
theorem items_rng (n : Nat) : D.items (.rng 0 n) = some ((List.range n).map fun (i : Nat) => D.int (i : Int)) := by
  simp [D.items]
end Mine
namespace Mine
open PySem

noncomputable def Ex (h : Heap) (H : Addr → Prop) : Prop := ∀ a, H a → ∃ b o, @LE.le Nat _ a b ∧ gat h b = some o
theorem Ex.fresh {h : Heap} {H : Addr → Prop} (x : Ex h H) : ¬ H h.objs.size := fun e => by
  obtain ⟨b, o, hb, ho⟩ := x _ e
  exact Nat.lt_irrefl _ (Nat.lt_of_le_of_lt hb (Heap.gt_lt ho))
theorem Ex.keeps {h h' : Heap} {H : Addr → Prop} (x : Ex h H) (hk : KH h h') : Ex h' H := fun a e => by
  obtain ⟨b, o, hb, ho⟩ := x _ e
  exact ⟨b, o, hb, hk _ _ ho⟩

/-- but for new objects, tokens and draws all is as it was -/
noncomputable def Keeps (s s' : Shared) : Prop := ∃ h' tk dr, s' = { s with heap := h', toks := tk, drawn := dr } ∧ KH s.heap h'
theorem Kp.refl (s : Shared) : Keeps s s := ⟨s.heap, s.toks, s.drawn, rfl, fun _ _ e => e⟩
theorem Kp.tok (s : Shared) (t : Nat) : Keeps s { s with toks := t } := ⟨s.heap, t, s.drawn, rfl, fun _ _ e => e⟩
theorem Kp.push (s : Shared) (o : Obj) : Keeps s { s with heap := s.heap.push o } := ⟨_, s.toks, s.drawn, rfl, fun _ _ e => Heap.gt_push_of_some _ e⟩
theorem Kp.trans {s s' s'' : Shared} (a : Keeps s s') (b : Keeps s' s'') : Keeps s s'' := by
  obtain ⟨h', t', d', rfl, k'⟩ := a
  obtain ⟨h'', t'', d'', rfl, k''⟩ := b
  exact ⟨h'', t'', d'', rfl, fun x o e => k'' x o (k' x o e)⟩
theorem Kp.heap {s s' : Shared} (a : Keeps s s') : KH s.heap s'.heap := by
  obtain ⟨h', t', d', rfl, k'⟩ := a
  exact k'

/-- what an expression's run leaves -/
noncomputable def Post (w : World) (s : Shared) (H : Addr → Prop) (d : D) (v : Value) (s' : Shared) : Prop := Keeps s s' ∧ Rep w.params s'.heap H v d

/-- the list at a, its items outside of H and of a itself -/
noncomputable def OwnL (P : Params) (h : Heap) (H : Addr → Prop) (a : Addr) (ds : List D) : Prop :=
  ∃ vs n, h.get? a = some (lstO vs n) ∧ ds.length ≤ big ∧ RepAll P h (fun b => H b ∨ b = a) vs.toList ds
theorem OwnL.rep {P : Params} {h : Heap} {H : Addr → Prop} {a : Addr} {ds : List D} (o : OwnL P h H a ds) (hn : ¬ H a) : Rep P h H (.ref a) (.list ds) := by
  obtain ⟨vs, n, h1, h2, h3⟩ := o
  exact .list h1 hn h2 (h3.mono (fun _ _ _ e => e) fun _ _ _ q => .inl q)

/-- the dict at a, its keys and values outside of H and of a itself -/
noncomputable def OwnM (P : Params) (h : Heap) (H : Addr → Prop) (a : Addr) (ks vs : List D) : Prop :=
  ∃ es n, h.get? a = some (dicO es n) ∧ ks.length ≤ big ∧ RepAll P h (fun b => H b ∨ b = a) (es.toList.map (·.key)) ks ∧ RepAll P h (fun b => H b ∨ b = a) (es.toList.map (·.val)) vs ∧ es.toList.map (·.hash) = ks.map (hashK P) ∧ ks.all D.isKey = true ∧ ks.Nodup ∧ (a == sysModules) = false
/-- a new list or dict that nothing else holds -/
noncomputable def OwnD (P : Params) (h : Heap) (H : Addr → Prop) (a : Addr) : D → Prop
  | .list ds => OwnL P h H a ds
  | .dict ks vs => OwnM P h H a ks vs
  | _ => False
theorem OwnD.rep {P : Params} {h : Heap} {H : Addr → Prop} {a : Addr} {d : D} (o : OwnD P h H a d) (hn : ¬ H a) : Rep P h H (.ref a) d := by
  cases d <;> first | exact OwnL.rep o hn | exact False.elim o | skip
  obtain ⟨es, n, h1, h2, h3, h4, h5, h6, h7, h8⟩ := o
  exact .dict h1 hn h2 (h3.mono (fun _ _ _ e => e) fun _ _ _ q => .inl q) (h4.mono (fun _ _ _ e => e) fun _ _ _ q => .inl q) h5 h6 h7 h8
theorem OwnD.ex {P : Params} {h : Heap} {H : Addr → Prop} {a : Addr} {d : D} (o : OwnD P h H a d) : ∃ o, gat h a = some o := by
  cases d <;> first | exact False.elim o | (obtain ⟨_, _, e, _⟩ := o; exact ⟨_, Heap.gt_of e⟩)
theorem OwnD.notTab {P : Params} {h : Heap} {H : Addr → Prop} {a : Addr} {d : D} (o : OwnD P h H a d) : ∀ o, h.get? a = some o → isTab o = false := by
  cases d <;> first | exact False.elim o | (obtain ⟨_, _, e, _⟩ := o; exact notTab_at e)
theorem OwnD.scalar {P : Params} {h : Heap} {H : Addr → Prop} {a : Addr} {d : D} (o : OwnD P h H a d) : d.scalar = false := by
  cases d <;> first | rfl | exact False.elim o
noncomputable def Fresh (w : World) (s s' : Shared) (H : Addr → Prop) (v : Value) (d : D) : Prop := ∃ a, v = .ref a ∧ gat s.heap a = none ∧ OwnD w.params s'.heap H a d
noncomputable def PostF (w : World) (s : Shared) (H : Addr → Prop) (d : D) (fr : Bool) (v : Value) (s' : Shared) : Prop := Keeps s s' ∧ Rep w.params s'.heap H v d ∧ (fr = true → Fresh w s s' H v d)

theorem PostF.after {w : World} {s s₁ s₂ : Shared} {H : Addr → Prop} {d : D} {fr : Bool} {v : Value} (k : Keeps s s₁) (q : PostF w s₁ H d fr v s₂) : PostF w s H d fr v s₂ := by
  refine ⟨Kp.trans k q.1, q.2.1, fun e => ?_⟩
  obtain ⟨a, h1, h2, h3⟩ := q.2.2 e
  refine ⟨a, h1, ?_, h3⟩
  cases e : gat s.heap a with
  | none => rfl
  | some o => rw [Kp.heap k a o e] at h2; cases h2
theorem Post.plain {w : World} {s s₂ : Shared} {H : Addr → Prop} {d : D} {v : Value} (q : Post w s H d v s₂) (h : d.isList = false) : PostF w s H d d.isList v s₂ :=
  ⟨q.1, q.2, fun e => by rw [h] at e; cases e⟩
theorem post_newList {w : World} {s : Shared} {H : Addr → Prop} {vs : Array Value} {ds : List D} {h' : Heap} {n tk : Nat} {dr : Drawn} (hH : Ex s.heap H) (hl : ds.length ≤ big) (hr : RepAll w.params s.heap H vs.toList ds) (hk : KH s.heap h')
    (ho : h'.get? s.heap.objs.size = some (lstO vs n)) : PostF w s H (.list ds) true (.ref s.heap.objs.size) { s with heap := h', toks := tk, drawn := dr } := by
  have own : OwnL w.params h' H s.heap.objs.size ds := ⟨vs, n, ho, hl, hr.mono (fun a o _ e => hk a o e) fun a o e q => q.elim id fun q => absurd (Heap.gt_lt e) (q ▸ Nat.lt_irrefl _)⟩
  refine ⟨⟨h', tk, dr, rfl, hk⟩, own.rep hH.fresh, fun _ => ⟨_, rfl, ?_, own⟩⟩
  cases e : gat s.heap s.heap.objs.size with
  | none => rfl
  | some o => exact absurd (Heap.gt_lt e) (Nat.lt_irrefl _)

section
variable {prog : Program} {w : World} {A : Around} {E : Value → Shared → Prop} {s : Shared} {H : Addr → Prop}

theorem bits_le {a : Int} (h : -lim < a ∧ a < lim) : Builtin.Int.intBits a ≤ 64 := by
  unfold Builtin.Int.intBits
  split
  · omega
  · have h2 : a.natAbs < 2 ^ 64 := by unfold lim at h; omega
    have h3 : a.natAbs ≠ 0 := by intro e; rename_i hh; apply hh; simp; omega
    have := (Nat.log2_lt h3).mpr h2
    omega
theorem bits_le1000 {a : Int} (h : -powLim < a ∧ a < powLim) : Builtin.Int.intBits a ≤ 1000 := by
  unfold powLim at h
  unfold Builtin.Int.intBits
  split
  · omega
  · rename_i hh
    have h3 : a.natAbs ≠ 0 := by intro e; apply hh; simp; omega
    have h2 : a.natAbs < 2 ^ 1000 := by
      have e : ((2 ^ 1000 : Nat) : Int) = (2 : Int) ^ 1000 := by exact Int.natCast_pow 2 1000
      generalize (2 : Int) ^ 1000 = p at h e
      omega
    have := (Nat.log2_lt h3).mpr h2
    omega

theorem rep_newTup {vs : Array Value} {ds : List D} (hH : Ex s.heap H) (hl : ds.length ≤ big) (hr : RepAll w.params s.heap H vs.toList ds) :
    Rep w.params (s.heap.push (tupO vs 0)) H (.ref s.heap.objs.size) (.tup ds) :=
  .tup (Heap.get?_push_size _ rfl) hH.fresh hl (hr.keeps fun _ _ e => Heap.gt_push_of_some _ e)

theorem binI_snd {op : Operator} {i j : Int} {t u : Tok} {d : D} (he : binI op i j = some d) : wpAny (model prog w) A (binaryOp op (.int i t) (.int j u)) (Post w s H d) E s := by
  refine Classical.byContradiction fun hG => ?_
  cases op <;> simp only [binI] at he <;> first | (cases he; done) | skip
  · cases he; exact hG (PyProof.Rows.add_int ⟨Kp.tok _ _, .int _ _⟩)
  · cases he; exact hG (PyProof.Rows.sub_int ⟨Kp.tok _ _, .int _ _⟩)
  · split at he
    · rename_i hc; cases he
      exact hG (PyProof.Rows.mul_int ⟨Kp.tok _ _, .int _ _⟩ (hc.elim (fun h => .of_left (bits_le h)) fun h => .of_right (bits_le h)))
    · cases he
  · split at he
    · rename_i hc; cases he
      refine hG (PyProof.Rows.mod_int (by omega) ?_)
      rw [Int.fmod_eq_emod_of_nonneg _ (by omega)]
      exact ⟨Kp.tok _ _, .int _ _⟩
    · cases he
  · split at he
    · rename_i hc; cases he
      obtain ⟨h1, h2, h3, h4⟩ := hc
      refine hG (PyProof.Rows.pow_int h3 ?_ ⟨Kp.tok _ _, .int _ _⟩)
      have hb := bits_le1000 ⟨h1, h2⟩
      have : (Builtin.Int.intBits i : Int) * j ≤ 1000 * 100 := Int.mul_le_mul (by omega) h4 h3 (by decide)
      exact Int.le_trans this (by decide)
    · cases he
  · split at he
    · rename_i hc; cases he
      refine hG (PyProof.Rows.floordiv_int (by omega) ?_ (.inl (PyProof.noPylong_of_log2 ?_)))
      · rw [Int.fdiv_eq_ediv_of_nonneg _ (by omega)]
        exact ⟨Kp.tok _ _, .int _ _⟩
      · have : j.natAbs < 2 ^ 64 := by unfold lim at hc; omega
        have h3 : j.natAbs ≠ 0 := by omega
        have := (Nat.log2_lt h3).mpr this
        omega
    · cases he
theorem binS_snd {op : Operator} {x : Str} {t : Tok} {y : Value} {b d : D} (hy : Rep w.params s.heap H y b) (he : binS op x b = some d) : wpAny (model prog w) A (binaryOp op (.str x t) y) (Post w s H d) E s := by
  refine Classical.byContradiction fun hG => ?_
  cases op <;> simp only [binS] at he <;> first | (cases he; done) | skip
  · cases hy <;> simp only at he <;> first | (cases he; done) | skip
    split at he
    · rename_i hc; cases he
      exact hG (PyProof.Rows.add_str (fun t' tk => ⟨Kp.tok _ _, .str _ _⟩) (by exact hc))
    · cases he
  · cases hy <;> simp only at he <;> first | (cases he; done) | skip
    rename_i n u
    split at he
    · rename_i hc; cases he
      obtain ⟨h0, h1, h2⟩ := hc
      refine hG (SB.mul ⟨by simp; omega, fun g1 _ => ?_, fun g1 _ => ?_⟩ fun t' k => ⟨Kp.tok _ _, .str _ _⟩)
      · have : (1000 : Int) ≤ (2 ^ 63 - 1) / n := by
          rw [Int.le_ediv_iff_mul_le (by omega)]; omega
        omega
      · have : x.length * n.toNat ≤ 1000 * 1000 := Nat.mul_le_mul h2 (by omega)
        show decide (_ > sizeLine) = false
        simp only [decide_eq_false_iff_not]
        have e : (1000 * 1000 : Nat) < sizeLine := by decide
        omega
    · cases he
theorem binL_snd {op : Operator} {x y : Value} {as : List D} {b d : D} (hx : Rep w.params s.heap H x (.list as)) (hy : Rep w.params s.heap H y b) (hH : Ex s.heap H) (he : binL op as b = some d) :
    wpAny (model prog w) A (binaryOp op x y) (PostF w s H d d.isList) E s := by
  refine Classical.byContradiction fun hG => ?_
  cases op <;> simp only [binL] at he <;> first | (cases he; done) | skip
  cases hx with
  | list ho1 hn1 hl1 hr1 =>
    cases hy <;> simp only at he <;> first | (cases he; done) | skip
    rename_i ho2 hn2 hl2 hr2
    split at he
    · rename_i hc; cases he
      have e1 := hr1.length
      have e2 := hr2.length
      simp only [Array.length_toList] at e1 e2
      refine hG (P.add_list ho1 ho2 (post_newList hH (by simpa using hc) (by simpa using hr1.append hr2) (fun _ _ e => Heap.gt_push_of_some _ e) (Heap.get?_push_size _ rfl)) (by rw [e1, e2]; exact hc))
    · cases he
theorem nil_of_size {P : Params} {h : Heap} {vs : Array Value} {ds : List D} (r : RepAll P h H vs.toList ds) (hv : vs.isEmpty = true) : ds = [] := by
  have e := r.length
  cases ds with
  | nil => rfl
  | cons _ _ => simp at hv; subst hv; simp at e
theorem binT_snd {op : Operator} {x y : Value} {as : List D} {b d : D} (hx : Rep w.params s.heap H x (.tup as)) (hy : Rep w.params s.heap H y b) (hH : Ex s.heap H) (he : binT op as b = some d) :
    wpAny (model prog w) A (binaryOp op x y) (Post w s H d) E s := by
  refine Classical.byContradiction fun hG => ?_
  cases op <;> simp only [binT] at he <;> first | (cases he; done) | skip
  cases hx with
  | @tup a1 v1 n1 _ ho1 hn1 hl1 hr1 =>
    cases hy <;> simp only at he <;> first | (cases he; done) | skip
    rename_i a2 v2 n2 _ ho2 hn2 hl2 hr2
    split at he
    · rename_i hc; cases he
      have e1 := hr1.length
      have e2 := hr2.length
      simp only [Array.length_toList] at e1 e2
      by_cases hv : v1.isEmpty = true
      · refine hG (concat_meets ⟨_, ho1, rfl⟩ ⟨_, ho2, rfl⟩ noFill_tuple_add seq_tuple_add PySem.F.slot_tuple_add PySem.F.entry_tuple_add (PySem.F.args_tuple_add_2 _ _) (AutoSeq1.tuple___add___tuple_tuple_0 _ _ _ _ _ _ hv) ⟨ho1, ho2, Kp.refl _, ?_⟩)
        rw [nil_of_size hr1 hv]
        exact .tup ho2 hn2 hl2 hr2
      · by_cases hv2 : v2.isEmpty = true
        · refine hG (concat_meets ⟨_, ho1, rfl⟩ ⟨_, ho2, rfl⟩ noFill_tuple_add seq_tuple_add PySem.F.slot_tuple_add PySem.F.entry_tuple_add (PySem.F.args_tuple_add_2 _ _) (AutoSeq1.tuple___add___tuple_tuple_1 _ _ _ _ _ _ hv hv2) ⟨ho1, ho2, Kp.refl _, ?_⟩)
          rw [nil_of_size hr2 hv2, List.append_nil]
          exact .tup ho1 hn1 hl1 hr1
        · refine hG (P.add_tuple ho1 ho2 hv hv2 ⟨Kp.push _ _, ?_⟩ (by rw [e1, e2]; exact hc))
          refine rep_newTup hH (by simpa using hc) ?_
          simpa using hr1.append hr2
    · cases he
theorem binI_plain {op : Operator} {i j : Int} {d : D} (he : binI op i j = some d) : d.isList = false := by
  cases op <;> simp only [binI] at he <;> (try split at he) <;> cases he <;> rfl
theorem binS_plain {op : Operator} {x : Str} {b d : D} (he : binS op x b = some d) : d.isList = false := by
  cases op <;> simp only [binS] at he <;> first | (cases he; done) | (cases b <;> simp only at he <;> first | (cases he; done) | (split at he <;> cases he <;> rfl))
theorem binT_plain {op : Operator} {x : List D} {b d : D} (he : binT op x b = some d) : d.isList = false := by
  cases op <;> simp only [binT] at he <;> first | (cases he; done) | (cases b <;> simp only at he <;> first | (cases he; done) | (split at he <;> cases he <;> rfl))
theorem bin_snd {op : Operator} {x y : Value} {a b d : D} (hx : Rep w.params s.heap H x a) (hy : Rep w.params s.heap H y b) (hH : Ex s.heap H) (he : binD op a b = some d) :
    wpAny (model prog w) A (binaryOp op x y) (PostF w s H d d.isList) E s := by
  refine Classical.byContradiction fun hG => ?_
  cases a <;> simp only [binD] at he <;> first | (cases he; done) | skip
  · cases hx
    cases hy <;> simp only at he <;> first | (cases he; done) | skip
    exact hG (wpAny_mono (binI_snd he) (fun _ _ q => q.plain (binI_plain he)) fun _ _ e => e)
  · cases hx
    exact hG (wpAny_mono (binS_snd hy he) (fun _ _ q => q.plain (binS_plain he)) fun _ _ e => e)
  · exact hG (wpAny_mono (binT_snd hx hy hH he) (fun _ _ q => q.plain (binT_plain he)) fun _ _ e => e)
  · exact hG (binL_snd hx hy hH he)
end
end Mine
namespace Mine
open PySem PySem.SeqAt

section
variable {prog : Program} {w : World} {A : Around} {E : Value → Shared → Prop} {s : Shared} {H H' : Addr → Prop}

theorem eqS_snd {P : Params} {h : Heap} {x y : Value} {a b : D} {k : Bool} (hx : Rep P h H x a) (hy : Rep P h H' y b) (he : eqS a b = some k) :
    (∀ A s, EqAt A s x y k) ∧ (∀ A s, RcAt A s x y k) ∧ (∀ A s, RcNeAt A s x y (!k)) := by
  cases hx <;> simp only [eqS] at he <;> first | (cases he; done) | skip
  all_goals cases hy <;> simp only at he <;> first | (cases he; done) | skip
  · cases he; exact ⟨fun A s => EqAt.bool_bool _ _, fun A s => RcAt.bool_bool _ _, fun A s => RcNeAt.bool_bool _ _⟩
  · cases he; exact ⟨fun A s => EqAt.int_int _ _ _ _, fun A s => RcAt.int_int _ _ _ _, fun A s => RcNeAt.int_int _ _ _ _⟩
  · cases he; exact ⟨fun A s => EqAt.int_str _ _ _ _, fun A s => RcAt.int_str _ _ _ _, fun A s => RcNeAt.int_str _ _ _ _⟩
  · cases he; exact ⟨fun A s => EqAt.str_int _ _ _ _, fun A s => RcAt.str_int _ _ _ _, fun A s => RcNeAt.str_int _ _ _ _⟩
  · cases he; exact ⟨fun A s => EqAt.str_str _ _ _ _, fun A s => RcAt.str_str _ _ _ _, fun A s => RcNeAt.str_str _ _ _ _⟩

theorem eqAll_snd {P : Params} {h : Heap} {xs ys : List Value} {ds es : List D} {k : Bool} (hx : RepAll P h H xs ds) (hy : RepAll P h H' ys es) (hl : ds.length = es.length) (he : eqAll ds es = some k) :
    ∃ e : Nat → Bool, (List.range ds.length).all e = k ∧ ∀ j (h1 : j < xs.length) (h2 : j < ys.length) A s, EqAt A s xs[j] ys[j] (e j) := by
  induction ds generalizing xs ys es k with
  | nil =>
    cases es with
    | nil => cases he; cases hx; exact ⟨fun _ => true, rfl, fun j h1 => nomatch h1⟩
    | cons => cases hl
  | cons d ds ih =>
    cases es with
    | nil => cases hl
    | cons e es =>
      refine Classical.byContradiction fun hG => ?_
      simp only [eqAll] at he
      split at he
      · rename_i b1 b2 h1 h2
        cases he
        cases hx with
        | cons hx hxs =>
          cases hy with
          | cons hy hys =>
            obtain ⟨e, e1, e2⟩ := ih hxs hys (Nat.succ.inj hl) h2
            refine hG ⟨fun j => match j with | 0 => b1 | j + 1 => e j, ?_, ?_⟩
            · simp only [List.length_cons, List.range_succ_eq_map, List.all_cons, List.all_map]
              rw [← e1]; rfl
            · intro j h1' h2' A s
              cases j with
              | zero => exact (eqS_snd hx hy h1).1 A s
              | succ j => exact e2 j (Nat.lt_of_succ_lt_succ h1') (Nat.lt_of_succ_lt_succ h2') A s
      · cases he

theorem isList_of {h : Heap} {a : Addr} {vs : Array Value} {n : Nat} (ho : h.get? a = some (lstO vs n)) : h.IsList a vs := ⟨_, ho, rfl, n, rfl⟩
theorem isTuple_of {h : Heap} {a : Addr} {vs : Array Value} {n : Nat} (ho : h.get? a = some (tupO vs n)) : h.IsTuple a vs := ⟨_, ho, rfl, n, rfl⟩
theorem isTup_of {h : Heap} {a : Addr} {vs : Array Value} {n : Nat} (ho : h.get? a = some (tupO vs n)) : PyProof.Rows.IsTup h a vs := ⟨_, ho, rfl, n, rfl⟩

theorem eqL_snd {l1 l2 : Addr} {v1 v2 : Array Value} {n1 n2 : Nat} {d1 d2 : List D} {k : Bool} (h1 : s.heap.get? l1 = some (lstO v1 n1)) (h2 : s.heap.get? l2 = some (lstO v2 n2)) (r1 : RepAll w.params s.heap H v1.toList d1) (r2 : RepAll w.params s.heap H' v2.toList d2)
    (hu : A.units < cLine) (he : (if d1.length = d2.length then eqAll d1 d2 else some false) = some k) : RcAt A s (.ref l1) (.ref l2) k ∧ RcNeAt A s (.ref l1) (.ref l2) (!k) := by
  have e1 := r1.length
  have e2 := r2.length
  simp only [Array.length_toList] at e1 e2
  split at he
  · rename_i hl
    obtain ⟨e, e3, e4⟩ := eqAll_snd r1 r2 hl he
    subst e3
    rw [← e1]
    have q : ∀ j (q1 : j < v1.size) (q2 : j < v2.size), EqAt A.in1 s v1[j] v2[j] (e j) := fun j q1 q2 => by
      have := e4 j (by simpa using q1) (by simpa using q2) A.in1 s; rwa [Array.getElem_toList, Array.getElem_toList] at this
    exact ⟨RcAt.lists (isList_of h1) (isList_of h2) (by omega) hu q, RcNeAt.lists (isList_of h1) (isList_of h2) (by omega) hu q⟩
  · rename_i hl
    cases he
    have hne : (v1.size != v2.size) = true := by simp; omega
    exact ⟨RcAt.lists_lengths (isList_of h1) (isList_of h2) hne hu, RcNeAt.lists_lengths (isList_of h1) (isList_of h2) hne hu⟩
theorem eqT_snd {l1 l2 : Addr} {v1 v2 : Array Value} {n1 n2 : Nat} {d1 d2 : List D} {k : Bool} (h1 : s.heap.get? l1 = some (tupO v1 n1)) (h2 : s.heap.get? l2 = some (tupO v2 n2)) (r1 : RepAll w.params s.heap H v1.toList d1) (r2 : RepAll w.params s.heap H' v2.toList d2)
    (hu : A.units < cLine) (hl : d1.length = d2.length) (he : eqAll d1 d2 = some k) : RcAt A s (.ref l1) (.ref l2) k ∧ RcNeAt A s (.ref l1) (.ref l2) (!k) := by
  have e1 := r1.length
  have e2 := r2.length
  simp only [Array.length_toList] at e1 e2
  obtain ⟨e, e3, e4⟩ := eqAll_snd r1 r2 hl he
  have q : ((List.range (min v1.size v2.size)).all e && v1.size == v2.size) = k := by
    have e5 : min v1.size v2.size = v1.size := by omega
    rw [e5, e1, e3, e2, hl]; simp
  rw [← q]
  have q : ∀ j (q1 : j < v1.size) (q2 : j < v2.size), EqAt A.in1 s v1[j] v2[j] (e j) := fun j q1 q2 => by
    have := e4 j (by simpa using q1) (by simpa using q2) A.in1 s; rwa [Array.getElem_toList, Array.getElem_toList] at this
  exact ⟨RcAt.tuples (isTuple_of h1) (isTuple_of h2) hu q, RcNeAt.tuples (isTuple_of h1) (isTuple_of h2) hu q⟩
theorem eqT_nil {l1 l2 : Addr} {v1 v2 : Array Value} {n1 n2 : Nat} {d1 d2 : List D} (h1 : s.heap.get? l1 = some (tupO v1 n1)) (h2 : s.heap.get? l2 = some (tupO v2 n2)) (r1 : RepAll w.params s.heap H v1.toList d1) (r2 : RepAll w.params s.heap H' v2.toList d2)
    (hu : A.units < cLine) (hl : ¬ d1.length = d2.length) (h0 : d2.length = 0) : RcAt A s (.ref l1) (.ref l2) false ∧ RcNeAt A s (.ref l1) (.ref l2) (!false) := by
  have e1 := r1.length
  have e2 := r2.length
  simp only [Array.length_toList] at e1 e2
  have z : v2.size = 0 := e2.trans h0
  have q : ((List.range (min v1.size v2.size)).all (fun _ => true) && v1.size == v2.size) = false := by
    have : (v1.size == v2.size) = false := by simp only [beq_eq_false_iff_ne]; omega
    rw [this, Bool.and_false]
  rw [← q]
  have q : ∀ j (q1 : j < v1.size) (q2 : j < v2.size), EqAt A.in1 s v1[j] v2[j] ((fun _ => true) j) := fun j q1 q2 => absurd q2 (by omega)
  exact ⟨RcAt.tuples (isTuple_of h1) (isTuple_of h2) hu q, RcNeAt.tuples (isTuple_of h1) (isTuple_of h2) hu q⟩
theorem eqD_snd {x y : Value} {a b : D} {k : Bool} (hx : Rep w.params s.heap H x a) (hy : Rep w.params s.heap H' y b) (hu : A.units < cLine) (he : eqD a b = some k) :
    RcAt A s x y k ∧ RcNeAt A s x y (!k) := by
  have fin : eqS a b = some k → RcAt A s x y k ∧ RcNeAt A s x y (!k) := fun he => ⟨(eqS_snd hx hy he).2.1 _ _, (eqS_snd hx hy he).2.2 _ _⟩
  cases hx <;> simp only [eqD] at he <;> first | exact fin he | skip
  all_goals cases hy <;> simp only at he <;> first | (cases he; done) | skip
  · rename_i h1 _ _ r1 _ _ _ _ h2 _ _ r2
    split at he
    · rename_i hl; exact eqT_snd h1 h2 r1 r2 hu hl he
    · rename_i hl
      split at he
      · rename_i h0; cases he; exact eqT_nil h1 h2 r1 r2 hu hl h0
      · cases he
  · rename_i h1 _ _ r1 _ _ _ _ h2 _ _ r2
    exact eqL_snd h1 h2 r1 r2 hu he

theorem dict_at {P : Params} {h : Heap} {y : Value} {ks vs : List D} (hy : Rep P h H y (.dict ks vs)) (hk : ks.all D.isCell = true) : ∃ a es n, ∃ cs : List CK, y = .ref a ∧ h.get? a = some (dicO es n) ∧ ks = cs.map ofCK ∧ RepAll P h H (es.toList.map (·.key)) (cs.map ofCK) ∧ RepAll P h H (es.toList.map (·.val)) vs ∧
    es.toList.map (·.hash) = (cs.map ofCK).map (hashK P) ∧ (cs.map ofCK).Nodup ∧ (a == sysModules) = false ∧ cs.length = (es.toList.map (·.val)).length := by
  obtain ⟨cs, rfl⟩ := cells_ck hk
  cases hy with
  | dict h1 h2 h3 h4 h5 h6 h7 h8 h9 => exact ⟨_, _, _, cs, rfl, h1, rfl, h4, h5, h6, h8, h9, by have := h4.length; simpa using this.symm⟩
theorem notIn_of_in {M : Model} {x c : Value} {Q' Q : Value → Shared → Prop} (h : wpAny M A (compareOp .In x c) Q' E s) (hQ : ∀ b s', Q' (.bool b) s' → Q (.bool (!b)) s') : wpAny M A (compareOp .NotIn x c) Q E s := by
  intro Γ p hΓ
  have h0 := h Γ p hΓ
  change Sem.wp _ Γ (Sem.bind (contains c x) fun r => Sem.pure (Value.bool r)) _ _ p s at h0
  show Sem.wp _ Γ (Sem.bind (contains c x) fun r => Sem.pure (Value.bool (!r))) _ _ p s
  rw [Sem.wp_bind] at h0 ⊢
  refine Sem.wp_mono _ Γ _ (fun r p' s' q => ?_) (fun _ _ _ q => q) p s h0
  exact hQ r s' q
theorem in_dict {x y : Value} {k : D} {ks vs : List D} (hx : Rep w.params s.heap H x k) (hy : Rep w.params s.heap H y (.dict ks vs)) (hu : A.units + 1 < cLine) (hc : keyOk k ks = true) :
    wpAny (model prog w) A (compareOp .In x y) (Post w s H (.bool (ks.any fun x => keyEq x k))) E s := by
  unfold keyOk at hc
  rw [Bool.or_eq_true, Bool.and_eq_true] at hc
  rcases hc with hc | hc
  · obtain ⟨c, rfl⟩ := cell_ck hc.1
    obtain ⟨a, es, n, cs, rfl, h1, rfl, h4, h5, h6, h8, h9, hl⟩ := dict_at hy hc.2
    refine wpAny_in_of (knd := cellKind prog w) (rep_ck hx) h9 (dictOf_rep (prog := prog) h1 h4 h6 h8).mapOf ?_
    rw [any_valueAt hl]; exact ⟨Kp.tok _ _, .bool _⟩
  · cases hc
theorem cellEq_snd {P : Params} {h : Heap} {x y : Value} {a b : D} (hx : Rep P h H x a) (hy : Rep P h H' y b) (ha : a.isCell = true) (hb : b.isCell = true) : ∀ A s, EqAt A s x y (cellEq a b) := by
  have e : eqS a b = some (cellEq a b) := by cases a <;> first | (cases ha; done) | (cases b <;> first | rfl | (cases hb; done))
  exact (eqS_snd hx hy e).1
noncomputable def valCell : Value → D
  | .int i _ => .int i
  | .str x _ => .str x
  | _ => .none
theorem valCell_rep {P : Params} {h : Heap} {v : Value} {d : D} (r : Rep P h H v d) (hc : d.isCell = true) : valCell v = d := by
  cases r <;> first | rfl | cases hc
theorem eqv_any {P : Params} {h : Heap} {b : D} : ∀ {vs : List Value} {ds : List D}, RepAll P h H vs ds → ds.all D.isCell = true → vs.any (fun v => cellEq (valCell v) b) = ds.any fun x => cellEq x b
  | _, _, .nil, _ => rfl
  | _, _, .cons hv hr, hc => by
    simp only [List.all_cons, Bool.and_eq_true] at hc
    rw [List.any_cons, List.any_cons, eqv_any hr hc.2, valCell_rep hv hc.1]
theorem mem_eqv {P : Params} {h : Heap} {x : Value} {k : D} (hx : Rep P h H x k) (hk : k.isCell = true) {A : Around} {s : Shared} : ∀ {vs : List Value} {ds : List D}, RepAll P h H vs ds → ds.all D.isCell = true → ∀ v ∈ vs, EqAt A s v x (cellEq (valCell v) k)
  | _, _, .nil, _, _, hm => nomatch hm
  | _, _, .cons hv hr, hc, v, hm => by
    simp only [List.all_cons, Bool.and_eq_true] at hc
    rcases List.mem_cons.mp hm with rfl | hm
    · rw [valCell_rep hv hc.1]; exact cellEq_snd hv hx hc.1 hk A s
    · exact mem_eqv hx hk hr hc.2 v hm
theorem in_tup {x y : Value} {k : D} {ds : List D} (hx : Rep w.params s.heap H x k) (hy : Rep w.params s.heap H y (.tup ds)) (hc : (k.isCell && ds.all D.isCell) = true) :
    wpAny (model prog w) A (compareOp .In x y) (Post w s H (.bool (ds.any fun x => cellEq x k))) E s := by
  rw [Bool.and_eq_true] at hc
  cases hy with
  | tup ho hn hl hr =>
    refine in_tupleAt (fun v => cellEq (valCell v) k) (isTuple_of ho) (fun v hv => mem_eqv hx hc.1 hr hc.2 v (Array.mem_toList_iff.mpr hv)) ?_
    rw [← Array.any_toList, eqv_any hr hc.2]; exact ⟨Kp.refl _, .bool _⟩
theorem mem_snd {x y : Value} {a b : D} {k : Bool} (hx : Rep w.params s.heap H x a) (hy : Rep w.params s.heap H y b) (hu : A.units + 1 < cLine) (he : memD a b = some k) :
    wpAny (model prog w) A (compareOp .In x y) (Post w s H (.bool k)) E s := by
  cases b <;> simp only [memD] at he <;> first | (cases he; done) | skip
  · split at he
    · rename_i hc; cases he; exact in_tup hx hy hc
    · cases he
  · split at he
    · rename_i hc; cases he; exact in_dict hx hy hu hc
    · cases he
theorem ord_snd {op : CmpOp} {x y : Value} {a b d : D} (hx : Rep w.params s.heap H x a) (hy : Rep w.params s.heap H y b) (he : ordD op a b = some d) : wpAny (model prog w) A (compareOp op x y) (Post w s H d) E s := by
  cases hx <;> simp only [ordD] at he <;> first | (cases he; done) | skip
  all_goals cases hy <;> simp only at he <;> first | (cases he; done) | skip
  · cases op <;> simp only [cmpI] at he <;> cases he
    · exact PyProof.Rows.lt_int ⟨Kp.refl _, .bool _⟩
    · exact PyProof.Rows.le_int ⟨Kp.refl _, .bool _⟩
    · exact PyProof.Rows.gt_int ⟨Kp.refl _, .bool _⟩
    · exact PyProof.Rows.ge_int ⟨Kp.refl _, .bool _⟩
  · cases op <;> simp only at he <;> cases he
    exact PyProof.Rows.lt_str ⟨Kp.refl _, .bool _⟩
theorem eqX_snd {x y : Value} {a b : D} {k : Bool} (hx : Rep w.params s.heap H x a) (hy : Rep w.params s.heap H y b) (hu : A.units < cLine) (he : eqX a b = some k) :
    wpAny (model prog w) A (compareOp .Eq x y) (Post w s H (.bool k)) E s ∧ wpAny (model prog w) A (compareOp .NotEq x y) (Post w s H (.bool (!k))) E s :=
  ⟨(eqD_snd hx hy hu he).1 prog w E _ ⟨Kp.refl _, .bool _⟩, (eqD_snd hx hy hu he).2 prog w E _ ⟨Kp.refl _, .bool _⟩⟩
theorem cmp_snd {op : CmpOp} {x y : Value} {a b d : D} (hx : Rep w.params s.heap H x a) (hy : Rep w.params s.heap H y b) (hu : A.units + 1 < cLine) (he : cmpD op a b = some d) :
    wpAny (model prog w) A (compareOp op x y) (Post w s H d) E s := by
  have hu0 := Nat.lt_of_succ_lt hu
  cases op <;> simp only [cmpD] at he <;> first | exact ord_snd hx hy he | skip
  all_goals
    rw [Option.map_eq_some_iff] at he
    obtain ⟨k, hk, rfl⟩ := he
  · exact (eqX_snd hx hy hu0 hk).1
  · exact (eqX_snd hx hy hu0 hk).2
  · exact mem_snd hx hy hu hk
  · exact notIn_of_in (mem_snd hx hy hu hk) fun b s' q => ⟨q.1, by cases q.2; exact .bool _⟩

theorem lt63 {n : Nat} (h : n ≤ big) : (n : Int) < 2 ^ 63 := by unfold big at h; omega

theorem truth_snd {x : Value} {a : D} {t : Bool} (hx : Rep w.params s.heap H x a) (he : truth a = some t) :
    wpAny (model prog w) A (truthy x) (fun b s' => Keeps s s' ∧ b = t) E s := by
  cases hx <;> simp only [truth] at he <;> cases he
  · exact PyProof.Rows.truthy_none ⟨Kp.refl _, rfl⟩
  · exact wpAny_truthy_bool ⟨Kp.refl _, rfl⟩
  · exact PyProof.Rows.truthy_int ⟨Kp.refl _, rfl⟩
  · rename_i vs n ds ho _ hl hr
    have e := hr.length
    simp only [Array.length_toList] at e
    refine PyProof.Rows.truthy_tuple (isTup_of ho) (by rw [e]; exact lt63 hl) ⟨Kp.tok _ _, ?_⟩
    congr 1
    rw [Bool.eq_iff_iff]
    simp only [Array.isEmpty_iff, List.isEmpty_iff, ← Array.size_eq_zero_iff, ← List.length_eq_zero_iff, e]
  · rename_i vs n ds ho _ hl hr
    have e := hr.length
    simp only [Array.length_toList] at e
    refine wpAny_truthy_list (isList_of ho) (by rw [e]; exact lt63 hl) ⟨Kp.tok _ _, ?_⟩
    congr 1
    rw [Bool.eq_iff_iff]
    simp only [Array.isEmpty_iff, List.isEmpty_iff, ← Array.size_eq_zero_iff, ← List.length_eq_zero_iff, e]

theorem idx_seq {k : Int} {n j : Nat} (h : idx k n = some j) : seqIndex? k n = some j ∧ j < n ∧ -(n : Int) ≤ k ∧ k < n := by
  unfold idx at h
  unfold seqIndex?
  split at h
  · rename_i hc; cases h
    have e : ¬ k < 0 := by omega
    simp only [e, if_false]
    simp [hc]; omega
  · split at h
    · rename_i hc; cases h
      simp only [hc.2, if_true]
      have h1 : 0 ≤ k + n := by omega
      have h2 : k + n < n := by omega
      simp [h1, h2]; omega
    · cases h

theorem getItem_snd {x i : Value} {a b d : D} (hu : A.units + 1 < cLine) (hx : Rep w.params s.heap H x a) (hi : Rep w.params s.heap H i b) (he : subD a b = some d) :
    wpAny (model prog w) A (getItem x i) (Post w s H d) E s ∧ ∃ T id, s.TypeIs x T ∧ typeLookup (.type T) "__getitem__" = pure (some (.builtin id)) := by
  cases a <;> simp only [subD] at he <;> first | (cases he; done) | skip
  · rename_i x
    cases hx
    cases hi <;> simp only at he <;> first | (cases he; done) | skip
    rename_i k _
    split at he
    · rename_i hc; cases he
      refine ⟨PyProof.Rows.getItem_str (c := x.cps.getD k.toNat 0) ?_ ?_ ⟨Kp.tok _ _, .str _ _⟩, "str", _, typeIs_str _ _ _, F.slot_str_getitem.lookup⟩
      · simp; unfold big at hc; omega
      · have h1 : idx k x.length = some k.toNat := by unfold idx; simp [hc.1, hc.2.1]
        rw [(idx_seq h1).1]
        have h2 : k.toNat < x.cps.size := by have := hc.2.1; unfold Str.length at this; omega
        simp [Array.getD, h2]
    · cases he
  · cases hx with
    | tup ho hn hl hr =>
      cases hi <;> simp only at he <;> first | (cases he; done) | skip
      rename_i k _
      rw [Option.bind_eq_some_iff] at he
      obtain ⟨j, hj, he⟩ := he
      obtain ⟨v, hv, hvr⟩ := hr.get j he
      obtain ⟨h1, h2, h3, h4⟩ := idx_seq hj
      have e := hr.length
      simp only [Array.length_toList] at e
      have hb := lt63 hl
      exact ⟨PyProof.Rows.getItem_tuple (isTup_of ho) (by omega) (by omega) (by rw [e]; exact h1) (by simpa using hv) ⟨Kp.refl _, hvr⟩, "tuple", _, (isTup_of ho).typeIs, F.slot_tuple_getitem.lookup⟩
  · cases hx with
    | list ho hn hl hr =>
      cases hi <;> simp only at he <;> first | (cases he; done) | skip
      rename_i k _
      rw [Option.bind_eq_some_iff] at he
      obtain ⟨j, hj, he⟩ := he
      obtain ⟨v, hv, hvr⟩ := hr.get j he
      have e := hr.length
      simp only [Array.length_toList] at e
      have hb := lt63 hl
      refine ⟨?_, "list", _, (isList_of ho).typeIs, F.slot_list_getitem.lookup⟩
      unfold idx at hj
      split at hj
      · cases hj
        exact wpAny_getItem_list (isList_of ho) (by omega) (by omega) (by simpa using hv) ⟨Kp.refl _, hvr⟩
      · split at hj
        · cases hj
          exact wpAny_getItem_list_neg (isList_of ho) (by omega) (by rw [e]; omega) (by omega) (by rw [e]; simpa using hv) ⟨Kp.refl _, hvr⟩
        · cases hj
  · split at he
    · rename_i hc
      unfold keyOk at hc
      rw [Bool.or_eq_true, Bool.and_eq_true] at hc
      rcases hc with hc | hc
      · obtain ⟨c, rfl⟩ := cell_ck hc.1
        obtain ⟨a, es, n, cs, rfl, h1, rfl, h4, h5, h6, h8, h9, hl⟩ := dict_at hx hc.2
        obtain ⟨v, hv, rv⟩ := dget_valueAt h5 he
        have hm := (dictOf_rep (prog := prog) h1 h4 h6 h8).mapOf
        exact ⟨wpAny_getItem_of (knd := cellKind prog w) (rep_ck hi) hm hv ⟨Kp.tok _ _, rv⟩, "dict", _, hm.typeIs, slot_dict_getitem.lookup⟩
      · cases hc
    · cases he
end
end Mine
namespace Mine
open PySem PySem.SeqAt

section
variable {prog : Program} {w : World} {A : Around} {E : Value → Shared → Prop} {s : Shared} {H H' : Addr → Prop}

theorem isi_snd {x : Value} {a : D} {T : String} {t : Bool} (hx : Rep w.params s.heap H x a) (he : isiD a T = some t) :
    wpAny (model prog w) A (call (.builtin "isinstance") [x, .type T]) (Post w s H (.bool t)) E s := by
  unfold isiD at he
  split at he
  · rename_i hT
    cases hx with
    | bool b =>
      cases he
      rcases hT with rfl | rfl | rfl | rfl | rfl
      · exact IsiPair.bool_str ⟨Kp.tok _ _, .bool _⟩
      · exact IsiPair.bool_bool ⟨Kp.refl _, .bool _⟩
      · exact IsiPair.bool_int ⟨Kp.refl _, .bool _⟩
      · exact IsiPair.bool_tuple ⟨Kp.tok _ _, .bool _⟩
      · exact IsiPair.bool_list ⟨Kp.tok _ _, .bool _⟩
    | int i t =>
      cases he
      rcases hT with rfl | rfl | rfl | rfl | rfl
      · exact IsiPair.int_str ⟨Kp.tok _ _, .bool _⟩
      · exact IsiPair.int_bool ⟨Kp.tok _ _, .bool _⟩
      · exact IsiPair.int_int ⟨Kp.refl _, .bool _⟩
      · exact IsiPair.int_tuple ⟨Kp.tok _ _, .bool _⟩
      · exact IsiPair.int_list ⟨Kp.tok _ _, .bool _⟩
    | str x t =>
      cases he
      rcases hT with rfl | rfl | rfl | rfl | rfl
      · exact IsiPair.str_str ⟨Kp.refl _, .bool _⟩
      · exact IsiPair.str_bool ⟨Kp.tok _ _, .bool _⟩
      · exact IsiPair.str_int ⟨Kp.tok _ _, .bool _⟩
      · exact IsiPair.str_tuple ⟨Kp.tok _ _, .bool _⟩
      · exact IsiPair.str_list ⟨Kp.tok _ _, .bool _⟩
    | tup ho =>
      cases he
      rcases hT with rfl | rfl | rfl | rfl | rfl
      · exact IsiPair.tuple_str ho rfl ⟨Kp.tok _ _, .bool _⟩
      · exact IsiPair.tuple_bool ho rfl ⟨Kp.tok _ _, .bool _⟩
      · exact IsiPair.tuple_int ho rfl ⟨Kp.tok _ _, .bool _⟩
      · exact IsiPair.tuple_tuple ho rfl ⟨Kp.refl _, .bool _⟩
      · exact IsiPair.tuple_list ho rfl ⟨Kp.tok _ _, .bool _⟩
    | list ho =>
      cases he
      rcases hT with rfl | rfl | rfl | rfl | rfl
      · exact IsiPair.list_str ho rfl ⟨Kp.tok _ _, .bool _⟩
      · exact IsiPair.list_bool ho rfl ⟨Kp.tok _ _, .bool _⟩
      · exact IsiPair.list_int ho rfl ⟨Kp.tok _ _, .bool _⟩
      · exact IsiPair.list_tuple ho rfl ⟨Kp.tok _ _, .bool _⟩
      · exact IsiPair.list_list ho rfl ⟨Kp.refl _, .bool _⟩
    | _ => cases he
  · cases he

/-- the built-in that a name means -/
noncomputable def bltVal : String → Value
  | "len" => .builtin "len"
  | "isinstance" => .builtin "isinstance"
  | "sum" => .builtin "sum"
  | "max" => .builtin "max"
  | "min" => .builtin "min"
  | "sorted" => .builtin "sorted"
  | T => .type T

theorem natAbs_log2 {i : Int} (h : -strLim < i ∧ i < strLim) : i.natAbs.log2 < 1920 := by
  unfold strLim at h
  have h2 : i.natAbs < 10 ^ 100 := by
    have e : ((10 ^ 100 : Nat) : Int) = (10 : Int) ^ 100 := by exact Int.natCast_pow 10 100
    generalize (10 : Int) ^ 100 = p at h e
    omega
  by_cases h3 : i.natAbs = 0
  · rw [h3]; decide
  · refine (Nat.log2_lt h3).mpr (Nat.lt_trans h2 (by decide +kernel))

theorem len_snd {x : Value} {a d : D} (hx : Rep w.params s.heap H x a) (he : lenD a = some d) : wpAny (model prog w) A (call (.builtin "len") [x]) (Post w s H d) E s := by
  cases hx <;> simp only [lenD] at he <;> first | (cases he; done) | skip
  · split at he
    · rename_i hc; cases he
      exact PyProof.Rows.len_str (by have := lt63 hc; omega) ⟨Kp.tok _ _, .int _ _⟩
    · cases he
  · rename_i ho _ hl hr
    cases he
    have e := hr.length
    simp only [Array.length_toList] at e
    refine PyProof.Rows.len_tuple (isTup_of ho) (by rw [e]; exact lt63 hl) ?_
    rw [e]; exact ⟨Kp.tok _ _, .int _ _⟩
  · rename_i ho _ hl hr
    cases he
    have e := hr.length
    simp only [Array.length_toList] at e
    refine PyProof.Rows.len_list (isList_of ho) (by rw [e]; exact lt63 hl) ?_
    rw [e]; exact ⟨Kp.tok _ _, .int _ _⟩
theorem bltI_snd {f : String} {i : Int} {t : Tok} {d : D} (hH : Ex s.heap H) (he : bltI f i = some d) : wpAny (model prog w) A (call (bltVal f) [.int i t]) (Post w s H d) E s := by
  unfold bltI rngD at he
  split at he
  · rename_i hf; subst hf
    split at he
    · rename_i hc; cases he
      refine call_range_1 ⟨⟨_, _, _, rfl, fun _ _ e => Heap.gt_push_of_some _ e⟩, ?_⟩
      exact .rng (IsRange.new _ _ _ _ _ _ _) hH.fresh (by unfold big at *; omega)
    · cases he
  · split at he
    · rename_i hf; subst hf
      split at he
      · rename_i hc; cases he
        exact P.str_of_int (natAbs_log2 hc) ⟨Kp.tok _ _, .str _ _⟩
      · cases he
    · cases he
theorem bltI2_snd {f : String} {i j : Int} {t u : Tok} {d : D} (hh : A.handled = none) (hH : Ex s.heap H) (he : bltI2 f i j = some d) : wpAny (model prog w) A (call (bltVal f) [.int i t, .int j u]) (Post w s H d) E s := by
  unfold bltI2 rngD at he
  split at he
  · rename_i hf; subst hf
    split at he
    · rename_i hc; cases he
      refine call_range_2 ⟨⟨_, _, _, rfl, fun _ _ e => Heap.gt_push_of_some _ e⟩, ?_⟩
      exact .rng (IsRange.new _ _ _ _ _ _ _) hH.fresh (by unfold big at *; omega)
    · cases he
  · split at he
    · rename_i hf; subst hf; cases he
      refine max_two_ints hh fun h' tk hk => ?_
      split <;> exact ⟨⟨h', tk, _, rfl, Heap.gt_up hk⟩, .int _ _⟩
    · split at he
      · rename_i hf; subst hf; cases he
        refine min_two_ints hh fun h' tk hk => ?_
        split <;> exact ⟨⟨h', tk, _, rfl, Heap.gt_up hk⟩, .int _ _⟩
      · cases he
theorem blt1_snd {f : String} {x : Value} {a d : D} (hh : A.handled = none) (hx : Rep w.params s.heap H x a) (hH : Ex s.heap H) (he : bltD f [a] = some d) : wpAny (model prog w) A (call (bltVal f) [x]) (Post w s H d) E s := by
  simp only [bltD] at he
  split at he
  · rename_i hf; subst hf; exact len_snd hx he
  · cases hx <;> simp only at he <;> first | (cases he; done) | exact bltI_snd hH he | skip
    · split at he
      · rename_i hf; subst hf; cases he
        exact call_int_bool ⟨Kp.tok _ _, .int _ _⟩
      · cases he
    · split at he
      · rename_i hf; subst hf; cases he
        exact P.str_of_str ⟨Kp.refl _, .str _ _⟩
      · cases he
    · rename_i ho hn hl hr
      split at he
      · rename_i hf; subst hf; cases he
        have e := hr.length
        simp only [Array.length_toList] at e
        refine call_tuple_list (isList_of ho) (fun h' hk => ⟨⟨_, _, _, rfl, fun _ _ q => Heap.gt_push_of_some _ (Heap.gt_up hk _ _ q)⟩, ?_⟩) (by rw [e]; exact hl)
        exact .tup (Heap.get?_push_size _ rfl) (hH.keeps (Heap.gt_up hk)).fresh hl (hr.keeps fun _ _ q => Heap.gt_push_of_some _ (Heap.gt_up hk _ _ q))
      · cases he
theorem blt_snd {f : String} {xs : List Value} {as : List D} {d : D} (hh : A.handled = none) (hx : RepAll w.params s.heap H xs as) (hH : Ex s.heap H) (he : bltD f as = some d) :
    wpAny (model prog w) A (call (bltVal f) xs) (Post w s H d) E s := by
  cases hx with
  | nil => cases he
  | cons h1 h2 => cases h2 with
    | nil => exact blt1_snd hh h1 hH he
    | cons h2 h3 => cases h3 with
      | nil =>
        simp only [bltD] at he
        cases h1 <;> simp only at he <;> first | (cases he; done) | skip
        cases h2 <;> simp only at he <;> first | (cases he; done) | skip
        exact bltI2_snd hh hH he
      | cons => cases he
theorem reps_keys {P : Params} {h : Heap} : ∀ {vs : List Value} {cs : List CK}, vs.length = cs.length → (∀ (j : Nat) (v : Value), vs[j]? = some v → ∃ k, cs[j]? = some k ∧ CK.is k v = true) → RepAll P h H vs (cs.map ofCK)
  | [], [], _, _ => .nil
  | v :: vs, c :: cs, hl, hv => by
    obtain ⟨k, e1, e2⟩ := hv 0 v rfl
    cases e1
    exact .cons (ck_rep e2) (reps_keys (by simpa using hl) fun j v' e => hv (j + 1) v' e)
theorem lst_snd {x : Value} {a : D} {ds : List D} (hh : A.handled = none) (hx : Rep w.params s.heap H x a) (hH : Ex s.heap H) (he : lstD a = some ds) :
    wpAny (model prog w) A (call (.type "list") [x]) (PostF w s H (.list ds) true) E s := by
  cases a <;> simp only [lstD] at he <;> first | (cases he; done) | skip
  · cases hx with
    | tup ho hn hl hr =>
      cases he
      have e := hr.length
      simp only [Array.length_toList] at e
      exact call_list_seq _ (.inr rfl) ho rfl rfl (fun h' c' hk hD => post_newList hH hl hr (Heap.gt_up hk) hD) (by rw [e]; exact hl)
  · cases hx with
    | list ho hn hl hr =>
      cases he
      have e := hr.length
      simp only [Array.length_toList] at e
      exact call_list_seq _ (.inl rfl) ho rfl rfl (fun h' c' hk hD => post_newList hH hl hr (Heap.gt_up hk) hD) (by rw [e]; exact hl)
  · split at he
    · rename_i vs hc
      cases he
      have hlk : ds.length ≤ big := by cases hx; assumption
      obtain ⟨a, es, n, cs, rfl, h1, rfl, h4, h5, h6, h8, h9, hl⟩ := dict_at hx hc
      obtain ⟨ep, hm⟩ := (dictOf_rep (prog := prog) h1 h4 h6 h8).dictAt
      have el : (cs.zip (es.toList.map (·.val))).length = cs.length := by rw [List.length_zip, ← hl, Nat.min_self]
      refine PySem.W.kdl_call (PySem.W.kdl_dict h9) hh hm (by rw [el]; exact Nat.le_trans (by simpa using hlk) (by decide)) fun h' tk acc' c' hk hD hacc => ?_
      refine post_newList hH hlk (reps_keys (by rw [Array.length_toList, hacc.1, el]) fun j v e => ?_) (Heap.gt_up hk) hD
      obtain ⟨k, x, q1, q2⟩ := hacc.2 j v (by rw [← Array.getElem?_toList]; exact e)
      exact ⟨k, (List.getElem?_zip_eq_some.mp q1).1, q2⟩
    · cases he
end
end Mine
namespace Mine
open PySem PySem.SeqAt

section
variable {prog : Program} {w : World} {A : Around} {E : Value → Shared → Prop} {s : Shared} {H H' : Addr → Prop}

structure IterAt (prog : Program) (w : World) (A : Around) (s₁ : Shared) (H : Addr → Prop) (its : List D) (I : Addr) (s₂ : Shared) : Prop where
  keeps : Keeps s₁ s₂
  fresh : gat s₁.heap I = none
  ex : ∃ o, gat s₂.heap I = some o
  walk : ∃ fp P St, Walks prog w A I fp [I] its.length P St ∧ St 0 s₂.heap ∧ (∀ b ∈ fp, b = I ∨ (¬ H b ∧ ∃ o, gat s₁.heap b = some o)) ∧ (∀ i v, i < its.length → P i v → ∃ d, its[i]? = some d ∧ Rep w.params s₁.heap H v d) ∧ (∀ i h, St i h → ∃ o, gat h I = some o) ∧ ∀ b ∈ fp, ∀ i h o, St i h → h.get? b = some o → isTab o = false

theorem walks_frame {I : Addr} {fp ch : List Addr} {n : Nat} {P : Nat → Value → Prop} {St : Nat → Heap → Prop} (W : Walks prog w A I fp ch n P St) (hT : ∀ b ∈ fp, ∀ i h o, St i h → h.get? b = some o → isTab o = false)
    (i : Nat) (h h' : Heap) (st : St i h) (hk : ∀ b ∈ fp, ∀ o, gat h b = some o → gat h' b = some o) : St i h' :=
  W.frame i h h' st fun b hb o e => Heap.of_gt (hk b hb o (Heap.gt_of e (hT b hb i h o st e))) (hT b hb i h o st e)
theorem walk_lift {I : Addr} {fp : List Addr} {n : Nat} {P : Nat → Value → Prop} {St : Nat → Heap → Prop} (W : Walks prog w A I fp [I] n P St) (hT : ∀ b ∈ fp, ∀ i h o, St i h → h.get? b = some o → isTab o = false)
    {i : Nat} {h h' : Heap} (st : St i h) (hk : ∀ b o, b ∉ [I] → h.get? b = some o → h'.get? b = some o) : ∀ b o, b ∉ [I] → gat h b = some o → gat h' b = some o :=
  Heap.gt_lift (fun b o e ht q => by rw [hT b (W.sub b q) i h o st e] at ht; cases ht) hk
theorem fresh_size (h : Heap) : gat h h.objs.size = none := Heap.gt_none_of_le (Nat.le_refl _)

theorem iter_snd {x : Value} {d : D} {its : List D} (hx : Rep w.params s.heap H x d) (hh : A.handled = none) (he : d.items = some its) :
    wpAny (model prog w) A (pyIter x) (fun v s₂ => ∃ I, v = .ref I ∧ IterAt prog w A s H its I s₂) E s := by
  cases hx <;> simp only [D.items] at he <;> cases he
  · rename_i a vs n ho hn hl hr
    have e := hr.length
    simp only [Array.length_toList] at e
    have hne : a ≠ s.heap.objs.size := Nat.ne_of_lt (Heap.lt_size ho)
    refine wpAny_pyIter_tuple (isTuple_of ho) ⟨_, rfl, Kp.push _ _, fresh_size _, ⟨_, Heap.gt_push_size _ rfl⟩, ?_⟩
    refine ⟨_, _, _, e ▸ Walks.tuple hh s.heap.objs.size a hne vs, ?_, ?_, ?_, ?_, ?_⟩
    · exact ⟨⟨_, Heap.get?_push_size _ rfl, rfl, rfl⟩, (isTuple_of ho).push _⟩
    · intro b hb
      simp only [List.mem_cons, List.not_mem_nil, or_false] at hb
      rcases hb with rfl | rfl
      · exact .inl rfl
      · exact .inr ⟨hn, _, Heap.gt_of ho⟩
    · intro i v hi hv
      obtain ⟨v', h1, h2⟩ := hr.get i (List.getElem?_eq_getElem hi)
      have : v' = v := by
        have h3 : vs.toList[i]? = vs[i]? := by simp
        rw [h3, hv] at h1; cases h1; rfl
      exact ⟨_, List.getElem?_eq_getElem hi, this ▸ h2⟩
    · rintro i h ⟨⟨o, e, c1, _⟩, _⟩; exact ⟨_, Heap.gt_of e (notTab_cls (by rw [c1]; nofun) (by rw [c1]; simp))⟩
    · rintro b hb i h o ⟨⟨o1, e1, c1, _⟩, ⟨o2, e2, c2, _⟩⟩ e
      simp only [List.mem_cons, List.not_mem_nil, or_false] at hb
      rcases hb with rfl | rfl
      · rw [e1] at e; cases e; exact notTab_cls (by rw [c1]; nofun) (by rw [c1]; simp)
      · rw [e2] at e; cases e; exact notTab_cls (by rw [c2]; nofun) (by rw [c2]; simp)
  · rename_i a vs n ho hn hl hr
    have e := hr.length
    simp only [Array.length_toList] at e
    have hne : a ≠ s.heap.objs.size := Nat.ne_of_lt (Heap.lt_size ho)
    refine wpAny_pyIter_list (isList_of ho) ⟨_, rfl, Kp.push _ _, fresh_size _, ⟨_, Heap.gt_push_size _ rfl⟩, ?_⟩
    refine ⟨_, _, _, e ▸ Walks.list hh s.heap.objs.size a hne vs, ?_, ?_, ?_, ?_, ?_⟩
    · exact ⟨⟨_, Heap.get?_push_size _ rfl, rfl, rfl⟩, (isList_of ho).push _⟩
    · intro b hb
      simp only [List.mem_cons, List.not_mem_nil, or_false] at hb
      rcases hb with rfl | rfl
      · exact .inl rfl
      · exact .inr ⟨hn, _, Heap.gt_of ho⟩
    · intro i v hi hv
      obtain ⟨v', h1, h2⟩ := hr.get i (List.getElem?_eq_getElem hi)
      have : v' = v := by
        have h3 : vs.toList[i]? = vs[i]? := by simp
        rw [h3, hv] at h1; cases h1; rfl
      exact ⟨_, List.getElem?_eq_getElem hi, this ▸ h2⟩
    · rintro i h ⟨⟨o, e, c1, _⟩, _⟩; exact ⟨_, Heap.gt_of e (notTab_cls (by rw [c1]; nofun) (by rw [c1]; simp))⟩
    · rintro b hb i h o ⟨⟨o1, e1, c1, _⟩, ⟨o2, e2, c2, _⟩⟩ e
      simp only [List.mem_cons, List.not_mem_nil, or_false] at hb
      rcases hb with rfl | rfl
      · rw [e1] at e; cases e; exact notTab_cls (by rw [c1]; nofun) (by rw [c1]; simp)
      · rw [e2] at e; cases e; exact notTab_cls (by rw [c2]; nofun) (by rw [c2]; simp)
  · rename_i lo hi t u v hr hn hl
    have hsm : Builtin.Range.small lo hi 1 = true := by
      unfold big at hl; exact small_one (by omega) (by omega) (by omega) (by omega)
    have hsz : Builtin.Range.rangeSize lo hi 1 = ((hi - lo).toNat : Int) := by
      rw [rangeSize_one]; split <;> omega
    refine wpAny_pyIter_range hr hsm ⟨_, rfl, Kp.push _ _, fresh_size _, ⟨_, Heap.gt_push_size _ rfl⟩, ?_⟩
    have hlen : ((List.range (hi - lo).toNat).map fun (i : Nat) => D.int (lo + (i : Int))).length = (hi - lo).toNat := by simp
    refine ⟨_, _, _, hlen ▸ Walks.range hh s.heap.objs.size lo 1 (hi - lo).toNat, ?_, ?_, ?_, ?_, ?_⟩
    · show Heap.get? _ _ = _
      rw [Heap.get?_push_size _ rfl, hsz]
      simp [rawInt]
    · intro b hb
      simp only [List.mem_cons, List.not_mem_nil, or_false] at hb
      exact .inl hb
    · rintro i v hi ⟨t, rfl⟩
      rw [hlen] at hi
      refine ⟨.int (lo + i), by simp [hi], ?_⟩
      rw [Int.mul_one]
      exact .int _ _
    · intro i h e; exact ⟨_, Heap.gt_of e⟩
    · intro b hb i h o e1 e
      simp only [List.mem_cons, List.not_mem_nil, or_false] at hb
      subst hb
      have e2 := e1.symm.trans e
      cases e2; rfl
end
end Mine
namespace Mine
open PySem PySem.SeqAt

structure AOk (A : Around) (n : Nat) : Prop where
  handled : A.handled = none
  depth : A.depth + 2 * n + 20 < recursionLimit
  units : A.units + 13 * n + 100 < cLine
/-- a little deeper than A: where a key function's own calls run -/
structure Near (A A' : Around) : Prop where
  handled : A'.handled = A.handled
  depth : A'.depth ≤ A.depth + 1
  units : A'.units ≤ A.units + 10
/-- room for the calls that an expression makes -/
structure Room (A : Around) : Prop where
  units : A.units + 20 < cLine
  depth : A.depth + 2 < recursionLimit
theorem Room.u1 {A : Around} (r : Room A) : A.units + 1 < cLine := Nat.lt_of_le_of_lt (Nat.add_le_add_left (by decide) _) r.units
theorem Near.refl (A : Around) : Near A A := ⟨rfl, Nat.le_succ _, Nat.le_add_right _ _⟩

structure EnvRep (h : Heap) (env : Env) (m : Str → Option Value) : Prop where
  kind : env.scope.kind = .function
  glob : env.globals = mainGlobals
  blt : env.builtins = builtinsNs
  loc : ∃ ml, h.Ns env.locals ml ∧ ∀ x, env.kindOf x = some .local → ml x = m x
  cell : ∀ x, env.kindOf x = some .cell ∨ env.kindOf x = some .free → ∃ c, env.cells.lookup x = some c ∧ h.IsCell c (m x)
  inj : ∀ x y c, env.cells.lookup x = some c → env.cells.lookup y = some c → x = y
  off : ∀ x c, env.cells.lookup x = some c → c ≠ env.locals
  ex : ∀ x c, env.cells.lookup x = some c → ∃ o, gat h c = some o
  lam : ordK env.kindOf = true → env.code = .ref oc ∧ env.qual = lamP

theorem Ns.keepAt {h h' : Heap} {a : Addr} {m : Str → Option Value} (hn : h.Ns a m) (hk : ∀ o, gat h a = some o → gat h' a = some o) : h'.Ns a m :=
  let ⟨o, es, ep, ho, hd, r⟩ := hn
  have ht : isTab o = false := notTab_of (by rw [hd]; nofun)
  ⟨o, es, ep, Heap.of_gt (hk _ (Heap.gt_of ho ht)) ht, hd, r⟩
theorem Cell.keepAt {h h' : Heap} {a : Addr} {v : Option Value} (hn : h.IsCell a v) (hk : ∀ o, gat h a = some o → gat h' a = some o) : h'.IsCell a v :=
  let ⟨o, ho, hd⟩ := hn
  have ht : isTab o = false := notTab_of (by rw [hd]; nofun)
  ⟨o, Heap.of_gt (hk _ (Heap.gt_of ho ht)) ht, hd⟩

theorem EnvRep.keeps {h h' : Heap} {env : Env} {m : Str → Option Value} (R : EnvRep h env m) (hk : KH h h') : EnvRep h' env m where
  kind := R.kind
  glob := R.glob
  blt := R.blt
  loc := let ⟨ml, h1, h2⟩ := R.loc; ⟨ml, Ns.keepAt h1 (hk _), h2⟩
  cell := fun x hx => let ⟨c, h1, h2⟩ := R.cell x hx; ⟨c, h1, Cell.keepAt h2 (hk _)⟩
  inj := R.inj
  off := R.off
  ex := fun x c hc => let ⟨o, ho⟩ := R.ex x c hc; ⟨o, hk _ _ ho⟩
  lam := R.lam

/-- the frame's own places stay -/
theorem EnvRep.keepsAt {h h' : Heap} {env : Env} {m : Str → Option Value} (R : EnvRep h env m) (hk : ∀ a o, (a = env.locals ∨ ∃ x, env.cells.lookup x = some a) → gat h a = some o → gat h' a = some o) : EnvRep h' env m where
  kind := R.kind
  glob := R.glob
  blt := R.blt
  loc := let ⟨ml, h1, h2⟩ := R.loc; ⟨ml, Ns.keepAt h1 fun o e => hk _ o (.inl rfl) e, h2⟩
  cell := fun x hx => let ⟨c, h1, h2⟩ := R.cell x hx; ⟨c, h1, Cell.keepAt h2 fun o e => hk _ o (.inr ⟨x, h1⟩) e⟩
  inj := R.inj
  off := R.off
  ex := fun x c hc => let ⟨o, ho⟩ := R.ex x c hc; ⟨o, hk _ _ (.inr ⟨x, hc⟩) ho⟩
  lam := R.lam

section
variable {M : Model} {A : Around} {E : Value → Shared → Prop} {s : Shared}

theorem load_snd {env : Env} {m : Str → Option Value} {x : Str} {v : Value} {pos : Pos} {Q : Value → Shared → Prop} (R : EnvRep s.heap env m) (hx : isVar env.kindOf x = true) (hv : m x = some v) (h : Q v s) :
    wpAny M A (eval (.Name x pos) env) Q E s := by
  unfold isVar at hx
  simp only [Bool.and_eq_true, Bool.or_eq_true, beq_iff_eq, bne_iff_ne] at hx
  obtain ⟨⟨⟨hk, hd⟩, hc⟩, _⟩ := hx
  have hd' : (x == ("__debug__" : Str)) = false := by simpa using hd
  have hc' : (x == ("__classdict__" : Str)) = false := by simpa using hc
  refine wpAny_Name ?_ hd'
  rcases hk with (hk | hk) | hk
  · obtain ⟨ml, h1, h2⟩ := R.loc
    exact wpAny_loadName_local R.kind hk h1 ((h2 x hk).trans hv) h
  · obtain ⟨c, h1, h2⟩ := R.cell x (.inl hk)
    exact wpAny_loadName_cell R.kind hk h1 (hv ▸ h2) h
  · obtain ⟨c, h1, h2⟩ := R.cell x (.inr hk)
    exact wpAny_loadName_free R.kind hk h1 (hv ▸ h2) h hc'

noncomputable def upd (m : Str → Option Value) (x : Str) (v : Value) : Str → Option Value := fun y => if y = x then some v else m y

theorem store_snd {env : Env} {m : Str → Option Value} {x : Str} {v : Value} {Q : Unit → Shared → Prop} (R : EnvRep s.heap env m) (hx : env.kindOf x = some .local ∨ env.kindOf x = some .cell)
    (h : ∀ h' tk dw a, EnvRep h' env (upd m x v) → (a = env.locals ∨ env.cells.lookup x = some a) → Heap.SB a s.heap h' → Q () { s with heap := h', toks := tk, drawn := dw }) :
    wpAny M A (storeName env x v) Q E s := by
  rcases hx with hk | hk
  · obtain ⟨ml, h1, h2⟩ := R.loc
    refine wpAny_storeName_local hk h1 (fun h' hn hs0 => have hs : Heap.SB env.locals s.heap h' := ⟨hs0, notTab_ns h1, notTab_ns hn⟩; h h' _ s.drawn env.locals ⟨R.kind, R.glob, R.blt, ⟨_, hn, fun y hy => ?_⟩, fun y hy => ?_, R.inj, R.off, fun y c hc => let ⟨o, ho⟩ := R.ex y c hc; ⟨o, (hs.g c (R.off y c hc)).trans ho⟩, R.lam⟩ (.inl rfl) hs) (by rw [R.kind]; rfl)
    · unfold upd; by_cases e : y = x
      · simp [e]
      · simp [e, h2 y hy]
    · obtain ⟨c, h3, h4⟩ := R.cell y hy
      have hne : y ≠ x := by rintro rfl; rw [hk] at hy; simp at hy
      refine ⟨c, h3, ?_⟩
      unfold upd; rw [if_neg hne]
      exact h4.sameBut hs.s (R.off y c h3)
  · obtain ⟨c, h3, h4⟩ := R.cell x (.inl hk)
    refine wpAny_storeName_cell R.kind hk h3 h4 fun h' hc hs0 => have hs : Heap.SB c s.heap h' := ⟨hs0, notTab_cell h4, notTab_cell hc⟩; h h' s.toks s.drawn c ⟨R.kind, R.glob, R.blt, ?_, fun y hy => ?_, R.inj, R.off, fun y c' hc' => ?_, R.lam⟩ (.inr h3) hs
    · obtain ⟨ml, h1, h2⟩ := R.loc
      refine ⟨ml, h1.sameBut hs.s (fun e => R.off x c h3 e.symm), fun y hy => ?_⟩
      have hne : y ≠ x := by rintro rfl; rw [hk] at hy; simp at hy
      unfold upd; rw [if_neg hne]; exact h2 y hy
    · obtain ⟨c', h5, h6⟩ := R.cell y hy
      by_cases e : y = x
      · subst e
        rw [h3] at h5; cases h5
        exact ⟨c, h3, by simpa [upd] using hc⟩
      · refine ⟨c', h5, ?_⟩
        unfold upd; rw [if_neg e]
        exact h6.sameBut hs.s fun q => e (R.inj y x c' h5 (q ▸ h3))
    · by_cases e : c' = c
      · obtain ⟨o, ho⟩ := gt_cell hc; exact ⟨_, e ▸ ho⟩
      · obtain ⟨o, ho⟩ := R.ex y c' hc'; exact ⟨o, (hs.g c' e).trans ho⟩

/-! the closure that a comprehension's block takes -/
noncomputable def clGo (cells : List (Str × Addr)) : List (Str × NameKind) → List (Str × Addr) → List (Str × Addr)
  | [], acc => acc
  | (n, k) :: r, acc => if k == .free then (match cells.lookup n with | some c => clGo cells r ((n, c) :: acc) | none => clGo cells r acc) else clGo cells r acc

theorem closure_go {env : Env} (f : Str × NameKind → List (Str × Addr) → Sem (ForInStep (List (Str × Addr))))
    (hf : ∀ n k cs, f (n, k) cs = if k == .free then (do let c ← cellOf env n; pure (.yield ((n, c) :: cs))) else pure (.yield cs)) :
    ∀ (names : List (Str × NameKind)) (acc : List (Str × Addr)), (∀ p ∈ names, p.2 = .free → ∃ c, env.cells.lookup p.1 = some c) → forIn names acc f = pure (clGo env.cells names acc)
  | [], acc, _ => rfl
  | (n, k) :: r, acc, h => by
    have hr : ∀ p ∈ r, p.2 = .free → ∃ c, env.cells.lookup p.1 = some c := fun p hp => h p (List.mem_cons_of_mem _ hp)
    rw [List.forIn_cons, hf]
    unfold clGo
    by_cases hk : (k == NameKind.free) = true
    · obtain ⟨c, hc⟩ := h (n, k) List.mem_cons_self (by simpa using hk)
      rw [if_pos hk, if_pos hk]
      unfold cellOf
      simp only at hc
      rw [hc]
      simp only [pure_bind]
      exact closure_go f hf r _ hr
    · rw [if_neg hk, if_neg hk, pure_bind]
      exact closure_go f hf r _ hr

theorem closureFor_go {env : Env} {scope : Scope} (h : ∀ p ∈ scope.names, p.2 = .free → ∃ c, env.cells.lookup p.1 = some c) : closureFor scope env = pure (clGo env.cells scope.names []) := by
  unfold closureFor
  simp only []
  rw [closure_go (env := env) _ (fun n k cs => by
    by_cases hk : (k == NameKind.free) = true <;> simp [hk]) scope.names [] h]
  rfl

theorem lookup_cons' {α : Type} (x n : Str) (c : α) (l : List (Str × α)) : ((n, c) :: l).lookup x = if x = n then some c else l.lookup x := by
  rw [List.lookup_cons]
  by_cases h : x = n
  · simp [h]
  · have : (x == n) = false := by simpa using h
    simp [h, this]

theorem clGo_sound {cells : List (Str × Addr)} : ∀ (names : List (Str × NameKind)) (acc : List (Str × Addr)), (∀ x c, acc.lookup x = some c → cells.lookup x = some c) →
    ∀ x c, (clGo cells names acc).lookup x = some c → cells.lookup x = some c
  | [], acc, h => h
  | (n, k) :: r, acc, h => by
    unfold clGo
    split
    · cases hc : cells.lookup n with
      | none => exact clGo_sound r acc h
      | some c =>
        refine clGo_sound r _ fun x c' e => ?_
        rw [lookup_cons'] at e
        split at e
        · rename_i q; cases e; rw [q]; exact hc
        · exact h x c' e
    · exact clGo_sound r acc h

theorem clGo_mem {cells : List (Str × Addr)} : ∀ (names : List (Str × NameKind)) (acc : List (Str × Addr)) (x : Str) (c : Addr), (clGo cells names acc).lookup x = some c → (x, NameKind.free) ∈ names ∨ acc.lookup x = some c
  | [], acc, x, c, h => .inr h
  | (n, k) :: r, acc, x, c, h => by
    unfold clGo at h
    split at h
    · rename_i hk
      have hk' : k = .free := by simpa using hk
      subst hk'
      cases hc : cells.lookup n with
      | none => rw [hc] at h; exact (clGo_mem r acc x c h).imp (.tail _) id
      | some c' =>
        rw [hc] at h
        rcases clGo_mem r _ x c h with e | e
        · exact .inl (.tail _ e)
        · rw [lookup_cons'] at e
          split at e
          · rename_i q; exact .inl (q ▸ .head _)
          · exact .inr e
    · exact (clGo_mem r acc x c h).imp (.tail _) id

theorem clGo_has {cells : List (Str × Addr)} {x : Str} {c : Addr} (hx : cells.lookup x = some c) : ∀ (names : List (Str × NameKind)) (acc : List (Str × Addr)),
    ((x, NameKind.free) ∈ names ∨ acc.lookup x = some c) → (clGo cells names acc).lookup x = some c
  | [], acc, h => h.elim (fun e => nomatch e) id
  | (n, k) :: r, acc, h => by
    unfold clGo
    split
    · cases hc : cells.lookup n with
      | none =>
        refine clGo_has hx r acc (h.imp (fun e => ?_) id)
        rcases List.mem_cons.mp e with e | e
        · cases e; rw [hx] at hc; cases hc
        · exact e
      | some c' =>
        refine clGo_has hx r _ ?_
        rcases h with e | e
        · rcases List.mem_cons.mp e with e | e
          · cases e; rw [hx] at hc; cases hc
            exact .inr (by rw [lookup_cons', if_pos rfl])
          · exact .inl e
        · rw [lookup_cons']
          split
          · rename_i q; rw [← q, hx] at hc; cases hc; exact .inr rfl
          · exact .inr e
    · rename_i hk
      refine clGo_has hx r acc (h.imp (fun e => ?_) id)
      rcases List.mem_cons.mp e with e | e
      · cases e; simp at hk
      · exact e

theorem cellsFrom_app : ∀ (names : List (Str × NameKind)) (n : Nat) (acc : List (Str × Addr)), cellsFrom n names acc = cellsFrom n names [] ++ acc
  | [], _, _ => rfl
  | (x, k) :: r, n, acc => by
    unfold cellsFrom
    split
    · rw [cellsFrom_app r (n + 1) ((x, n) :: acc), cellsFrom_app r (n + 1) [(x, n)]]; simp
    · exact cellsFrom_app r n acc

theorem cellsFrom_mem : ∀ (names : List (Str × NameKind)) (n : Nat) (x : Str) (c : Addr), (x, c) ∈ cellsFrom n names [] → (x, NameKind.cell) ∈ names ∧ n ≤ c
  | [], _, _, _, h => nomatch h
  | (y, k) :: r, n, x, c, h => by
    unfold cellsFrom at h
    split at h
    · rename_i hk
      rw [cellsFrom_app] at h
      rcases List.mem_append.mp h with h | h
      · obtain ⟨h1, h2⟩ := cellsFrom_mem r (n + 1) x c h
        exact ⟨.tail _ h1, by omega⟩
      · simp only [List.mem_cons, List.not_mem_nil, or_false, Prod.mk.injEq] at h
        obtain ⟨rfl, rfl⟩ := h
        have : k = .cell := by simpa using hk
        subst this
        exact ⟨.head _, Nat.le_refl _⟩
    · obtain ⟨h1, h2⟩ := cellsFrom_mem r n x c h
      exact ⟨.tail _ h1, h2⟩

theorem cellsFrom_has : ∀ (names : List (Str × NameKind)) (n : Nat) (x : Str), (x, NameKind.cell) ∈ names → ∃ c, (x, c) ∈ cellsFrom n names []
  | (y, k) :: r, n, x, h => by
    unfold cellsFrom
    rcases List.mem_cons.mp h with e | e
    · cases e
      simp only [beq_self_eq_true, if_true]
      rw [cellsFrom_app]
      exact ⟨n, List.mem_append_right _ (List.mem_singleton.mpr rfl)⟩
    · split
      · obtain ⟨c, hc⟩ := cellsFrom_has r (n + 1) x e
        rw [cellsFrom_app]
        exact ⟨c, List.mem_append_left _ hc⟩
      · exact cellsFrom_has r n x e

theorem lookup_some_of_mem {α : Type} : ∀ {l : List (Str × α)} {x : Str} {c : α}, (x, c) ∈ l → ∃ c', l.lookup x = some c'
  | (y, d) :: r, x, c, h => by
    rw [lookup_cons']
    split
    · exact ⟨_, rfl⟩
    · rename_i hne
      rcases List.mem_cons.mp h with e | e
      · cases e; exact absurd rfl hne
      · exact lookup_some_of_mem e

theorem lookup_app {α : Type} (x : Str) : ∀ (l l' : List (Str × α)), (l ++ l').lookup x = (l.lookup x).or (l'.lookup x)
  | [], l' => by simp
  | (y, c) :: r, l' => by
    rw [List.cons_append, lookup_cons', lookup_cons', lookup_app x r l']
    split <;> simp
end
end Mine
namespace Mine
open PySem PySem.SeqAt

theorem lookup_map {α β : Type} (g : Str → α → β) (x : Str) : ∀ (l : List (Str × α)), (l.map fun p => (p.1, g p.1 p.2)).lookup x = (l.lookup x).map (g x)
  | [] => rfl
  | (y, c) :: r => by
    rw [List.map_cons, lookup_cons', lookup_cons', lookup_map g x r]
    split
    · rename_i h; subst h; rfl
    · rfl

theorem kindC_eq (k : KD) (scope : Scope) (x : Str) : kindC k scope x = (scope.names.lookup x).map fun q => if q == .free && k x == some .cell then .cell else q := by
  unfold kindC
  rw [← lookup_map (fun n q => if q == NameKind.free && k n == some .cell then NameKind.cell else q) x scope.names]
  congr 1
  refine List.map_congr_left fun p _ => ?_
  by_cases h : (p.2 == NameKind.free && k p.1 == some .cell) = true
  · simp [h]
  · simp [h]

theorem relabel_kind {env : Env} {scope : Scope} (hk : env.scope.kind = .function) : (fun x => (relabel scope env).names.lookup x) = kindC env.kindOf scope := by
  funext x
  unfold relabel kindC
  simp only [hk]
  congr 1
  refine List.map_congr_left fun p _ => ?_
  obtain ⟨a, b⟩ := p
  simp

section
variable {M : Model} {A : Around} {E : Value → Shared → Prop} {s : Shared}
theorem newEnvA {scope : Scope} {globals : Addr} {cl : List (Str × Addr)} {qual : Str} {env : Env} {Q : Env → Shared → Prop}
    (h : Q { scope, locals := s.heap.objs.size, globals, cells := cellsFrom (s.heap.objs.size + 1) scope.names cl, qual, func := none, code := env.code, frame := env.frame, builtins := env.builtins }
      { s with heap := pushCells (s.heap.push { cls := .type "dict", data := .dict #[] }) scope.names }) :
    wpAny M A (newFunctionEnv scope globals cl [] qual none .none (some env)) Q E s := by
  simp only [newFunctionEnv, Option.isSome_some, if_true]
  refine wpAny_bind (wpAny_alloc ?_)
  refine wpAny_bind (wpAny_layCells _ (fun name kind cells => by cases hkc : kind == NameKind.cell <;> simp [hkc]) _ _ _ _ ?_)
  rw [show ({ s with heap := s.heap.push { cls := .type "dict", data := .dict #[] } } : Shared).heap.objs.size = s.heap.objs.size + 1 from Heap.size_push ..]
  exact wpAny_pure h
end

theorem cells_facts (h : Heap) (scope : Scope) (o : Obj) :
    CellsOk (pushCells (h.push o) scope.names) (h.objs.size + 1) (cellsFrom (h.objs.size + 1) scope.names []) := by
  have ok := cellsFrom_ok scope.names (h.push o) (h.objs.size + 1) [] ⟨fun _ _ hm => (nomatch hm), List.Pairwise.nil⟩ (by rw [Heap.size_push]; exact Nat.le_refl _)
  rwa [Heap.size_push] at ok

/-- the environment of a comprehension's block -/
theorem compEnv_rep {h : Heap} {env : Env} {m : Str → Option Value} {scope : Scope} {y : Str} (R : EnvRep h env m) (hok : okScope env.kindOf scope y = true) :
    EnvRep (pushCells (h.push { cls := .type "dict", data := .dict #[] }) scope.names)
      { scope := relabel scope env, locals := h.objs.size, globals := env.globals, cells := cellsFrom (h.objs.size + 1) scope.names (clGo env.cells scope.names []), qual := env.qual, func := none, code := env.code, frame := env.frame, builtins := env.builtins }
      (fun x => if scope.names.lookup x = some .free then m x else none) := by
  unfold okScope at hok
  simp only [Bool.and_eq_true, decide_eq_true_eq, beq_iff_eq, List.all_eq_true, Bool.not_eq_true'] at hok
  obtain ⟨⟨⟨⟨⟨hkind, hnd⟩, hy⟩, hfree⟩, _⟩, hord⟩ := hok
  have ok := cells_facts h scope { cls := .type "dict", data := .dict #[] }
  have keep : ∀ b o, gat h b = some o → gat (pushCells (h.push { cls := .type "dict", data := .dict #[] }) scope.names) b = some o := fun b o e => Heap.gt_up (pushCells_keeps _ _) b o (Heap.gt_push_of_some _ e)
  have uniq : ∀ x k k', (x, k) ∈ scope.names → (x, k') ∈ scope.names → k = k' := by
    intro x k k' h1 h2
    have : ∀ (l : List (Str × NameKind)), (l.map (·.1)).Nodup → (x, k) ∈ l → (x, k') ∈ l → k = k' := by
      intro l
      induction l with
      | nil => intro _ h; nomatch h
      | cons p l ih =>
        intro hn h1 h2
        simp only [List.map_cons, List.nodup_cons] at hn
        rcases List.mem_cons.mp h1 with e1 | e1 <;> rcases List.mem_cons.mp h2 with e2 | e2
        · rw [← e2] at e1; exact (Prod.mk.inj e1).2
        · exact absurd (List.mem_map_of_mem (f := (·.1)) e2) (by rw [← e1] at hn; exact hn.1)
        · exact absurd (List.mem_map_of_mem (f := (·.1)) e1) (by rw [← e2] at hn; exact hn.1)
        · exact ih hn.2 e1 e2
    exact this _ hnd h1 h2
  have own_none : ∀ x, scope.names.lookup x ≠ some .cell → (cellsFrom (h.objs.size + 1) scope.names []).lookup x = none := by
    intro x hx
    cases hc : (cellsFrom (h.objs.size + 1) scope.names []).lookup x with
    | none => rfl
    | some c =>
      exfalso
      have h1 := (cellsFrom_mem _ _ _ _ (mem_of_lookup hc)).1
      obtain ⟨k', h2⟩ := lookup_some_of_mem h1
      have := uniq _ _ _ (mem_of_lookup h2) h1
      rw [this] at h2
      exact hx h2
  have cases_cell : ∀ x c, (cellsFrom (h.objs.size + 1) scope.names (clGo env.cells scope.names [])).lookup x = some c →
      (cellsFrom (h.objs.size + 1) scope.names []).lookup x = some c ∨ ((cellsFrom (h.objs.size + 1) scope.names []).lookup x = none ∧ env.cells.lookup x = some c) := by
    intro x c hc
    rw [cellsFrom_app, lookup_app] at hc
    cases hq : (cellsFrom (h.objs.size + 1) scope.names []).lookup x with
    | some c' => rw [hq] at hc; simp at hc; exact .inl (by rw [hc])
    | none =>
      rw [hq] at hc
      simp only [Option.none_or] at hc
      exact .inr ⟨rfl, clGo_sound _ _ (fun _ _ e => by simp at e) x c hc⟩
  have outer_lt : ∀ x c, env.cells.lookup x = some c → @LT.lt Nat _ c h.objs.size := fun x c hc => let ⟨o, ho⟩ := R.ex x c hc; Heap.gt_lt ho
  have own_ge : ∀ x c, (cellsFrom (h.objs.size + 1) scope.names []).lookup x = some c → @LE.le Nat _ (h.objs.size + 1) c := fun x c hc => (ok.empty x c (mem_of_lookup hc)).2
  refine ⟨hkind, R.glob, R.blt, ⟨fun _ => none, ?_, ?_⟩, ?_, ?_, ?_, ?_, fun ho => ?_⟩
  · exact (Heap.Ns.new h (.type "dict")).keeps (pushCells_keeps _ _)
  · intro x hx
    have hx' : kindC env.kindOf scope x = some .local := by rw [← relabel_kind R.kind]; exact hx
    rw [kindC_eq] at hx'
    split
    · rename_i hf; rw [hf] at hx'; simp at hx'; split at hx' <;> cases hx'
    · rfl
  · intro x hx
    have hx' : kindC env.kindOf scope x = some .cell ∨ kindC env.kindOf scope x = some .free := by rw [← relabel_kind R.kind]; exact hx
    rw [kindC_eq] at hx'
    cases hq : scope.names.lookup x with
    | none => rw [hq] at hx'; simp at hx'
    | some k =>
      rw [hq] at hx'
      by_cases hf : k = .free
      · subst hf
        have hm := mem_of_lookup hq
        have hv := hfree _ hm
        simp only [bne_self_eq_false, Bool.false_or, Bool.or_eq_true, beq_iff_eq] at hv
        obtain ⟨c, h1, h2⟩ := R.cell x hv
        refine ⟨c, ?_, ?_⟩
        · show (cellsFrom _ _ _).lookup x = some c
          rw [cellsFrom_app, lookup_app, own_none x (by rw [hq]; simp)]
          simpa using clGo_has h1 scope.names [] (.inl hm)
        · rw [if_pos rfl]; exact Cell.keepAt h2 (keep _)
      · have hk : k = .cell := by
          have : (k == NameKind.free) = false := by simpa using hf
          simp [this, hf] at hx'
          exact hx'
        subst hk
        obtain ⟨c, hc⟩ := cellsFrom_has scope.names (h.objs.size + 1) x (mem_of_lookup hq)
        obtain ⟨c', hc'⟩ := lookup_some_of_mem hc
        refine ⟨c', ?_, ?_⟩
        · show (cellsFrom _ _ _).lookup x = some c'
          rw [cellsFrom_app, lookup_app, hc']; rfl
        · rw [if_neg (by simp)]
          exact (ok.empty x c' (mem_of_lookup hc')).1
  · intro x y' c h1 h2
    rcases cases_cell x c h1 with e1 | ⟨_, e1⟩ <;> rcases cases_cell y' c h2 with e2 | ⟨_, e2⟩
    · exact name_of_addr ok.apart (mem_of_lookup e1) (mem_of_lookup e2)
    · have := own_ge x c e1; have := outer_lt y' c e2; omega
    · have := own_ge y' c e2; have := outer_lt x c e1; omega
    · exact R.inj x y' c e1 e2
  · intro x c h1 e
    rcases cases_cell x c h1 with e1 | ⟨_, e1⟩
    · have := own_ge x c e1; have e' : @Eq Nat c h.objs.size := e; omega
    · have := outer_lt x c e1; have e' : @Eq Nat c h.objs.size := e; omega
  · intro x c h1
    rcases cases_cell x c h1 with e1 | ⟨_, e1⟩
    · exact gt_cell (ok.empty x c (mem_of_lookup e1)).1
    · obtain ⟨o, ho⟩ := R.ex x c e1; exact ⟨o, keep _ _ ho⟩
  · have ho : ordK (fun x => (relabel scope env).names.lookup x) = true := ho
    rw [relabel_kind R.kind, hord] at ho; cases ho
end Mine
namespace Mine
open PySem PySem.SeqAt

theorem compM_snoc (f : D → Option (Option D)) : ∀ (l : List D) (x : D), compM f (l ++ [x]) = (match compM f l, f x with
    | some ds, some (some d) => some (ds ++ [d])
    | some ds, some Option.none => some ds
    | _, _ => Option.none)
  | [], x => by
    simp only [List.nil_append, compM]
    cases f x with
    | none => rfl
    | some o => cases o <;> rfl
  | y :: l, x => by
    rw [List.cons_append, compM, compM, compM_snoc f l x]
    cases f y with
    | none => rfl
    | some o =>
      cases compM f l with
      | none => rfl
      | some ds =>
        cases f x with
        | none => rfl
        | some o' => cases o' <;> cases o <;> rfl
theorem compM_pre {f : D → Option (Option D)} : ∀ {a b : List D} {out : List D}, compM f (a ++ b) = some out → ∃ o, compM f a = some o
  | [], b, out, h => ⟨[], rfl⟩
  | x :: a, b, out, h => by
    rw [List.cons_append, compM] at h
    rw [compM]
    cases hx : f x with
    | none => rw [hx] at h; cases h
    | some o =>
      rw [hx] at h
      cases hab : compM f (a ++ b) with
      | none => rw [hab] at h; cases h
      | some ds =>
        obtain ⟨o', ho'⟩ := compM_pre hab
        rw [ho']
        exact ⟨_, rfl⟩
theorem compM_len {f : D → Option (Option D)} : ∀ {a : List D} {out : List D}, compM f a = some out → out.length ≤ a.length
  | [], out, h => by simp [compM] at h; simp [← h]
  | x :: a, out, h => by
    rw [compM] at h
    cases hx : f x with
    | none => rw [hx] at h; cases h
    | some o =>
      rw [hx] at h
      cases hab : compM f a with
      | none => rw [hab] at h; cases h
      | some ds =>
        rw [hab] at h
        have := compM_len hab
        cases o <;> (cases h; simp; omega)

theorem notSet_folded {e : Expr} {env : Env} (h : notSet e = true) : ∀ x, foldedSetIterable e env x = pure x := by
  intro x
  cases e <;> first | rfl | (cases h)
theorem notSet_marks {e : Expr} {op : CmpOp} (h : notSet e = true) : behindInMarks op e = false := by
  cases e <;> first | rfl | (cases h)

theorem nodup_lookup : ∀ {l : List (Str × NameKind)}, (l.map (·.1)).Nodup → ∀ p ∈ l, l.lookup p.1 = some p.2
  | q :: l, hn, p, hp => by
    simp only [List.map_cons, List.nodup_cons] at hn
    obtain ⟨a, b⟩ := q
    rw [lookup_cons']
    rcases List.mem_cons.mp hp with e | e
    · subst e; simp
    · split
      · rename_i q; exact absurd (List.mem_map_of_mem (f := (·.1)) e) (by rw [q]; exact hn.1)
      · exact nodup_lookup hn.2 p e

section
variable {prog : Program} {w : World} {A : Around} {E : Value → Shared → Prop} {s : Shared} {H : Addr → Prop}

/-- what holds ahead of each turn of a comprehension -/
inductive CompI (P : Params) (h1 : Heap) (H F : Addr → Prop) (I L : Addr) (its : List D) (St : Nat → Heap → Prop) (f : D → Option (Option D)) (cenv : Env) (m : Str → Option Value) (free : Str → Prop) (s : Shared) (k : Nat) : Shared → Prop
  | mk {h tk dw done rest o ys mC} (dr : its = done ++ rest) (st : St done.length h) (acc : h.PlainList L ys) (out : compM f done = some o) (rep : RepAll P h (fun b => H b ∨ F b) ys.toList o) (env : EnvRep h cenv mC) (fv : ∀ x, free x → mC x = m x) (kh : KH h1 h)
    (fx : ∀ b, F b → b ≠ I → ∃ o, gat h b = some o) (kn : k = its.length + 1 - done.length) : CompI P h1 H F I L its St f cenv m free s k { s with heap := h, toks := tk, drawn := dw }
theorem wp_kp {α : Type} {M : Model} {c : Sem α} {b : α} {X : Shared → Prop} {Q : α → Shared → Prop} (hq : wpAny M A c (fun ok s' => Keeps s s' ∧ ok = b ∧ X s') E s) (k : ∀ h tk dw, KH s.heap h → X { s with heap := h, toks := tk, drawn := dw } → Q b { s with heap := h, toks := tk, drawn := dw }) : wpAny M A c Q E s :=
  wpAny_mono hq (fun ok s' q => by obtain ⟨⟨h, tk, dw, rfl, hk⟩, rfl, x⟩ := q; exact k h tk dw hk x) fun _ _ e => e
theorem wp_post {M : Model} {c : Sem Value} {d : D} {Q : Value → Shared → Prop} (hq : wpAny M A c (Post w s H d) E s) (k : ∀ v h tk dw, KH s.heap h → Rep w.params h H v d → Q v { s with heap := h, toks := tk, drawn := dw }) : wpAny M A c Q E s :=
  wpAny_mono hq (fun v s' q => by obtain ⟨⟨h, tk, dw, rfl, hk⟩, x⟩ := q; exact k v h tk dw hk x) fun _ _ e => e
theorem comp_loop {cenv : Env} {m mC0 : Str → Option Value} {free : Str → Prop} {y : Str} {py pos : Pos} {it elt : Expr} {ifs : List Expr} {scope : Scope} {R : Result → Shared → Prop} {its out : List D} {f : D → Option (Option D)}
    {I L : Addr} {fp : List Addr} {P : Nat → Value → Prop} {St : Nat → Heap → Prop} {F : Addr → Prop} {h1 h4 : Heap} {tk4 : Nat} {dw4 : Drawn}
    (W : Walks prog w A I fp [I] its.length P St) (hfp : ∀ b ∈ fp, b = I ∨ (¬ H b ∧ ∃ o, gat h1 b = some o)) (hP : ∀ i v, i < its.length → P i v → ∃ d, its[i]? = some d ∧ Rep w.params h1 H v d)
    (hT : ∀ b ∈ fp, ∀ i h o, St i h → h.get? b = some o → isTab o = false) (hky : cenv.kindOf y = some .local ∨ cenv.kindOf y = some .cell) (hyf : ¬ free y)
    (hst : St 0 h4) (hacc : h4.PlainList L #[]) (RC : EnvRep h4 cenv mC0) (hfv : ∀ x, free x → mC0 x = m x)
    (FI : F I) (FL : F L) (FC : F cenv.locals) (Fy : ∀ c, cenv.cells.lookup y = some c → F c)
    (nIL : I ≠ L) (nIC : I ≠ cenv.locals) (nLC : L ≠ cenv.locals) (ncell : ∀ x c, cenv.cells.lookup x = some c → c ≠ L ∧ c ≠ I)
    (Ff : ∀ b, F b → gat h1 b = none) (Fx : ∀ b, F b → b ≠ I → ∃ o, gat h4 b = some o) (IC : @LE.le Nat _ I cenv.locals) (hH : Ex h1 H) (k01 : KH s.heap h1) (k14 : KH h1 h4)
    (hlen : its.length ≤ big) (hout : compM f its = some out)
    (helt : ∀ (s₂ : Shared) (mC : Str → Option Value) (H₂ : Addr → Prop) (v : Value) (dv : D) (r : Option D), dv ∈ its → f dv = some r → EnvRep s₂.heap cenv mC → mC y = some v → Rep w.params s₂.heap H₂ v dv →
      (∀ x, free x → mC x = m x) → Ex s₂.heap H₂ → Keeps s s₂ → (∀ a o, gat s.heap a = some o → H₂ a → H a) → ∀ E' : Value → Shared → Prop,
      wpAny (model prog w) A (forIn ifs true fun c r => if r = true then do let ok ← isTrue c cenv (eval c cenv); pure (ForInStep.yield ok) else pure (ForInStep.yield r))
        (fun ok s₃ => Keeps s₂ s₃ ∧ ok = r.isSome ∧ ∀ dr, r = some dr → wpAny (model prog w) A (eval elt cenv) (fun v' s₄ => Keeps s₃ s₄ ∧ Rep w.params s₄.heap H₂ v' dr) E' s₃) E' s₂)
    (hR : ∀ h' tk dw m', h'.Ns cenv.locals m' → OwnL w.params h' (fun b => H b ∨ F b) L out → (KH s.heap h') → R (.ok .next) { s with heap := h', toks := tk, drawn := dw }) :
    codeAny (model prog w) A (.compLoop (.ListComp elt [⟨.Name y py, it, ifs, 0⟩] scope pos) 0 (.ref I) (.ref L) cenv) R { s with heap := h4, toks := tk4, drawn := dw4 } := by
  refine codeAny_compLoop_tests
    (CompI w.params h1 H F I L its St f cenv m free s) (fun k s' q => ?_) (its.length + 1)
    (.mk (done := []) (rest := its) (o := []) (ys := #[]) rfl hst hacc rfl .nil RC hfv k14 Fx rfl)
  clear hst hacc RC hfv k14 Fx
  obtain @⟨h, tk, dw, done, rest, o, ys, mC, hits, hst', hacc', ho, hys, RC', hfv', k1h, Fx', kn⟩ := q
  refine Classical.byContradiction fun hG => ?_
  have hysl : ys.size = o.length := by have := hys.length; simpa using this
  have hol : o.length ≤ done.length := compM_len ho
  have hdl : done.length + rest.length = its.length := by rw [hits]; simp
  cases rest with
  | nil =>
    rw [List.append_nil] at hits
    rw [← hits, hout] at ho; cases ho
    rw [← hits] at hst' hol
    refine hG (W.done _ _ _ hst' fun h' tk' hk' => ?_)
    replace hk' := walk_lift W hT hst' hk'
    refine RC'.loc.elim fun ml hns => ?_
    replace hns := hns.1
    refine hR h' tk' dw ml (Ns.keepAt hns fun o e => hk' _ o (by simpa using Ne.symm nIC) e) ?_ fun b o e => hk' b o ?_ (k1h b o (k01 b o e))
    · obtain ⟨n, hL⟩ := hacc'
      refine ⟨ys, n, Heap.of_gt (hk' _ _ (by simpa using Ne.symm nIL) (Heap.gt_of hL)), Nat.le_trans hol hlen, ?_⟩
      exact hys.mono (fun a o' hn e => hk' a o' (fun q => hn (.inr (by simp at q; rw [q]; exact FI))) e) fun a o' _ q => q.elim id fun q => .inr (q ▸ FL)
    · intro q
      simp at q
      have := Ff I FI
      rw [← q, k01 b o e] at this; cases this
  | cons dv rest' =>
    have hlt : done.length < its.length := by rw [hits]; simp
    refine hG (W.item done.length _ _ _ hlt hst' fun v h₁ tk₁ hPv hst₁ hk₁ => ?_)
    clear hG
    refine Classical.byContradiction fun hG => ?_
    replace hk₁ := walk_lift W hT hst' hk₁
    obtain ⟨dv', e1, rv⟩ := hP _ v hlt hPv
    have : dv' = dv := by
      rw [hits] at e1
      simpa using e1.symm
    subst this
    have RC₁ : EnvRep h₁ cenv mC := RC'.keepsAt fun a o' ha e => hk₁ a o' (by
      simp only [List.mem_singleton]
      rcases ha with rfl | ⟨x, hx⟩
      · exact Ne.symm nIC
      · exact (ncell x a hx).2) e
    refine hG (wpAny_assign_Name (store_snd (s := { s with heap := h₁, toks := tk₁, drawn := dw }) RC₁ hky fun h₂ tk₂ dw₂ a RC₂ ha hs₂ => ?_))
    clear hG
    refine Classical.byContradiction fun hG => ?_
    have Fa : F a := ha.elim (fun e => e ▸ FC) fun e => Fy a e
    have aI : a ≠ I := ha.elim (fun e => e ▸ Ne.symm nIC) fun e => (ncell y a e).2
    have aL : a ≠ L := ha.elim (fun e => e ▸ Ne.symm nLC) fun e => (ncell y a e).1
    have nF1 : ∀ b o', gat h1 b = some o' → ¬ F b := fun b o' e q => by have := Ff b q; rw [e] at this; cases this
    have k12 : KH h1 h₂ := fun b o' e => (hs₂.g b (fun q => nF1 b o' e (q ▸ Fa))).trans (hk₁ b o' (by simp only [List.mem_singleton]; rintro rfl; exact nF1 _ _ e FI) (k1h b o' e))
    have hst₂ : St (done.length + 1) h₂ := walks_frame W hT _ _ _ hst₁ fun b hb o' e => by
      refine (hs₂.g b fun q => ?_).trans e
      rcases hfp b hb with e2 | ⟨_, o2, e2⟩
      · exact aI (q ▸ e2)
      · exact nF1 b o2 e2 (q ▸ Fa)
    have Fx₂ : ∀ b, F b → b ≠ I → ∃ o', gat h₂ b = some o' := fun b hb hbI => by
      obtain ⟨o', e⟩ := Fx' b hb hbI
      have e1 := hk₁ b o' (by simpa using hbI) e
      by_cases q : b = a
      · rcases ha with e2 | e2
        · obtain ⟨_, e3, _⟩ := RC₂.loc
          obtain ⟨o2, e3⟩ := gt_ns e3
          exact ⟨_, by rw [q, e2]; exact e3⟩
        · obtain ⟨o2, e3⟩ := RC₂.ex y a e2
          exact ⟨o2, by rw [q]; exact e3⟩
      · exact ⟨o', (hs₂.g b q).trans e1⟩
    have hmem : dv' ∈ its := by rw [hits]; simp
    have hfd : ∃ r, f dv' = some r ∧ compM f (done ++ [dv']) = some (match r with | some x => o ++ [x] | Option.none => o) := by
      rw [hits, show done ++ dv' :: rest' = (done ++ [dv']) ++ rest' by simp] at hout
      obtain ⟨o', ho'⟩ := compM_pre hout
      have h2 := ho'
      rw [compM_snoc, ho] at ho'
      cases hf : f dv' with
      | none => rw [hf] at ho'; cases ho'
      | some r =>
        refine ⟨r, rfl, ?_⟩
        rw [hf] at ho'
        rw [h2]
        cases r <;> (cases ho'; rfl)
    obtain ⟨r, hfr, hnext⟩ := hfd
    have hH₂ : Ex h₂ (fun b => H b ∨ F b) := fun b hb => hb.elim (fun q => let ⟨b', o', hb', e⟩ := hH b q; ⟨b', o', hb', k12 b' o' e⟩) fun q => by
      by_cases hbI : b = I
      · obtain ⟨o', e⟩ := Fx₂ _ FC (Ne.symm nIC)
        exact ⟨_, o', hbI ▸ IC, e⟩
      · obtain ⟨o', e⟩ := Fx₂ b q hbI
        exact ⟨b, o', Nat.le_refl _, e⟩
    have rv₂ : Rep w.params h₂ (fun b => H b ∨ F b) v dv' := rv.mono (fun b o' _ e => k12 b o' e) fun b o' e q => q.elim id fun q => absurd q (nF1 b o' e)
    refine hG (wp_kp (s := { s with heap := h₂, toks := tk₂, drawn := dw₂ }) (helt { s with heap := h₂, toks := tk₂, drawn := dw₂ } (upd mC y v) (fun b => H b ∨ F b) v dv' r hmem hfr RC₂ (by simp [upd]) rv₂ (fun x hx => by
      have : x ≠ y := fun e => hyf (e ▸ hx)
      simp [upd, this, hfv' x hx]) hH₂ ⟨h₂, tk₂, dw₂, rfl, fun b o' e => k12 b o' (k01 b o' e)⟩ (fun b o' e q => q.elim id fun q => absurd q (nF1 b o' (k01 b o' e))) _) fun h₃ tk₃ dw₃ k23 he3 => ?_)
    clear hG
    have hys₂ : RepAll w.params h₂ (fun b => H b ∨ F b) ys.toList o := hys.mono (fun b o' hn e => (hs₂.g b fun q => hn (.inr (q ▸ Fa))).trans (hk₁ b o' (by simp only [List.mem_singleton]; rintro rfl; exact hn (.inr FI)) e)) fun _ _ _ q => q
    have hacc₂ : h₂.PlainList L ys := by
      obtain ⟨n, hL⟩ := hacc'
      exact ⟨n, Heap.of_gt ((hs₂.g L (Ne.symm aL)).trans (hk₁ _ _ (by simpa using Ne.symm nIL) (Heap.gt_of hL)))⟩
    have hacc₃ : h₃.PlainList L ys := let ⟨n, hL⟩ := hacc₂; ⟨n, Heap.of_gt (k23 _ _ (Heap.gt_of hL))⟩
    cases r with
    | none =>
      simp only [Option.isSome_none, Bool.false_eq_true, if_false]
      refine ⟨its.length + 1 - (done.length + 1), by rw [kn]; omega, .mk (done := done ++ [dv']) (rest := rest') (by rw [hits]; simp) ?_ hacc₃ hnext (hys₂.keeps k23) (RC₂.keeps k23) ?_ (fun b o' e => k23 _ _ (k12 b o' e)) (fun b hb hbI => (Fx₂ b hb hbI).elim fun o' e => ⟨o', k23 _ _ e⟩) (by simp)⟩
      · have := walks_frame W hT _ _ h₃ hst₂ fun b _ o' e => k23 b o' e
        simpa using this
      · intro x hx
        have : x ≠ y := fun e => hyf (e ▸ hx)
        simp [upd, this, hfv' x hx]
    | some dr =>
      simp only [Option.isSome_some, if_true]
      refine wp_post (s := { s with heap := h₃, toks := tk₃, drawn := dw₃ }) (he3 dr rfl) fun x h₄ tk₄ dw₄ k34 rx => ?_
      have hacc₄ : h₄.PlainList L ys := let ⟨n, hL⟩ := hacc₃; ⟨n, Heap.of_gt (k34 _ _ (Heap.gt_of hL))⟩
      refine wpAny_list_append_plain hacc₄ (fun h₅ hl₅ hs₅' => ?_) (by
        have e9 : big = sizeLine := rfl
        omega)
      have hs₅ : Heap.SB L h₄ h₅ := ⟨hs₅', let ⟨_, e⟩ := hacc₄; notTab_at e, let ⟨_, e⟩ := hl₅; notTab_at e⟩
      have notL : ∀ {b}, ¬ (H b ∨ F b) → b ≠ L := fun hn q => hn (.inr (q ▸ FL))
      refine ⟨its.length + 1 - (done.length + 1), by rw [kn]; omega, .mk (done := done ++ [dv']) (rest := rest') (o := o ++ [dr]) (by rw [hits]; simp) ?_ hl₅ hnext ?_ ((RC₂.keeps fun b o' e => k34 _ _ (k23 b o' e)).keepsAt fun b o' hb e => (hs₅.g b ?_).trans e) ?_ ?_ ?_ (by simp)⟩
      · have := walks_frame W hT _ _ h₅ hst₂ fun b hb o' e => (hs₅.g b ?_).trans (k34 _ _ (k23 b o' e))
        · simpa using this
        · rcases hfp b hb with e2 | ⟨_, o2, e2⟩
          · rw [e2]; exact nIL
          · rintro rfl; exact nF1 _ _ e2 FL
      · have r1 := (hys₂.keeps k23).keeps k34
        have r2 : RepAll w.params h₄ (fun b => H b ∨ F b) (ys.toList ++ [x]) (o ++ [dr]) := r1.append (.cons rx .nil)
        have r3 := r2.mono (h' := h₅) (H' := fun b => H b ∨ F b) (fun b o' hn e => (hs₅.g b (notL hn)).trans e) fun _ _ _ q => q
        simpa using r3
      · rcases hb with rfl | ⟨z, hz⟩
        · exact Ne.symm nLC
        · exact (ncell z b hz).1
      · intro z hz
        have : z ≠ y := fun e => hyf (e ▸ hz)
        simp [upd, this, hfv' z hz]
      · exact fun b o' e => (hs₅.g b (fun q => nF1 b o' e (q ▸ FL))).trans (k34 _ _ (k23 _ _ (k12 b o' e)))
      · intro b hb hbI
        by_cases q : b = L
        · obtain ⟨n, hL⟩ := hl₅; exact ⟨_, q ▸ Heap.gt_of hL⟩
        · obtain ⟨o', e⟩ := Fx₂ b hb hbI
          exact ⟨o', (hs₅.g b q).trans (k34 _ _ (k23 _ _ e))⟩

theorem wp_iter {M : Model} {c : Sem Value} {its : List D} {Q : Value → Shared → Prop} (hq : wpAny M A c (fun v s₂ => ∃ I, v = .ref I ∧ IterAt prog w A s H its I s₂) E s)
    (k : ∀ I h tk dw, KH s.heap h → IterAt prog w A s H its I { s with heap := h, toks := tk, drawn := dw } → Q (.ref I) { s with heap := h, toks := tk, drawn := dw }) : wpAny M A c Q E s :=
  wpAny_mono hq (fun v s' q => by obtain ⟨I, rfl, IA⟩ := q; obtain ⟨h, tk, dw, rfl, hk⟩ := IA.keeps; exact k I h tk dw hk IA) fun _ _ e => e
theorem comp_core {env : Env} {m : Str → Option Value} {scope : Scope} {y : Str} {py pos ppos : Pos} {it elt : Expr} {ifs : List Expr} {use : Option (Value → Sem Unit)} {Q : Value → Shared → Prop} {d : D} {its out : List D} {f : D → Option (Option D)}
    (R : EnvRep s.heap env m) (hok : okScope env.kindOf scope y = true) (hset : notSet it = true) (hh : A.handled = none) (hH : Ex s.heap H)
    (hit : wpAny (model prog w) A (eval it env) (Post w s H d) E s) (hits : d.items = some its) (hlen : its.length ≤ big) (hout : compM f its = some out)
    (helt : ∀ (s₂ : Shared) (cenv : Env) (mC : Str → Option Value) (H₂ : Addr → Prop) (v : Value) (dv : D) (r : Option D), dv ∈ its → f dv = some r → cenv.kindOf = kindC env.kindOf scope → EnvRep s₂.heap cenv mC → mC y = some v → Rep w.params s₂.heap H₂ v dv →
      (∀ x, scope.names.lookup x = some .free → mC x = m x) → Ex s₂.heap H₂ → Keeps s s₂ → (∀ a o, gat s.heap a = some o → H₂ a → H a) → ∀ E' : Value → Shared → Prop,
      wpAny (model prog w) A (forIn ifs true fun c r => if r = true then do let ok ← isTrue c cenv (eval c cenv); pure (ForInStep.yield ok) else pure (ForInStep.yield r))
        (fun ok s₃ => Keeps s₂ s₃ ∧ ok = r.isSome ∧ ∀ dr, r = some dr → wpAny (model prog w) A (eval elt cenv) (fun v' s₄ => Keeps s₃ s₄ ∧ Rep w.params s₄.heap H₂ v' dr) E' s₃) E' s₂)
    (hQ : ∀ L C h' tk dw m', (∀ b o, gat s.heap b = some o → @LT.lt Nat _ b L) → gat s.heap C = none → L ≠ C → h'.Ns C m' → OwnL w.params h' (fun b => H b ∨ b = C) L out → (KH s.heap h') →
      compPost (model prog w) A E use Q (.ref L) C (.ok .next) { s with heap := h', toks := tk, drawn := dw }) :
    wpAny (model prog w) A (comprehension (.ListComp elt [⟨.Name y py, it, ifs, 0⟩] scope pos) scope env ppos (newList []) false (eval it env) use) Q E s := by
  have hok' := hok
  unfold okScope at hok'
  simp only [Bool.and_eq_true, decide_eq_true_eq, beq_iff_eq, List.all_eq_true, Bool.or_eq_true] at hok'
  obtain ⟨⟨⟨⟨⟨hkind, hnodup⟩, hy⟩, hfree⟩, _⟩, _⟩ := hok'
  refine wpAny_comprehension_free (cl := clGo env.cells scope.names []) rfl (notSet_folded hset) (closureFor_go fun p hp hf => ?_) hkind (fun x hx hl => by rw [nodup_lookup hnodup x hx, hl]) ?_
  · have hv := hfree p hp
    simp only [hf, bne_self_eq_false, Bool.false_eq_true, false_or] at hv
    obtain ⟨c, h1, _⟩ := R.cell p.1 hv
    exact ⟨c, h1⟩
  refine wp_post hit fun xv h1 tk1 dw1 k01 rep1 => ?_
  refine wp_iter (iter_snd (s := { s with heap := h1, toks := tk1, drawn := dw1 }) (prog := prog) (E := E) rep1 hh hits) fun I h2 tk2 dw2 k12 IA => ?_
  refine wpAny_newObj_type (newEnvA ?_)
  dsimp only
  generalize hh3 : h2.push { cls := .type "list", dict := none, data := .seq ([] : List Value).toArray } = h3
  refine Classical.byContradiction fun hG => ?_
  obtain ⟨fp, P, St, W, hst, hfp, hP, _, hT⟩ := IA.walk
  dsimp only at hst hfp hP
  have R3 : EnvRep h3 env m := (R.keeps k01).keeps fun b o e => hh3 ▸ Heap.gt_push_of_some _ (k12 b o e)
  have RC := compEnv_rep (y := y) R3 hok
  have size3 : h3.objs.size = h2.objs.size + 1 := by rw [← hh3, Heap.size_push]
  obtain ⟨oI, hI⟩ := IA.ex
  dsimp only at hI
  have I_lt : @LT.lt Nat _ I h2.objs.size := Heap.gt_lt hI
  have ok := cells_facts h3 scope { cls := .type "dict", data := .dict #[] }
  have k34 : ∀ b o, gat h3 b = some o → gat (pushCells (h3.push { cls := .type "dict", data := .dict #[] }) scope.names) b = some o := fun b o e => Heap.gt_up (pushCells_keeps _ _) b o (Heap.gt_push_of_some _ e)
  have k23 : KH h2 h3 := fun b o e => hh3 ▸ Heap.gt_push_of_some _ e
  have hL3 : h3.get? h2.objs.size = some (lstO #[] 0) := by rw [← hh3]; exact Heap.get?_push_size _ rfl
  have lt1 : ∀ b o, gat h1 b = some o → @LT.lt Nat _ b h2.objs.size := fun b o e => Heap.gt_lt (k12 b o e)
  have own_ge : ∀ x c, (x, c) ∈ cellsFrom (h3.objs.size + 1) scope.names [] → @LE.le Nat _ (h3.objs.size + 1) c := fun x c hc => (ok.empty x c hc).2
  have cellb : ∀ x c, (cellsFrom (h3.objs.size + 1) scope.names (clGo env.cells scope.names [])).lookup x = some c → (x, c) ∈ cellsFrom (h3.objs.size + 1) scope.names [] ∨ (∃ o, gat h1 c = some o ∧ True) := by
    intro x c hc
    rw [cellsFrom_app, lookup_app] at hc
    cases hq : (cellsFrom (h3.objs.size + 1) scope.names []).lookup x with
    | some c' => rw [hq] at hc; simp at hc; exact .inl (hc ▸ mem_of_lookup hq)
    | none =>
      rw [hq] at hc
      simp only [Option.none_or] at hc
      obtain ⟨o, ho⟩ := R.ex x c (clGo_sound _ _ (fun _ _ e => by simp at e) x c hc)
      exact .inr ⟨o, k01 _ _ ho, trivial⟩
  have hcellfacts : ∀ x c, (cellsFrom (h3.objs.size + 1) scope.names (clGo env.cells scope.names [])).lookup x = some c → c ≠ h2.objs.size ∧ c ≠ I := by
    intro x c hc
    rcases cellb x c hc with e | ⟨o, e, _⟩
    · have := own_ge x c e
      constructor
      · rintro rfl; omega
      · rintro rfl; omega
    · have := lt1 c o e
      constructor
      · rintro rfl; exact Nat.lt_irrefl _ this
      · rintro rfl; have := IA.fresh; dsimp only at this; rw [e] at this; cases this
  have nIC : I ≠ h3.objs.size := by rintro rfl; omega
  have nLC : h2.objs.size ≠ h3.objs.size := by omega
  have nIL : I ≠ h2.objs.size := by rintro rfl; exact Nat.lt_irrefl _ I_lt
  have hkC : (fun x => (relabel scope env).names.lookup x) = kindC env.kindOf scope := relabel_kind R.kind
  have ynf : scope.names.lookup y ≠ some .free := by rcases hy with e | e <;> (rw [e]; simp)
  have none_of : ∀ b, (∀ o, gat h1 b ≠ some o) → gat h1 b = none := fun b hb => by
    cases e : gat h1 b with
    | none => rfl
    | some o => exact absurd e (hb o)
  have loop : ∀ tk4 dw4, codeAny (model prog w) A (.compLoop (.ListComp elt [⟨.Name y py, it, ifs, 0⟩] scope pos) 0 (.ref I) (.ref h2.objs.size)
      { scope := relabel scope env, locals := h3.objs.size, globals := env.globals, cells := cellsFrom (h3.objs.size + 1) scope.names (clGo env.cells scope.names []), qual := env.qual, func := none, code := env.code, frame := env.frame, builtins := env.builtins })
      (compPost (model prog w) A E use Q (.ref h2.objs.size) h3.objs.size) { s with heap := pushCells (h3.push { cls := .type "dict", data := .dict #[] }) scope.names, toks := tk4, drawn := dw4 } := by
    intro tk4 dw4
    refine comp_loop (s := s) (H := H) (m := m) (free := fun x => scope.names.lookup x = some .free) (F := fun b => b = I ∨ b = h2.objs.size ∨ b = h3.objs.size ∨ ∃ x, (x, b) ∈ cellsFrom (h3.objs.size + 1) scope.names []) (h1 := h1) (mC0 := fun x => if scope.names.lookup x = some .free then m x else none)
      W hfp hP hT ?_ ynf ?_ ?_ RC (fun x hx => by simp [hx]) (.inl rfl) (.inr (.inl rfl)) (.inr (.inr (.inl rfl))) ?_ nIL nIC nLC hcellfacts ?_ ?_ (by show @LE.le Nat _ I h3.objs.size; omega) (hH.keeps k01) k01 (fun b o e => k34 b o (k23 b o (k12 b o e))) hlen hout ?_ ?_
    · show (fun x => (relabel scope env).names.lookup x) y = _ ∨ (fun x => (relabel scope env).names.lookup x) y = _
      rw [hkC, kindC_eq]
      rcases hy with e | e
      · exact .inl (by rw [e]; rfl)
      · exact .inr (by rw [e]; rfl)
    · refine walks_frame W hT _ _ _ hst fun b _ o e => k34 b o (k23 b o e)
    · exact ⟨0, Heap.of_gt (k34 _ _ (Heap.gt_of hL3))⟩
    · intro c hc
      rcases cellb y c hc with e | ⟨o, e, _⟩
      · exact .inr (.inr (.inr ⟨y, e⟩))
      · exfalso
        have hc' : (cellsFrom (h3.objs.size + 1) scope.names (clGo env.cells scope.names [])).lookup y = some c := hc
        rw [cellsFrom_app, lookup_app] at hc'
        have hym : scope.names.lookup y = some .cell := by
          rcases hy with e1 | e1
          · exfalso
            have hno : (cellsFrom (h3.objs.size + 1) scope.names []).lookup y = none := by
              cases hq : (cellsFrom (h3.objs.size + 1) scope.names []).lookup y with
              | none => rfl
              | some c' =>
                have h5 := (cellsFrom_mem _ _ _ _ (mem_of_lookup hq)).1
                have h6 := nodup_lookup hnodup _ h5
                simp only at h6
                rw [e1] at h6; cases h6
            rw [hno] at hc'
            simp only [Option.none_or] at hc'
            rcases clGo_mem _ _ _ _ hc' with q | q
            · have h6 := nodup_lookup hnodup _ q
              simp only at h6
              rw [e1] at h6; cases h6
            · simp at q
          · exact e1
        obtain ⟨c2, hc2⟩ := cellsFrom_has scope.names (h3.objs.size + 1) y (mem_of_lookup hym)
        obtain ⟨c3, hc3⟩ := lookup_some_of_mem hc2
        rw [hc3] at hc'
        simp at hc'
        subst hc'
        have := own_ge y c3 (mem_of_lookup hc3)
        have := lt1 c3 o e
        omega
    · intro b hb
      refine none_of b fun o e => ?_
      have := lt1 b o e
      rcases hb with rfl | rfl | rfl | ⟨x, hx⟩
      · have := IA.fresh; dsimp only at this; rw [e] at this; cases this
      · exact Nat.lt_irrefl _ this
      · omega
      · have := own_ge x b hx; omega
    · intro b hb hbI
      rcases hb with rfl | rfl | rfl | ⟨x, hx⟩
      · exact absurd rfl hbI
      · exact ⟨_, k34 _ _ (Heap.gt_of hL3)⟩
      · obtain ⟨_, e, _⟩ := RC.loc
        exact gt_ns e
      · exact gt_cell (ok.empty x b hx).1
    · intro s₂ mC H₂ v dv r hm hf RC' hv rv hfv hx kp hsub E'
      refine helt s₂ _ mC H₂ v dv r hm hf ?_ RC' hv rv hfv hx kp hsub E'
      exact hkC
    · intro h' tk dw m' hns hown hk
      refine hQ h2.objs.size h3.objs.size h' tk dw m' ?_ ?_ nLC hns ?_ hk
      · exact fun b o e => lt1 _ o (k01 _ o e)
      · cases e : gat s.heap h3.objs.size with
        | none => rfl
        | some o => have := lt1 _ o (k01 _ o e); omega
      · obtain ⟨vs, n, q1, q2, q3⟩ := hown
        exact ⟨vs, n, q1, q2, q3.mono (fun _ _ _ e => e) fun a o _ q => q.elim (fun q => q.elim (fun q => .inl (.inl q)) fun q => .inl (.inr (.inr (.inr (.inl q))))) fun q => .inr q⟩
  refine hG (codeAny_compStart_list (loop _ _) (W.self 0 _ _ _ ?_ (loop _ _)))
  exact walks_frame W hT _ _ _ hst fun b _ o e => k34 b o (k23 b o e)
end
end Mine
namespace Mine
open PySem PySem.SeqAt

noncomputable def bltNames : List String := ["len", "isinstance", "range", "tuple", "int", "str", "list", "bool", "set", "sum", "max", "min", "sorted", "reversed"]

structure GOk (mg mb : Str → Option Value) (h : Heap) : Prop where
  g : h.Ns mainGlobals mg
  b : h.Ns builtinsNs mb
  lim : h.NoLimit
  blt : ∀ f ∈ bltNames, mg (Str.ofString f) = none ∧ mb (Str.ofString f) = some (bltVal f)
  lam : h.IsCode oc tb #[] ∧ h.TableAt oc tb #[] ∧ h.BuiltinsAt mg tb

/-- the heap bears the base; the places in H are laid, and none of the base's -/
structure HOk (base h : Heap) (H : Addr → Prop) : Prop where
  keep : KH base h
  ex : Ex h H
  off : ∀ b o, gat base b = some o → ¬ H b
theorem HOk.keeps {base h h' : Heap} {H : Addr → Prop} (x : HOk base h H) (hk : KH h h') : HOk base h' H :=
  ⟨fun b o e => hk b o (x.keep b o e), x.ex.keeps hk, x.off⟩

theorem NoLimit.keepG {h h' : Heap} (x : h.NoLimit) (hk : KH h h') : h'.NoLimit := let ⟨mc, h1, h2⟩ := x; ⟨mc, Ns.keepAt h1 (hk _), h2⟩
structure CSound (prog : Program) (w : World) (base : Heap) (mg : Str → Option Value) (cf : CF) (A : Around) : Prop where
  call : ∀ f ds d fr, cf.call f ds = some (d, fr) → ∃ a o fd, mg (Str.ofString f) = some (.ref a) ∧ gat base a = some o ∧ o.data = .func fd ∧
    ∀ A', Near A A' → ∀ (s : Shared) (H : Addr → Prop) (vs : List Value) (E : Value → Shared → Prop), HOk base s.heap H → RepAll w.params s.heap H vs ds →
      wpAny (model prog w) A' (PySem.call (.ref a) vs) (PostF w s H d fr) E s
  glob : ∀ x d, cf.glob x = some d → ∃ v, mg (Str.ofString x) = some v ∧ Rep w.params base (fun _ => False) v d

/-- calls, at one place alone -/
noncomputable def CS0 (prog : Program) (w : World) (base : Heap) (mg : Str → Option Value) (cf : CF) (A : Around) : Prop := ∀ f ds d fr, cf.call f ds = some (d, fr) → ∃ a o fd, mg (Str.ofString f) = some (.ref a) ∧ gat base a = some o ∧ o.data = .func fd ∧
    ∀ (s : Shared) (H : Addr → Prop) (vs : List Value) (E : Value → Shared → Prop), HOk base s.heap H → RepAll w.params s.heap H vs ds →
      wpAny (model prog w) A (PySem.call (.ref a) vs) (PostF w s H d fr) E s
theorem CSound.at {prog : Program} {w : World} {base : Heap} {mg : Str → Option Value} {cf : CF} {A A' : Around} (C : CSound prog w base mg cf A) (hN : Near A A') : CS0 prog w base mg cf A' :=
  fun f ds d fr h => let ⟨a, o, fd, h1, h2, h3, h4⟩ := C.call f ds d fr h; ⟨a, o, fd, h1, h2, h3, h4 A' hN⟩
/-- what is known of the variables that are read -/
noncomputable def NV (P : Params) (k : KD) (ns : List String) (ρ : List (String × D)) (m : Str → Option Value) (h : Heap) (H : Addr → Prop) : Prop :=
  ∀ x ∈ ns, isVar k (Str.ofString x) = true → ∀ d, ρ.lookup x = some d → ∃ v, m (Str.ofString x) = some v ∧ Rep P h H v d
theorem NV.sub {P : Params} {k : KD} {ns ns' : List String} {ρ : List (String × D)} {m : Str → Option Value} {h : Heap} {H : Addr → Prop} (n : NV P k ns ρ m h H) (hs : ∀ x ∈ ns', x ∈ ns) : NV P k ns' ρ m h H :=
  fun x hx => n x (hs x hx)
theorem NV.keeps {P : Params} {k : KD} {ns : List String} {ρ : List (String × D)} {m : Str → Option Value} {h h' : Heap} {H : Addr → Prop} (n : NV P k ns ρ m h H) (hk : KH h h') : NV P k ns ρ m h' H :=
  fun x hx hv d hd => let ⟨v, h1, h2⟩ := n x hx hv d hd; ⟨v, h1, h2.keeps hk⟩

section
variable {prog : Program} {w : World} {A : Around} {s : Shared} {base : Heap} {mg mb : Str → Option Value} {cf : CF}

/-- a run of an expression is sound -/
noncomputable def SE (prog : Program) (w : World) (A : Around) (base : Heap) (cf : CF) (me : ME) : Prop :=
  ∀ (s : Shared) (env : Env) (e : Expr) (H : Addr → Prop) (ρ : List (String × D)) (m : Str → Option Value) (d : D) (E : Value → Shared → Prop), chkE env.kindOf e me = true → EnvRep s.heap env m →
    HOk base s.heap H → NV w.params env.kindOf me.names ρ m s.heap H → evE cf ρ me = some d → wpAny (model prog w) A (eval e env) (Post w s H d) E s
noncomputable def SEs (prog : Program) (w : World) (A : Around) (base : Heap) (cf : CF) (ms : List ME) : Prop :=
  ∀ (s : Shared) (env : Env) (es : List Expr) (H : Addr → Prop) (ρ : List (String × D)) (m : Str → Option Value) (ds : List D) (E : Value → Shared → Prop), chkEs env.kindOf es ms = true → EnvRep s.heap env m →
    HOk base s.heap H → NV w.params env.kindOf (namesL ms) ρ m s.heap H → evEs cf ρ ms = some ds →
    wpAny (model prog w) A (spliced (es.map fun e => (false, eval e env))) (fun vs s' => Keeps s s' ∧ RepAll w.params s'.heap H vs ds) E s
noncomputable def ST (prog : Program) (w : World) (A : Around) (base : Heap) (cf : CF) (me : ME) : Prop :=
  ∀ (s : Shared) (env : Env) (e : Expr) (H : Addr → Prop) (ρ : List (String × D)) (m : Str → Option Value) (d : D) (t : Bool) (E : Value → Shared → Prop), chkE env.kindOf e me = true → EnvRep s.heap env m →
    HOk base s.heap H → NV w.params env.kindOf me.names ρ m s.heap H → evE cf ρ me = some d → truth d = some t →
    wpAny (model prog w) A (isTrue e env (eval e env)) (fun b s' => Keeps s s' ∧ b = t) E s
noncomputable def SB (prog : Program) (w : World) (A : Around) (base : Heap) (cf : CF) (ms : List ME) : Prop :=
  ∀ (s : Shared) (env : Env) (es : List Expr) (op : BoolOp) (pos : Pos) (H : Addr → Prop) (ρ : List (String × D)) (m : Str → Option Value) (d : D) (E : Value → Shared → Prop), chkEs env.kindOf es ms = true → EnvRep s.heap env m →
    HOk base s.heap H → NV w.params env.kindOf (namesL ms) ρ m s.heap H → evBop cf ρ op ms = some d →
    wpAny (model prog w) A (eval (.BoolOp op es pos) env) (Post w s H d) E s ∧ ∀ t whole, truth d = some t → wpAny (model prog w) A (isTrue (.BoolOp op es pos) env whole) (fun b s' => Keeps s s' ∧ b = t) E s
noncomputable def SC (prog : Program) (w : World) (A : Around) (base : Heap) (cf : CF) (ms : List ME) : Prop :=
  ∀ (s : Shared) (env : Env) (es : List Expr) (H : Addr → Prop) (ρ : List (String × D)) (m : Str → Option Value) (t : Bool) (E : Value → Shared → Prop), chkEs env.kindOf es ms = true → EnvRep s.heap env m →
    HOk base s.heap H → NV w.params env.kindOf (namesL ms) ρ m s.heap H → evCs cf ρ ms = some t →
    wpAny (model prog w) A (forIn es true fun c r => if r = true then do let ok ← isTrue c env (eval c env); pure (ForInStep.yield ok) else pure (ForInStep.yield r)) (fun b s' => Keeps s s' ∧ b = t) E s

/-! leaves -/
theorem se_var (x : String) : SE prog w A base cf (.var x) := by
  intro s env e H ρ m d E hc R hb hn he
  replace hc := inv_var hc; obtain ⟨hv⟩ := hc
  · rw [ev_var] at he
    obtain ⟨v, h1, h2⟩ := hn x (by simp [nm_var, nm_lcp]) hv d he
    exact load_snd R hv h1 ⟨Kp.refl _, h2⟩
theorem se_glob (G : GOk mg mb base) (C : CSound prog w base mg cf A) (x : String) : SE prog w A base cf (.glob x) := by
  intro s env e H ρ m d E hc R hb hn he
  replace hc := inv_glob hc; obtain ⟨hg⟩ := hc
  · obtain ⟨hv, hd⟩ := isGlob_of hg
    rw [ev_glob] at he
    obtain ⟨v, h1, h2⟩ := C.glob x d he
    refine Calls.Name_function_global R.kind hv (Calls.loadGlobal_global (mg := mg) (by rw [R.glob]; exact Ns.keepAt G.g (hb.keep _)) h1 ⟨Kp.refl _, ?_⟩) (by simpa using hd)
    exact h2.mono (fun a o _ e => hb.keep a o e) fun a o e q => absurd q (hb.off a o e)
theorem se_int (i : Int) : SE prog w A base cf (.int i) := by
  intro s env e H ρ m d E hc R hb hn he
  replace hc := inv_int hc; cases hc
  · cases he
    exact wpAny_Constant_int ⟨Kp.tok _ _, .int _ _⟩
theorem se_str (x : String) : SE prog w A base cf (.str x) := by
  intro s env e H ρ m d E hc R hb hn he
  replace hc := inv_str hc; cases hc
  · cases he
    exact Calls.Constant_str ⟨Kp.tok _ _, .str _ _⟩
theorem se_bool (b : Bool) : SE prog w A base cf (.bool b) := by
  intro s env e H ρ m d E hc R hb hn he
  replace hc := inv_bool hc; cases hc
  · cases he
    exact PyProof.Rows.Constant_bool ⟨Kp.refl _, .bool _⟩
theorem se_none : SE prog w A base cf .none := by
  intro s env e H ρ m d E hc R hb hn he
  replace hc := inv_none hc; cases hc
  · cases he
    exact PyProof.Rows.Constant_none ⟨Kp.refl _, .none⟩

noncomputable def ME.plain : ME → Bool
  | .not _ | .bop _ _ | .cmp _ _ _ => false
  | .cc _ _ _ _ _ => false
  | _ => true
noncomputable def ME.isComp : ME → Bool
  | .comp _ _ _ _ => true
  | _ => false
/-- an expression of the language: no star, plain as a test, no comprehension -/
structure Looks (e : Expr) (me : ME) : Prop where
  star : ∀ es env, starEach (e :: es) env = (false, eval e env) :: starEach es env
  test : me.plain = true → ∀ env whole, isTrue e env whole = (do let v ← whole; standAt e.pos; holding [v] (truthy v))
  swap : me.isComp = false → ∀ t l env, swapsWith e t l env = pure false
theorem looks {k : KD} {e : Expr} {me : ME} (h : chkE k e me = true) : Looks e me := by
  cases me with
  | var => replace h := inv_var h; cases h; exact ⟨fun _ _ => rfl, fun _ _ _ => rfl, fun _ _ _ _ => rfl⟩
  | glob => replace h := inv_glob h; cases h; exact ⟨fun _ _ => rfl, fun _ _ _ => rfl, fun _ _ _ _ => rfl⟩
  | int => replace h := inv_int h; cases h; exact ⟨fun _ _ => rfl, fun _ _ _ => rfl, fun _ _ _ _ => rfl⟩
  | str => replace h := inv_str h; cases h; exact ⟨fun _ _ => rfl, fun _ _ _ => rfl, fun _ _ _ _ => rfl⟩
  | bool => replace h := inv_bool h; cases h; exact ⟨fun _ _ => rfl, fun _ _ _ => rfl, fun _ _ _ _ => rfl⟩
  | none => replace h := inv_none h; cases h; exact ⟨fun _ _ => rfl, fun _ _ _ => rfl, fun _ _ _ _ => rfl⟩
  | bin => replace h := inv_bin h; cases h; exact ⟨fun _ _ => rfl, fun _ _ _ => rfl, fun _ _ _ _ => rfl⟩
  | cmp => replace h := inv_cmp h; cases h; exact ⟨fun _ _ => rfl, nofun, fun _ _ _ _ => rfl⟩
  | bop => replace h := inv_bop h; cases h; exact ⟨fun _ _ => rfl, nofun, fun _ _ _ _ => rfl⟩
  | not => replace h := inv_not h; cases h; exact ⟨fun _ _ => rfl, nofun, fun _ _ _ _ => rfl⟩
  | neg => replace h := inv_neg h; cases h; exact ⟨fun _ _ => rfl, fun _ _ _ => rfl, fun _ _ _ _ => rfl⟩
  | tup => replace h := inv_tup h; cases h; exact ⟨fun _ _ => rfl, fun _ _ _ => rfl, fun _ _ _ _ => rfl⟩
  | lst => replace h := inv_lst h; cases h; exact ⟨fun _ _ => rfl, fun _ _ _ => rfl, fun _ _ _ _ => rfl⟩
  | dct => replace h := inv_dct h; cases h; exact ⟨fun _ _ => rfl, fun _ _ _ => rfl, fun _ _ _ _ => rfl⟩
  | sub => replace h := inv_sub h; cases h; exact ⟨fun _ _ => rfl, fun _ _ _ => rfl, fun _ _ _ _ => rfl⟩
  | sl => replace h := inv_sl h; cases h; exact ⟨fun _ _ => rfl, fun _ _ _ => rfl, fun _ _ _ _ => rfl⟩
  | comp => replace h := inv_comp h; cases h; exact ⟨fun _ _ => rfl, fun _ _ _ => rfl, nofun⟩
  | call => replace h := inv_call h; cases h; exact ⟨fun _ _ => rfl, fun _ _ _ => rfl, fun _ _ _ _ => rfl⟩
  | blt => replace h := inv_blt h; cases h; exact ⟨fun _ _ => rfl, fun _ _ _ => rfl, fun _ _ _ _ => rfl⟩
  | isi => replace h := inv_isi h; cases h; exact ⟨fun _ _ => rfl, fun _ _ _ => rfl, fun _ _ _ _ => rfl⟩
  | lcp => replace h := inv_lcp h; cases h; exact ⟨fun _ _ => rfl, fun _ _ _ => rfl, fun _ _ _ _ => rfl⟩
  | sset => replace h := inv_sset h; cases h; exact ⟨fun _ _ => rfl, fun _ _ _ => rfl, fun _ _ _ _ => rfl⟩
  | cc => replace h := inv_cc h; cases h; exact ⟨fun _ _ => rfl, nofun, fun _ _ _ _ => rfl⟩
theorem star_cons {k : KD} {e : Expr} {a : ME} (h : chkE k e a = true) {es : List Expr} {env : Env} : starEach (e :: es) env = (false, eval e env) :: starEach es env := (looks h).star es env
theorem spliced_ok {es : List Expr} {ms : List ME} {k : KD} (hc : chkEs k es ms = true) (env : Env) : starEach es env = es.map fun e => (false, eval e env) := by
  induction ms generalizing es with
  | nil => cases es with
    | nil => rfl
    | cons _ _ => simp [cs_nil, cs_cons, cs_consn] at hc
  | cons a r ih => cases es with
    | nil => simp [cs_nil, cs_cons, cs_consn] at hc
    | cons e es' =>
      simp only [cs_nil, cs_cons, cs_consn, Bool.and_eq_true] at hc
      rw [star_cons hc.1, ih hc.2]; rfl
theorem backTo_ok (pos : Pos) (es : List Expr) (env : Env) : backTo pos (es.map fun e => (false, eval e env)) = es.map fun e => (false, eval e env) := by
  unfold backTo
  rw [List.map_map]
  rfl

/-! nodes -/
noncomputable def SF (prog : Program) (w : World) (A : Around) (base : Heap) (cf : CF) (me : ME) : Prop :=
  ∀ (s : Shared) (env : Env) (e : Expr) (H : Addr → Prop) (ρ : List (String × D)) (m : Str → Option Value) (d : D) (fr : Bool) (E : Value → Shared → Prop), chkE env.kindOf e me = true → EnvRep s.heap env m →
    HOk base s.heap H → NV w.params env.kindOf me.names ρ m s.heap H → evF cf ρ me = some (d, fr) → wpAny (model prog w) A (eval e env) (PostF w s H d fr) E s
theorem sf_bin {op : Operator} {a b : ME} (ha : SE prog w A base cf a) (hb : SE prog w A base cf b) : SF prog w A base cf (.bin op a b) := by
  intro s env e H ρ m d fr E hc R hw hn he
  replace hc := inv_bin hc; obtain ⟨h1, h2⟩ := hc
  · rw [evF_bin, ev_bin, Option.map_eq_some_iff] at he
    obtain ⟨d', he, e'⟩ := he
    cases e'
    split at he
    · rename_i x hx
      split at he
      · rename_i y hy
        refine wpAny_BinOp (wpAny_mono (ha s env _ H ρ m x E h1 R hw (hn.sub fun _ hx => List.mem_append_left _ hx) hx) (fun v s₁ q₁ => ?_) fun _ _ e => e)
        refine wpAny_mono (hb s₁ env _ H ρ m y E h2 (R.keeps (Kp.heap q₁.1)) (hw.keeps (Kp.heap q₁.1)) ((hn.keeps (Kp.heap q₁.1)).sub fun _ hx => List.mem_append_right _ hx) hy) (fun v₂ s₂ q₂ => ?_) fun _ _ e => e
        exact wpAny_mono (bin_snd (q₁.2.keeps (Kp.heap q₂.1)) q₂.2 ((hw.keeps (Kp.heap q₁.1)).keeps (Kp.heap q₂.1)).ex he) (fun v₃ s₃ q₃ => q₃.after (Kp.trans q₁.1 q₂.1)) fun _ _ e => e
      · cases he
    · cases he

theorem se_cmp {op : CmpOp} {a b : ME} (hu : A.units + 1 < cLine) (ha : SE prog w A base cf a) (hb : SE prog w A base cf b) : SE prog w A base cf (.cmp op a b) := by
  intro s env e H ρ m d E hc R hw hn he
  replace hc := inv_cmp hc; obtain ⟨hs, h1, h2⟩ := hc
  · rw [ev_cmp] at he
    split at he
    · rename_i x hx
      split at he
      · rename_i y hy
        refine wpAny_Compare1 (wpAny_mono (ha s env _ H ρ m x E h1 R hw (hn.sub fun _ hx => List.mem_append_left _ hx) hx) (fun v s₁ q₁ => ?_) fun _ _ e => e) (notSet_marks hs)
        refine wpAny_mono (hb s₁ env _ H ρ m y E h2 (R.keeps (Kp.heap q₁.1)) (hw.keeps (Kp.heap q₁.1)) ((hn.keeps (Kp.heap q₁.1)).sub fun _ hx => List.mem_append_right _ hx) hy) (fun v₂ s₂ q₂ => ?_) fun _ _ e => e
        refine wpAny_mono (cmp_snd (q₁.2.keeps (Kp.heap q₂.1)) q₂.2 hu he) (fun v₃ s₃ q₃ => ⟨Kp.trans (Kp.trans q₁.1 q₂.1) q₃.1, q₃.2⟩) fun _ _ e => e
      · cases he
    · cases he
theorem st_cmp {op : CmpOp} {a b : ME} (hu : A.units + 1 < cLine) (ha : SE prog w A base cf a) (hb : SE prog w A base cf b) : ST prog w A base cf (.cmp op a b) := by
  intro s env e H ρ m d t E hc R hw hn he ht
  replace hc := inv_cmp hc; obtain ⟨hs, h1, h2⟩ := hc
  · rw [ev_cmp] at he
    split at he
    · rename_i x hx
      split at he
      · rename_i y hy
        refine wpAny_isTrue_Compare1 (wpAny_mono (ha s env _ H ρ m x E h1 R hw (hn.sub fun _ hx => List.mem_append_left _ hx) hx) (fun v s₁ q₁ => ?_) fun _ _ e => e) (notSet_marks hs)
        refine wpAny_mono (hb s₁ env _ H ρ m y E h2 (R.keeps (Kp.heap q₁.1)) (hw.keeps (Kp.heap q₁.1)) ((hn.keeps (Kp.heap q₁.1)).sub fun _ hx => List.mem_append_right _ hx) hy) (fun v₂ s₂ q₂ => ?_) fun _ _ e => e
        refine wpAny_mono (cmp_snd (q₁.2.keeps (Kp.heap q₂.1)) q₂.2 hu he) (fun v₃ s₃ q₃ => ?_) fun _ _ e => e
        exact wpAny_mono (truth_snd q₃.2 ht) (fun b s₄ q₄ => ⟨Kp.trans (Kp.trans (Kp.trans q₁.1 q₂.1) q₃.1) q₄.1, q₄.2⟩) fun _ _ e => e
      · cases he
    · cases he
theorem se_cc {o1 o2 : CmpOp} {a b c : ME} (hu : A.units + 1 < cLine) (ha : SE prog w A base cf a) (hb : SE prog w A base cf b) (hcc : SE prog w A base cf c) : SE prog w A base cf (.cc o1 o2 a b c) := by
  intro s env e H ρ m d E hc R hw hn he
  replace hc := inv_cc hc; obtain ⟨hs, h1, h2, h3⟩ := hc
  rw [ev_cc] at he
  split at he
  · rename_i x hx
    split at he
    · rename_i y hy
      split at he
      · rename_i tt ht
        refine PyProof.Rows.Compare_chain (wpAny_mono (ha s env _ H ρ m x E h1 R hw (hn.sub fun _ hx => List.mem_append_left _ (List.mem_append_left _ hx)) hx) (fun v s₁ q₁ => PyProof.Rows.chain_link ?_) fun _ _ e => e) (notSet_marks hs)
        refine wpAny_mono (hb s₁ env _ H ρ m y E h2 (R.keeps (Kp.heap q₁.1)) (hw.keeps (Kp.heap q₁.1)) ((hn.keeps (Kp.heap q₁.1)).sub fun _ hx => List.mem_append_left _ (List.mem_append_right _ hx)) hy) (fun v₂ s₂ q₂ => ?_) fun _ _ e => e
        have k2 := Kp.trans q₁.1 q₂.1
        refine wpAny_mono (cmp_snd (q₁.2.keeps (Kp.heap q₂.1)) q₂.2 hu ht) (fun v₃ s₃ q₃ => ?_) fun _ _ e => e
        have k3 := Kp.trans k2 q₃.1
        refine wpAny_mono (truth_snd q₃.2 (t := tt) rfl) (fun b4 s₄ q₄ => ?_) fun _ _ e => e
        have k4 := Kp.trans k3 q₄.1
        obtain ⟨q4, rfl⟩ := q₄
        cases b4 with
        | false => cases he; exact ⟨k4, q₃.2.keeps (Kp.heap q4)⟩
        | true =>
          simp only [if_true] at he ⊢
          split at he
          · rename_i z hz
            refine PyProof.Rows.chain_last (wpAny_mono (hcc s₄ env _ H ρ m z E h3 (R.keeps (Kp.heap k4)) (hw.keeps (Kp.heap k4)) ((hn.keeps (Kp.heap k4)).sub fun _ hx => List.mem_append_right _ hx) hz) (fun v₅ s₅ q₅ => ?_) fun _ _ e => e)
            exact wpAny_mono (cmp_snd (q₂.2.keeps (Kp.heap (Kp.trans (Kp.trans q₃.1 q4) q₅.1))) q₅.2 hu he) (fun v₆ s₆ q₆ => ⟨Kp.trans (Kp.trans k4 q₅.1) q₆.1, q₆.2⟩) fun _ _ e => e
          · cases he
      · cases he
    · cases he
  · cases he
theorem st_cc {o1 o2 : CmpOp} {a b c : ME} (hu : A.units + 1 < cLine) (ha : SE prog w A base cf a) (hb : SE prog w A base cf b) (hcc : SE prog w A base cf c) : ST prog w A base cf (.cc o1 o2 a b c) := by
  intro s env e H ρ m d t' E hc R hw hn he htd
  replace hc := inv_cc hc; obtain ⟨hs, h1, h2, h3⟩ := hc
  rw [ev_cc] at he
  split at he
  · rename_i x hx
    split at he
    · rename_i y hy
      split at he
      · rename_i tt ht
        refine PyProof.Rows.isTrue_chain (wpAny_mono (ha s env _ H ρ m x E h1 R hw (hn.sub fun _ hx => List.mem_append_left _ (List.mem_append_left _ hx)) hx) (fun v s₁ q₁ => PyProof.Rows.test_link ?_) fun _ _ e => e) (notSet_marks hs)
        refine wpAny_mono (hb s₁ env _ H ρ m y E h2 (R.keeps (Kp.heap q₁.1)) (hw.keeps (Kp.heap q₁.1)) ((hn.keeps (Kp.heap q₁.1)).sub fun _ hx => List.mem_append_left _ (List.mem_append_right _ hx)) hy) (fun v₂ s₂ q₂ => ?_) fun _ _ e => e
        have k2 := Kp.trans q₁.1 q₂.1
        refine wpAny_mono (cmp_snd (q₁.2.keeps (Kp.heap q₂.1)) q₂.2 hu ht) (fun v₃ s₃ q₃ => ?_) fun _ _ e => e
        have k3 := Kp.trans k2 q₃.1
        refine wpAny_mono (truth_snd q₃.2 (t := tt) rfl) (fun b4 s₄ q₄ => ?_) fun _ _ e => e
        have k4 := Kp.trans k3 q₄.1
        obtain ⟨q4, rfl⟩ := q₄
        cases b4 with
        | false => cases he; cases htd; exact ⟨k4, rfl⟩
        | true =>
          simp only [if_true] at he ⊢
          split at he
          · rename_i z hz
            refine PyProof.Rows.test_last (wpAny_mono (hcc s₄ env _ H ρ m z E h3 (R.keeps (Kp.heap k4)) (hw.keeps (Kp.heap k4)) ((hn.keeps (Kp.heap k4)).sub fun _ hx => List.mem_append_right _ hx) hz) (fun v₅ s₅ q₅ => ?_) fun _ _ e => e)
            refine wpAny_mono (cmp_snd (q₂.2.keeps (Kp.heap (Kp.trans (Kp.trans q₃.1 q4) q₅.1))) q₅.2 hu he) (fun v₆ s₆ q₆ => ?_) fun _ _ e => e
            exact wpAny_mono (truth_snd q₆.2 htd) (fun b s₇ q₇ => ⟨Kp.trans (Kp.trans (Kp.trans k4 q₅.1) q₆.1) q₇.1, q₇.2⟩) fun _ _ e => e
          · cases he
      · cases he
    · cases he
  · cases he
theorem se_not {a : ME} (ha : SE prog w A base cf a) : SE prog w A base cf (.not a) := by
  intro s env e H ρ m d E hc R hw hn he
  replace hc := inv_not hc; obtain ⟨hc⟩ := hc
  · rw [ev_not] at he
    split at he
    · rename_i x hx
      simp only [Option.map_eq_some_iff] at he
      obtain ⟨t, ht, rfl⟩ := he
      refine PyProof.Rows.UnaryOp_ (wpAny_mono (ha s env _ H ρ m x E hc R hw hn hx) (fun v s₁ q₁ => ?_) fun _ _ e => e)
      exact PyProof.Rows.not_of (wpAny_mono (truth_snd q₁.2 ht) (fun b s₂ q₂ => ⟨Kp.trans q₁.1 q₂.1, q₂.2 ▸ .bool _⟩) fun _ _ e => e)
    · cases he
theorem st_not {a : ME} (ha : ST prog w A base cf a) : ST prog w A base cf (.not a) := by
  intro s env e H ρ m d t E hc R hw hn he ht
  replace hc := inv_not hc; obtain ⟨hc⟩ := hc
  · rw [ev_not] at he
    split at he
    · rename_i x hx
      simp only [Option.map_eq_some_iff] at he
      obtain ⟨t', ht', rfl⟩ := he
      cases ht
      exact PyProof.Rows.isTrue_not (wpAny_mono (ha s env _ H ρ m x t' E hc R hw hn hx ht') (fun b s₂ q₂ => ⟨q₂.1, by rw [q₂.2]⟩) fun _ _ e => e)
    · cases he
theorem se_neg {a : ME} (ha : SE prog w A base cf a) : SE prog w A base cf (.neg a) := by
  intro s env e H ρ m d E hc R hw hn he
  replace hc := inv_neg hc; obtain ⟨hc⟩ := hc
  · rw [ev_neg] at he
    split at he
    · rename_i i hx
      cases he
      refine PyProof.Rows.UnaryOp_ (wpAny_mono (ha s env _ H ρ m _ E hc R hw hn hx) (fun v s₁ q₁ => ?_) fun _ _ e => e)
      obtain ⟨k, r⟩ := q₁
      cases r
      exact PyProof.Rows.neg_int ⟨Kp.trans k (Kp.tok _ _), .int _ _⟩
    · cases he
theorem ses_nil : SEs prog w A base cf [] := by
  intro s env es H ρ m ds E hc R hw hn he
  cases es with
  | nil => simp only [evs_nil, evs_cons] at he; cases he; exact Calls.spliced_nil ⟨Kp.refl _, .nil⟩
  | cons _ _ => simp [cs_nil, cs_cons, cs_consn] at hc
theorem ses_cons {a : ME} {r : List ME} (ha : SE prog w A base cf a) (hr : SEs prog w A base cf r) : SEs prog w A base cf (a :: r) := by
  intro s env es H ρ m ds E hc R hw hn he
  cases es with
  | nil => simp [cs_nil, cs_cons, cs_consn] at hc
  | cons e es' =>
    simp only [cs_nil, cs_cons, cs_consn, Bool.and_eq_true] at hc
    simp only [evs_nil, evs_cons] at he
    split at he
    · rename_i x hx
      split at he
      · rename_i xs hxs
        cases he
        refine Calls.spliced_cons (wpAny_mono (ha s env _ H ρ m x E hc.1 R hw (hn.sub fun _ hx => List.mem_append_left _ hx) hx) (fun v s₁ q₁ => ?_) fun _ _ e => e)
        refine wpAny_mono (hr s₁ env _ H ρ m xs E hc.2 (R.keeps (Kp.heap q₁.1)) (hw.keeps (Kp.heap q₁.1)) ((hn.keeps (Kp.heap q₁.1)).sub fun _ hx => List.mem_append_right _ hx) hxs) (fun vs s₂ q₂ => ?_) fun _ _ e => e
        exact ⟨Kp.trans q₁.1 q₂.1, .cons (q₁.2.keeps (Kp.heap q₂.1)) q₂.2⟩
      · cases he
    · cases he
theorem se_tup {ms : List ME} (hr : SEs prog w A base cf ms) : SE prog w A base cf (.tup ms) := by
  intro s env e H ρ m d E hc R hw hn he
  replace hc := inv_tup hc; obtain ⟨hc⟩ := hc
  · rw [ev_tup] at he
    split at he
    · rename_i ds hds
      split at he
      · rename_i hl; cases he
        refine PyProof.Rows.Tuple_ ?_
        rw [spliced_ok hc, backTo_ok]
        refine wpAny_mono (hr s env _ H ρ m ds E hc R hw hn hds) (fun vs s₁ q₁ => ?_) fun _ _ e => e
        have e := q₁.2.length
        refine wpAny_newObj_type ⟨Kp.trans q₁.1 (Kp.push _ _), ?_⟩ (by show vs.toArray.size ≤ sizeLine; rw [List.size_toArray, e]; exact hl)
        exact rep_newTup (hw.keeps (Kp.heap q₁.1)).ex hl (by simpa using q₁.2)
      · cases he
    · cases he
/-- a new list -/
theorem sf_lst {ms : List ME} (hr : SEs prog w A base cf ms) : SF prog w A base cf (.lst ms) := by
  intro s env e H ρ m d fr E hc R hw hn he
  replace hc := inv_lst hc; obtain ⟨hc⟩ := hc
  · rw [evF_lst, ev_lst, Option.map_eq_some_iff] at he
    obtain ⟨d', he, e'⟩ := he
    cases e'
    split at he
    · rename_i ds hds
      split at he
      · rename_i hl; cases he
        refine PyProof.Rows.List_ ?_
        rw [spliced_ok hc, backTo_ok]
        refine wpAny_mono (hr s env _ H ρ m ds E hc R hw hn hds) (fun vs s₁ q₁ => ?_) fun _ _ e => e
        have e := q₁.2.length
        have hx := (hw.keeps (Kp.heap q₁.1)).ex
        have own : OwnL w.params (s₁.heap.push (lstO vs.toArray 0)) H s₁.heap.objs.size ds := by
          refine ⟨vs.toArray, 0, Heap.get?_push_size _ rfl, hl, ?_⟩
          have r : RepAll w.params s₁.heap H vs.toArray.toList ds := by simpa using q₁.2
          exact r.mono (fun _ _ _ e => Heap.gt_push_of_some _ e) fun a o e q => q.elim id fun q => absurd (Heap.gt_lt e) (q ▸ Nat.lt_irrefl _)
        refine wpAny_newObj_type ⟨Kp.trans q₁.1 (Kp.push _ _), own.rep hx.fresh, fun _ => ⟨_, rfl, ?_, own⟩⟩ (by show vs.toArray.size ≤ sizeLine; rw [List.size_toArray, e]; exact hl)
        cases q : gat s.heap s₁.heap.objs.size with
        | none => rfl
        | some o => exact absurd (Heap.gt_lt (Kp.heap q₁.1 _ _ q)) (Nat.lt_irrefl _)
      · cases he
    · cases he
end
end Mine
namespace Mine
open PySem PySem.SeqAt

section
variable {prog : Program} {w : World} {A : Around} {s : Shared} {base : Heap} {mg mb : Str → Option Value} {cf : CF}

theorem se_of_sf {me : ME} (h : SF prog w A base cf me) (hf : ∀ ρ d, evE cf ρ me = some d → ∃ fr, evF cf ρ me = some (d, fr)) : SE prog w A base cf me := by
  intro s env e H ρ m d E hc R hw hn he
  obtain ⟨fr, hfr⟩ := hf ρ d he
  exact wpAny_mono (h s env e H ρ m d fr E hc R hw hn hfr) (fun _ _ q => ⟨q.1, q.2.1⟩) fun _ _ e => e

theorem subscripted_plain {sl : Expr} {o i : Value} (h : ∀ a b c d, sl ≠ .Slice a b c d) : subscripted sl false o i = operate [o, i] (getItem o i) := by
  cases sl <;> first | rfl | exact absurd rfl (h _ _ _ _)

theorem se_sub {a b : ME} (hu : A.units + 1 < cLine) (ha : SE prog w A base cf a) (hb : SE prog w A base cf b) : SE prog w A base cf (.sub a b) := by
  intro s env e H ρ m d E hc R hw hn he
  replace hc := inv_sub hc; obtain ⟨hns, hc1, hc2⟩ := hc
  · rw [ev_sub] at he
    split at he
    · rename_i x hx
      split at he
      · rename_i y hy
        refine PyProof.Rows.Subscript_ (wpAny_mono (ha s env _ H ρ m x E hc1 R hw (hn.sub fun _ hx => List.mem_append_left _ hx) hx) (fun v s₁ q₁ => ?_) fun _ _ e => e)
        refine wpAny_mono (hb s₁ env _ H ρ m y E hc2 (R.keeps (Kp.heap q₁.1)) (hw.keeps (Kp.heap q₁.1)) ((hn.keeps (Kp.heap q₁.1)).sub fun _ hx => List.mem_append_right _ hx) hy) (fun v₂ s₂ q₂ => ?_) fun _ _ e => e
        obtain ⟨g, T, id, hT, hl⟩ := getItem_snd hu (prog := prog) (w := w) (A := A) (E := E) (q₁.2.keeps (Kp.heap q₂.1)) q₂.2 he
        refine PyProof.Rows.tail_any hT hl (wpAny_mono g (fun v₃ s₃ q₃ => ⟨Kp.trans (Kp.trans q₁.1 q₂.1) q₃.1, q₃.2⟩) fun _ _ e => e) (subscripted_plain fun a b c d q => ?_)
        exact hns a b c d q
      · cases he
    · cases he

/-- a bound of a slice -/
theorem part_snd {a : ME} (ha : SE prog w A base cf a) {s : Shared} {env : Env} {l : Option Expr} {H : Addr → Prop} {ρ : List (String × D)} {m : Str → Option Value} {d : D} {E : Value → Shared → Prop}
    (hc : chkO env.kindOf l a = true) (R : EnvRep s.heap env m) (hw : HOk base s.heap H) (hn : NV w.params env.kindOf a.names ρ m s.heap H) (he : evE cf ρ a = some d) :
    wpAny (model prog w) A (evalPart l env) (Post w s H d) E s := by
  cases l with
  | none =>
    have : a = .none := by cases a <;> first | rfl | (cases hc)
    subst this
    cases he
    rw [evalPart_none]
    exact wpAny_pure ⟨Kp.refl _, .none⟩
  | some x => exact ha s env x H ρ m d E hc R hw hn he

theorem take_clip {α : Type} (l : List α) (a b : Nat) : (l.drop (min a l.length)).take (min b l.length - min a l.length) = (l.take b).drop a := by
  rw [List.drop_take]
  apply List.ext_getElem?
  intro i
  simp only [List.getElem?_take, List.getElem?_drop]
  by_cases ha : a ≤ l.length
  · have : min a l.length = a := by omega
    rw [this]
    by_cases hb : b ≤ l.length
    · have : min b l.length = b := by omega
      rw [this]
    · have : min b l.length = l.length := by omega
      rw [this]
      split <;> split <;> first | rfl | omega | (rw [List.getElem?_eq_none (by omega)])
  · have h1 : min a l.length = l.length := by omega
    rw [h1]
    have h2 : ∀ j, l[a + j]? = none := fun j => List.getElem?_eq_none (by omega)
    have h3 : ∀ j, l[l.length + j]? = none := fun j => List.getElem?_eq_none (by omega)
    rw [h2, h3]; simp

theorem slicePick_nat (items : Array Value) {ds : List D} {P : Params} {h : Heap} {H : Addr → Prop} {lo hi : D} {va vb : Value} {a b : Nat} (r : RepAll P h H items.toList ds) (ra : Rep P h H va lo) (rb : Rep P h H vb hi) (ha : bnd lo 0 = some a) (hb : bnd hi ds.length = some b) :
    ∃ ka kb, IsPart va ka ∧ IsPart vb kb ∧ RepAll P h H (slicePick items ka kb none).toList ((ds.take b).drop a) := by
  have e := r.length
  simp only [Array.length_toList] at e
  have key : ∀ (ka kb : Option Int) (a b : Nat), (ka.elim 0 (clipAt items.size)) = min a items.size → (kb.elim items.size (clipAt items.size)) = min b items.size →
      RepAll P h H (slicePick items ka kb none).toList ((ds.take b).drop a) := by
    intro ka kb a b h1 h2
    rw [slicePick_plain]
    rw [h1, h2]
    have := take_clip items.toList a b
    simp only [Array.length_toList] at this
    simp only [this]
    exact (r.take b).drop a
  have bounds : ∀ {v : Value} {x : D} {n : Nat} (dflt : Nat), Rep P h H v x → bnd x dflt = some n → ∃ k, IsPart v k ∧ ((k = none ∧ n = dflt) ∨ k = some (n : Int)) := by
    intro v x n dflt rv hv
    cases rv <;> simp only [bnd] at hv <;> (try cases hv)
    · exact ⟨none, .none, .inl ⟨rfl, rfl⟩⟩
    · split at hv
      · cases hv
        rename_i i t hi
        refine ⟨some i, .int _ _, .inr ?_⟩
        rw [Int.toNat_of_nonneg hi]
      · cases hv
  obtain ⟨ka, pa, ea⟩ := bounds 0 ra ha
  obtain ⟨kb, pb, eb⟩ := bounds ds.length rb hb
  refine ⟨ka, kb, pa, pb, key ka kb a b ?_ ?_⟩
  · rcases ea with ⟨rfl, rfl⟩ | rfl
    · simp
    · simpa using clipAt_nat items.size a
  · rcases eb with ⟨rfl, rfl⟩ | rfl
    · simp [e]
    · simpa using clipAt_nat items.size b

theorem part_str {P : Params} {h : Heap} {H : Addr → Prop} {v : Value} {d : D} {a : Option Int} (r : Rep P h H v d) (ha : bndS d = some a) : ∃ l : Option (Int × Tok), v = partValue l ∧ l.map (·.1) = a := by
  cases r <;> simp only [bndS] at ha <;> cases ha
  · exact ⟨none, rfl, rfl⟩
  · exact ⟨some (_, _), rfl, rfl⟩
theorem sl_str {x : Str} {t : Tok} {vl vu : Value} {lo hi d : D} {H : Addr → Prop} {E : Value → Shared → Prop} (rl : Rep w.params s.heap H vl lo) (ru : Rep w.params s.heap H vu hi) (he : slD (.str x) lo hi = some d) {a : Addr}
    (ho : s.heap.get? a = some { cls := .type "slice", data := .fields #[vl, vu, .none] }) : wpAny (model prog w) A (getItem (.str x t) (.ref a)) (PostF w s H d d.isList) E s := by
  simp only [slD] at he
  split at he
  · rename_i hsz
    rw [Option.bind_eq_some_iff] at he
    obtain ⟨a', h1, he⟩ := he
    rw [Option.map_eq_some_iff] at he
    obtain ⟨b', h2, rfl⟩ := he
    obtain ⟨l, rfl, rfl⟩ := part_str rl h1
    obtain ⟨u, rfl, rfl⟩ := part_str ru h2
    exact wpAny_getItem_str_slice (st := none) ⟨_, ho, rfl, rfl⟩ rfl (post_val_or_str ⟨Nat.le_trans (Txt.slice_le _ _ _) hsz, fun t' k => ⟨Kp.tok _ _, .str _ _, fun e => nomatch e⟩⟩)
  · cases he
theorem sl_list {x : Value} {ds : List D} {vl vu : Value} {lo hi d : D} {H : Addr → Prop} {E : Value → Shared → Prop} (hH : Ex s.heap H) (rx : Rep w.params s.heap H x (.list ds)) (rl : Rep w.params s.heap H vl lo) (ru : Rep w.params s.heap H vu hi) (he : slD (.list ds) lo hi = some d) {a : Addr}
    (ho : s.heap.get? a = some { cls := .type "slice", data := .fields #[vl, vu, .none] }) : wpAny (model prog w) A (getItem x (.ref a)) (PostF w s H d d.isList) E s := by
  simp only [slD] at he
  rw [Option.bind_eq_some_iff] at he
  obtain ⟨a', h1, he⟩ := he
  rw [Option.map_eq_some_iff] at he
  obtain ⟨b', h2, rfl⟩ := he
  cases rx with
  | list hx hno hle hr =>
    obtain ⟨ka, kb, p1, p2, r⟩ := slicePick_nat _ hr rl ru h1 h2
    have e := hr.length
    simp only [Array.length_toList] at e
    refine wpAny_getItem_list_slice (isList_of hx) ⟨_, ho, rfl, rfl⟩ p1 p2 .none (by simp) ?_ (by rw [e]; exact hle)
    exact post_newList hH (by simp only [List.length_drop, List.length_take]; omega) r (fun _ _ e => Heap.gt_push_of_some _ e) (Heap.get?_push_size _ rfl)
theorem part_nat {P : Params} {h : Heap} {H : Addr → Prop} {v : Value} {x : D} {n : Nat} (dflt : Nat) (rv : Rep P h H v x) (hv : bnd x dflt = some n) : ∃ k, IsPart v k ∧ ((k = none ∧ n = dflt) ∨ k = some (n : Int)) := by
  cases rv <;> simp only [bnd] at hv <;> (try cases hv)
  · exact ⟨none, .none, .inl ⟨rfl, rfl⟩⟩
  · split at hv
    · cases hv
      rename_i i t hi
      refine ⟨some i, .int _ _, .inr ?_⟩
      rw [Int.toNat_of_nonneg hi]
    · cases hv
theorem slicePart_snd {v : Value} {k : Option Int} {Q : Option Int → Shared → Prop} {E : Value → Shared → Prop} (hp : IsPart v k) (h : Q k s) : wpAny (model prog w) A (Builtin.Slice.slicePartIndex v) Q E s := by
  cases hp with
  | none => exact PyProof.Rows.slicePart_none h
  | int i t => exact PyProof.Rows.slicePart_int h
theorem adjust_nat {ka kb : Option Int} {a b n : Nat} (ha : (ka = none ∧ a = 0) ∨ ka = some (a : Int)) (hb : (kb = none ∧ b = n) ∨ kb = some (b : Int)) : Builtin.Slice.sliceAdjust ka kb 1 (n : Int) = (((min a n : Nat) : Int), ((min b n : Nat) : Int)) := by
  unfold Builtin.Slice.sliceAdjust
  have h1 : ¬ ((1 : Int) < 0) := by omega
  simp only [h1, if_false]
  congr 1
  · rcases ha with ⟨rfl, rfl⟩ | rfl
    · show (0 : Int) = _; omega
    · show (if (a : Int) < 0 then _ else _) = _
      rw [if_neg (by omega)]; omega
  · rcases hb with ⟨rfl, rfl⟩ | rfl
    · show (b : Int) = _; omega
    · show (if (b : Int) < 0 then _ else _) = _
      rw [if_neg (by omega)]; omega
theorem places_nat (a b : Nat) : Builtin.Slice.slicePlaces (a : Int) (b : Int) 1 = b - a := by
  unfold Builtin.Slice.slicePlaces
  have h1 : (1 : Int) > 0 := by omega
  simp only [h1, if_true, Int.ediv_one]
  split <;> omega
theorem pick_nat (xs : Array Value) (a k : Nat) : ((List.range k).filterMap fun (j : Nat) => xs[((a : Int) + (j : Int) * 1).toNat]?) = (xs.toList.drop a).take k := by
  have e : (fun (j : Nat) => xs[((a : Int) + (j : Int) * 1).toNat]?) = fun j => xs[a + j]? := by
    funext j
    have : ((a : Int) + (j : Int) * 1).toNat = a + j := by omega
    rw [this]
  rw [e]
  have := pick_run xs a k
  rw [List.filterMap_map] at this
  exact this
theorem sliceApplied_nat {sl : Addr} {vl vu : Value} {ka kb : Option Int} {a b n : Nat} {Q : Int × Int × Nat → Shared → Prop} {E : Value → Shared → Prop} (hs : s.heap.get? sl = some { cls := .type "slice", data := .fields #[vl, vu, .none] }) (p1 : IsPart vl ka) (p2 : IsPart vu kb)
    (ha : (ka = none ∧ a = 0) ∨ ka = some (a : Int)) (hb : (kb = none ∧ b = n) ∨ kb = some (b : Int)) (h : Q (((min a n : Nat) : Int), 1, min b n - min a n) s) : wpAny (model prog w) A (Builtin.Slice.sliceApplied (.ref sl) (pure (n : Int))) Q E s := by
  unfold Builtin.Slice.sliceApplied Builtin.Slice.sliceFields
  refine wpAny_bind (wpAny_bind (wpAny_field hs rfl (x := vl) rfl (wpAny_bind (wpAny_field hs rfl (x := vu) rfl (wpAny_bind (wpAny_field hs rfl (x := .none) rfl (wpAny_pure ?_)))))))
  refine wpAny_bind (PyProof.Rows.slicePart_none ?_)
  show wpAny _ _ (if ((1 : Int) == 0) = true then _ else _) _ _ s
  rw [if_neg (by decide)]
  refine wpAny_bind (slicePart_snd p1 (wpAny_bind (slicePart_snd p2 (wpAny_bind (wpAny_pure ?_)))))
  show wpAny _ _ (match Builtin.Slice.sliceAdjust ka kb 1 (n : Int) with | (lo, hi) => pure (lo, (1 : Int), Builtin.Slice.slicePlaces lo hi 1)) _ _ s
  rw [adjust_nat ha hb]
  show wpAny _ _ (pure (((min a n : Nat) : Int), (1 : Int), Builtin.Slice.slicePlaces ((min a n : Nat) : Int) ((min b n : Nat) : Int) 1)) _ _ s
  rw [places_nat]
  exact wpAny_pure h
theorem sl_tup {x : Value} {ds : List D} {vl vu : Value} {lo hi d : D} {H : Addr → Prop} {E : Value → Shared → Prop} (hH : Ex s.heap H) (rx : Rep w.params s.heap H x (.tup ds)) (rl : Rep w.params s.heap H vl lo) (ru : Rep w.params s.heap H vu hi) (he : slD (.tup ds) lo hi = some d) {sl : Addr}
    (ho : s.heap.get? sl = some { cls := .type "slice", data := .fields #[vl, vu, .none] }) : wpAny (model prog w) A (getItem x (.ref sl)) (PostF w s H d d.isList) E s := by
  simp only [slD] at he
  rw [Option.bind_eq_some_iff] at he
  obtain ⟨a, h1, he⟩ := he
  rw [Option.map_eq_some_iff] at he
  obtain ⟨b, h2, rfl⟩ := he
  have rx' := rx
  cases rx with
  | @tup t items n _ hx hno hle hr =>
    have e := hr.length
    simp only [Array.length_toList] at e
    obtain ⟨ka, p1, qa⟩ := part_nat 0 rl h1
    obtain ⟨kb, p2, qb⟩ := part_nat ds.length ru h2
    have ht := isTup_of hx
    have hTs : s.TypeIs (.ref sl) "slice" := ⟨_, ho, rfl⟩
    have hclip : RepAll w.params s.heap H ((items.toList.drop (min a items.size)).take (min b items.size - min a items.size)) ((ds.take b).drop a) := by
      have := take_clip items.toList a b
      simp only [Array.length_toList] at this
      rw [this]
      exact (hr.take b).drop a
    unfold getItem
    try with_reducible refine wpAny_holding ?_
    first | refine wpAny_bind (wpAny_pure ?_) | skip
    refine wpAny_bind (wpAny_sequenceKey ht.typeIs (by decide) ?_)
    refine wpAny_bind (wpAny_callSpecial?_slot (name := Str.ofString "__getitem__") ht.typeIs PyProof.Rows.slot_tuple_getitem
      (wpAny_call_entry PyProof.Rows.slot_tuple_getitem ht.typeIs PyProof.Rows.entry_tuple_getitem ?_ (PyProof.Rows.args_tuple_getitem _ _)))
    show wpAny _ _ (Builtin.Tuple.tupleItemsOf (.ref t) >>= _) _ _ s
    refine wpAny_bind (PyProof.Rows.tupleItemsOf_ ht ?_)
    refine wpAny_bind (wpAny_typeOf hTs ?_)
    rw [if_pos (by decide)]
    rw [← e] at qb
    refine wpAny_bind (sliceApplied_nat ho p1 p2 qa qb ?_)
    show wpAny _ _ (if (((min a items.size : Nat) : Int) == 0 && (1 : Int) == 1 && (min b items.size - min a items.size) == items.size) = true then _ else _) _ _ s
    split
    · rename_i hc
      simp only [Bool.and_eq_true, beq_iff_eq] at hc
      obtain ⟨⟨c1, -⟩, c2⟩ := hc
      have e0 : min a items.size = 0 := by omega
      rw [e0, Nat.sub_zero] at c2
      rw [e0, Nat.sub_zero, c2, List.drop_zero, ← Array.length_toList, List.take_length] at hclip
      refine wpAny_bind (m := Builtin.Tuple.tupleIsExact _) (wpAny_bind (wpAny_typeOf ht.typeIs (wpAny_pure ?_)))
      rw [if_pos (by decide)]
      have hlen : ((ds.take b).drop a).length ≤ big := by simp only [List.length_drop, List.length_take]; omega
      exact wpAny_bind (wpAny_rule (wpAny_pure ⟨_, rfl, wpAny_pure ⟨Kp.refl _, .tup hx hno hlen hclip, nofun⟩⟩))
    · rw [pick_nat]
      have hlen : ((ds.take b).drop a).length ≤ big := by simp only [List.length_drop, List.length_take]; omega
      have hsz : sizeOk (.seq ((items.toList.drop (min a items.size)).take (min b items.size - min a items.size)).toArray) := by
        show ((items.toList.drop (min a items.size)).take (min b items.size - min a items.size)).toArray.size ≤ sizeLine
        rw [List.size_toArray, hclip.length]; exact Nat.le_trans hlen (by decide)
      exact wpAny_bind (m := Builtin.Tuple.tupleExact _) (wpAny_newObj_type (wpAny_pure ⟨_, rfl, wpAny_pure ⟨Kp.push _ _, rep_newTup hH hlen (by simpa using hclip), nofun⟩⟩) hsz)
theorem slice_snd {v : Value} {x : D} {vl vu : Value} {lo hi d : D} {H : Addr → Prop} {E : Value → Shared → Prop} (hH : Ex s.heap H) (rx : Rep w.params s.heap H v x) (rl : Rep w.params s.heap H vl lo) (ru : Rep w.params s.heap H vu hi) (he : slD x lo hi = some d) {a : Addr}
    (ho : s.heap.get? a = some { cls := .type "slice", data := .fields #[vl, vu, .none] }) : wpAny (model prog w) A (getItem v (.ref a)) (PostF w s H d d.isList) E s ∧ ∃ T id, s.TypeIs v T ∧ typeLookup (.type T) "__getitem__" = pure (some (.builtin id)) := by
  cases x <;> first | (cases he; done) | skip
  · skip
    cases rx
    exact ⟨sl_str rl ru he ho, "str", _, typeIs_str _ _ _, F.slot_str_getitem.lookup⟩
  · refine ⟨sl_tup hH rx rl ru he ho, "tuple", ?_⟩
    cases rx with
    | tup hx => exact ⟨_, (isTup_of hx).typeIs, F.slot_tuple_getitem.lookup⟩
  · refine ⟨sl_list hH rx rl ru he ho, "list", ?_⟩
    cases rx with
    | list hx => exact ⟨_, (isList_of hx).typeIs, F.slot_list_getitem.lookup⟩
theorem sf_sl {a lo hi : ME} (ha : SE prog w A base cf a) (hl : SE prog w A base cf lo) (hh : SE prog w A base cf hi) : SF prog w A base cf (.sl a lo hi) := by
  intro s env e H ρ m d fr E hc R hw hn he
  replace hc := inv_sl hc; obtain ⟨h1, h2, h3⟩ := hc
  · rw [evF_sl, ev_sl, Option.map_eq_some_iff] at he
    obtain ⟨d', he, e'⟩ := he
    cases e'
    split at he
    · rename_i x hx
      split at he
      · rename_i y hy
        split at he
        · rename_i z hz
          refine PyProof.Rows.Subscript_ (wpAny_mono (ha s env _ H ρ m x E h1 R hw (hn.sub fun _ hx => List.mem_append_left _ (List.mem_append_left _ hx)) hx) (fun v s₁ q₁ => ?_) fun _ _ e => e)
          refine wpAny_Slice ?_
          refine wpAny_mono (part_snd hl h2 (R.keeps (Kp.heap q₁.1)) (hw.keeps (Kp.heap q₁.1)) ((hn.keeps (Kp.heap q₁.1)).sub fun _ hx => List.mem_append_left _ (List.mem_append_right _ hx)) hy) (fun vl s₂ q₂ => ?_) fun _ _ e => e
          have k2 := Kp.trans q₁.1 q₂.1
          refine wpAny_mono (part_snd hh h3 (R.keeps (Kp.heap k2)) (hw.keeps (Kp.heap k2)) ((hn.keeps (Kp.heap k2)).sub fun _ hx => List.mem_append_right _ hx) hz) (fun vu s₃ q₃ => ?_) fun _ _ e => e
          rw [evalPart_none]
          refine wpAny_pure ?_
          have k3 := Kp.trans k2 q₃.1
          have kp := Kp.push s₃ { cls := .type "slice", data := .fields #[vl, vu, .none] }
          have rx := (q₁.2.keeps (Kp.heap (Kp.trans q₂.1 q₃.1))).keeps (Kp.heap kp)
          have rl := (q₂.2.keeps (Kp.heap q₃.1)).keeps (Kp.heap kp)
          have ru := q₃.2.keeps (Kp.heap kp)
          have hex := ((hw.keeps (Kp.heap k3)).keeps (Kp.heap kp)).ex
          have ho := Heap.get?_push_size s₃.heap (o := { cls := .type "slice", data := .fields #[vl, vu, .none] }) rfl
          obtain ⟨g1, T, id, g2, g3⟩ := slice_snd (prog := prog) (A := A) (E := E) (s := { s₃ with heap := s₃.heap.push { cls := .type "slice", data := .fields #[vl, vu, .none] } }) hex rx rl ru he ho
          exact PyProof.Rows.tail_any (ops := [_, _]) g2 g3 (wpAny_mono g1 (fun _ _ q => q.after (Kp.trans k3 kp)) fun _ _ e => e) rfl
        · cases he
      · cases he
    · cases he
end
end Mine
namespace Mine
open PySem PySem.SeqAt

section
variable {prog : Program} {w : World} {A : Around} {s : Shared} {base : Heap} {mg mb : Str → Option Value} {cf : CF}

theorem evalArgs_snd {f : Value} {es : List Expr} {ms : List ME} {env : Env} {pos : Pos} {Q : Args → Shared → Prop} {E : Value → Shared → Prop} (hc : chkEs env.kindOf es ms = true)
    (h : wpAny (model prog w) A (spliced (es.map fun e => (false, eval e env))) (fun vs s' => Q ⟨vs, []⟩ s') E s) :
    wpAny (model prog w) A (evalArgs f true (backTo pos (starEach es env)) []) Q E s := by
  rw [spliced_ok hc, backTo_ok]
  cases es with
  | nil =>
    unfold evalArgs
    show wpAny _ A (spliced [] >>= _) Q E s
    refine wpAny_bind (wpAny_mono h (fun vs s' h' => ?_) fun _ _ x => x)
    refine wpAny_bind (wpAny_pure ?_)
    refine wpAny_holding ?_
    exact wpAny_bind (wpAny_pure (wpAny_bind (wpAny_pure (wpAny_pure h'))))
  | cons e es => exact Calls.evalArgs_plain h

theorem any_false (es : List Expr) (env : Env) : ((es.map fun e => (false, eval e env)).any (·.1)) = false := by
  induction es with
  | nil => rfl
  | cons _ _ ih => simpa using ih

theorem sf_call (G : GOk mg mb base) (C : CS0 prog w base mg cf A) {f : String} {ms : List ME} (hr : SEs prog w A base cf ms) : SF prog w A base cf (.call f ms) := by
  intro s env e H ρ m d fr E hc R hw hn he
  replace hc := inv_call hc; obtain @⟨gp, as, pos, hg, hc⟩ := hc
  · obtain ⟨hk, hd⟩ := isGlob_of hg
    simp only [evF_call] at he
    split at he
    · rename_i ds hds
      obtain ⟨a, o, fd, h1, h2, h3, h4⟩ := C f ds d fr he
      refine PyProof.Rows.Call_Name rfl (Calls.Name_function_global R.kind hk (Calls.loadGlobal_global (mg := mg) (by rw [R.glob]; exact Ns.keepAt G.g (hw.keep _)) h1 ?_) (by simpa using hd))
      refine Calls.callWith_function (o := o) (fd := fd) (evalArgs_snd hc ?_)
      refine wpAny_mono (hr s env as H ρ m ds E hc R hw hn hds) (fun vs s₁ q₁ => ⟨⟨Heap.of_gt ((hw.keeps (Kp.heap q₁.1)).keep _ _ h2) (notTab_of (by rw [h3]; nofun)), h3⟩, ?_⟩) fun _ _ e => e
      refine wpAny_mono (h4 s₁ H vs E (hw.keeps (Kp.heap q₁.1)) q₁.2) (fun v s₂ q₂ => ⟨Kp.trans q₁.1 q₂.1, q₂.2.1, fun hf => ?_⟩) fun _ _ e => e
      obtain ⟨a', e1, e3, e4⟩ := q₂.2.2 hf
      refine ⟨a', e1, ?_, e4⟩
      cases q : gat s.heap a' with
      | none => rfl
      | some o' => rw [Kp.heap q₁.1 _ _ q] at e3; cases e3
    · cases he

theorem name_blt (G : GOk mg mb base) {env : Env} {m : Str → Option Value} {H : Addr → Prop} {f : String} {p : Pos} {E : Value → Shared → Prop} {Q : Value → Shared → Prop} (hf : f ∈ bltNames) (R : EnvRep s.heap env m) (hw : HOk base s.heap H)
    (hg : isGlob env.kindOf (Str.ofString f) = true) (h : Q (bltVal f) s) : wpAny (model prog w) A (eval (.Name (Str.ofString f) p) env) Q E s := by
  obtain ⟨h1, h2⟩ := G.blt f hf
  obtain ⟨hk, hd⟩ := isGlob_of hg
  exact Calls.Name_function_global R.kind hk (Calls.loadGlobal_builtin (mg := mg) (mb := mb) (by rw [R.glob]; exact Ns.keepAt G.g (hw.keep _)) h1 (by rw [R.blt]; exact Ns.keepAt G.b (hw.keep _)) h2 h) (by simpa using hd)

theorem callWith_blt {f : String} {pos : Pos} {es : List Expr} {ms : List ME} {env : Env} {Q : Value → Shared → Prop} {E : Value → Shared → Prop} (hc : chkEs env.kindOf es ms = true)
    (h : wpAny (model prog w) A (spliced (es.map fun e => (false, eval e env))) (fun vs s' => wpAny (model prog w) A (call (bltVal f) vs) Q E s') E s) :
    wpAny (model prog w) A (callWith pos (bltVal f) [] (backTo pos (starEach es env)) []) Q E s := by
  have hp : (backTo pos (starEach es env)).any (·.1) = false := by rw [spliced_ok hc, backTo_ok]; exact any_false _ _
  have key : (∃ id, bltVal f = .builtin id) ∨ ∃ T, bltVal f = .type T := by
    unfold bltVal; split <;> first | exact .inl ⟨_, rfl⟩ | exact .inr ⟨_, rfl⟩
  rcases key with ⟨id, e⟩ | ⟨T, e⟩
  · rw [e] at h ⊢; exact Calls.callWith_builtin hp (evalArgs_snd hc h)
  · rw [e] at h ⊢; exact PyProof.Rows.callWith_type hp (evalArgs_snd hc h)

theorem se_blt (G : GOk mg mb base) (hh : A.handled = none) {f : String} {ms : List ME} (hf : f ∈ bltNames) (hr : SEs prog w A base cf ms) : SE prog w A base cf (.blt f ms) := by
  intro s env e H ρ m d E hc R hw hn he
  replace hc := inv_blt hc; obtain @⟨gp, as, pos, hg, hc⟩ := hc
  · rw [ev_blt] at he
    split at he
    · rename_i ds hds
      refine PyProof.Rows.Call_Name rfl (name_blt G hf R hw hg (callWith_blt hc ?_))
      refine wpAny_mono (hr s env as H ρ m ds E hc R hw hn hds) (fun vs s₁ q₁ => ?_) fun _ _ e => e
      exact wpAny_mono (blt_snd hh q₁.2 (hw.keeps (Kp.heap q₁.1)).ex he) (fun v s₂ q₂ => ⟨Kp.trans q₁.1 q₂.1, q₂.2⟩) fun _ _ e => e
    · cases he
theorem sf_lcp (G : GOk mg mb base) (hh : A.handled = none) {a : ME} (hr : SEs prog w A base cf [a]) : SF prog w A base cf (.lcp a) := by
  intro s env e H ρ m d fr E hc R hw hn he
  replace hc := inv_lcp hc; obtain @⟨gp, x, pos, hg, hx⟩ := hc
  rw [evF_lcp, ev_lcp, Option.map_eq_some_iff] at he
  obtain ⟨d', he, e'⟩ := he
  cases e'
  split at he
  · rename_i dx hdx
    rw [Option.map_eq_some_iff] at he
    obtain ⟨ds, he, rfl⟩ := he
    have hc' : chkEs env.kindOf [x] [a] = true := by simp [cs_nil, cs_cons, cs_consn, hx]
    refine PyProof.Rows.Call_Name rfl (name_blt G (f := "list") (by decide) R hw hg (callWith_blt hc' ?_))
    refine wpAny_mono (hr s env [x] H ρ m [dx] E hc' R hw (hn.sub fun y hy => by simpa [nms_nil, nms_cons, nm_var, nm_lcp] using hy) (by simp [evs_nil, evs_cons, hdx])) (fun vs s₁ q₁ => ?_) fun _ _ e => e
    obtain ⟨k, r⟩ := q₁
    cases r with
    | cons r1 r2 =>
      cases r2
      exact wpAny_mono (lst_snd hh r1 (hw.keeps (Kp.heap k)).ex he) (fun v s₂ q₂ => q₂.after k) fun _ _ e => e
  · cases he

theorem se_isi (G : GOk mg mb base) {a : ME} {T : String} (ha : SE prog w A base cf a) : SE prog w A base cf (.isi a T) := by
  intro s env e H ρ m d E hc R hw hn he
  replace hc := inv_isi hc; obtain @⟨gp, x, tp, pos, hg, hg2, hc⟩ := hc
  · rw [ev_isi] at he
    split at he
    · rename_i dx hdx
      simp only [Option.map_eq_some_iff] at he
      obtain ⟨b, hb, rfl⟩ := he
      have hT : T ∈ bltNames ∧ bltVal T = .type T := by
        unfold isiD at hb
        split at hb
        · rename_i h
          rcases h with rfl | rfl | rfl | rfl | rfl <;> exact ⟨by decide, rfl⟩
        · cases hb
      have hs : starEach [x, .Name (Str.ofString T) tp] env = [(false, eval x env), (false, eval (.Name (Str.ofString T) tp) env)] := by
        rw [star_cons hc]; rfl
      refine PyProof.Rows.Call_Name (trees := [(false, eval x env), (false, eval (.Name (Str.ofString T) tp) env)]) (by rw [hs]; rfl) (name_blt G (f := "isinstance") (by decide) R hw hg ?_)
      refine Calls.callWith_builtin rfl (Calls.evalArgs_plain (Calls.spliced_cons ?_))
      refine wpAny_mono (ha s env x H ρ m dx E hc R hw hn hdx) (fun v s₁ q₁ => Calls.spliced_cons ?_) fun _ _ e => e
      refine name_blt G hT.1 (R.keeps (Kp.heap q₁.1)) (hw.keeps (Kp.heap q₁.1)) hg2 (Calls.spliced_nil ?_)
      rw [hT.2]
      exact wpAny_mono (isi_snd q₁.2 hb) (fun v s₂ q₂ => ⟨Kp.trans q₁.1 q₂.1, q₂.2⟩) fun _ _ e => e
    · cases he
end
end Mine
namespace Mine
open PySem PyProof.Rows

/-! halving -/
theorem mid_in {lo hi : Nat} (h : lo < hi) : lo ≤ (lo + hi) / 2 ∧ (lo + hi) / 2 < hi :=
  ⟨(Nat.le_div_iff_mul_le (Nat.succ_pos 1)).mpr (Nat.mul_two lo ▸ Nat.add_le_add_left (Nat.le_of_lt h) lo), Nat.div_lt_of_lt_mul (Nat.two_mul hi ▸ Nat.add_lt_add_right h hi)⟩
theorem mid_less {lo hi m n x : Nat} (h1 : lo ≤ m) (h2 : m < hi) (h3 : hi - lo ≤ n - x) (h4 : x < n) : hi - (m + 1) ≤ n - (x + 1) ∧ m - lo ≤ n - (x + 1) :=
  ⟨Nat.le_trans (Nat.sub_le_sub_left (Nat.succ_le_succ h1) hi) (Nat.pred_le_pred h3), Nat.le_pred_of_lt (Nat.lt_of_lt_of_le (Nat.sub_lt_sub_right h1 h2) h3)⟩
/-! a strict weak order on places, and the order with the places as a second key -/
structure Wk (kl : Nat → Nat → Bool) : Prop where
  irr : ∀ p, kl p p = false
  tr : ∀ {p q r}, kl p q = true → kl q r = true → kl p r = true
  neg : ∀ {p q r}, kl p q = false → kl q r = false → kl p r = false

section
variable {kl : Nat → Nat → Bool}
/-! merging two lists -/
structure Mg (R : Nat → Nat → Prop) (T G xs ys : List Nat) : Prop where
  perm : (G ++ (xs ++ ys)).Perm T
  srt : G.Pairwise R
  le : ∀ g ∈ G, ∀ y, y ∈ xs ∨ y ∈ ys → R g y
variable {R : Nat → Nat → Prop} {T G xs ys : List Nat}
end
end Mine
namespace Mine
open PySem

noncomputable abbrev Ris (xs : Array Nat) : Prop := xs.toList.Pairwise (· < ·)
/-- where j belongs -/
theorem below_go {xs : Array Nat} (hr : Ris xs) (j : Nat) : ∀ (fuel lo hi : Nat), hi - lo ≤ fuel → lo ≤ hi → hi ≤ xs.size → (∀ i (h : i < xs.size), i < lo → xs[i] < j) → (∀ i (h : i < xs.size), hi ≤ i → j ≤ xs[i]) →
    ∃ k, SetTable.below.go xs j fuel lo hi = k ∧ k ≤ xs.size ∧ (∀ i (h : i < xs.size), i < k → xs[i] < j) ∧ (∀ i (h : i < xs.size), k ≤ i → j ≤ xs[i])
  | 0, lo, hi, h1, h2, h3, h4, h5 => by
    have e : lo = hi := Nat.le_antisymm h2 (Nat.le_of_sub_eq_zero (Nat.le_zero.mp h1))
    subst e; exact ⟨lo, rfl, h3, h4, h5⟩
  | fuel + 1, lo, hi, h1, h2, h3, h4, h5 => by
    have mono : ∀ i i' (h : i < xs.size) (h' : i' < xs.size), i < i' → xs[i] < xs[i'] := fun i i' h h' l => by
      have := List.pairwise_iff_getElem.mp hr i i' (by simpa using h) (by simpa using h') l
      simpa using this
    show ∃ k, (if lo < hi then (if xs.getD ((lo + hi) / 2) j < j then SetTable.below.go xs j fuel ((lo + hi) / 2 + 1) hi else SetTable.below.go xs j fuel lo ((lo + hi) / 2)) else lo) = k ∧ _
    by_cases hl : lo < hi
    · rw [if_pos hl]
      have mi := mid_in hl
      have hm : lo ≤ (lo + hi) / 2 ∧ (lo + hi) / 2 < hi ∧ hi - ((lo + hi) / 2 + 1) ≤ fuel ∧ (lo + hi) / 2 - lo ≤ fuel := ⟨mi.1, mi.2, mid_less (x := 0) mi.1 mi.2 h1 (Nat.succ_pos fuel)⟩
      clear mi
      generalize (lo + hi) / 2 = m at hm ⊢
      have hms : m < xs.size := Nat.lt_of_lt_of_le hm.2.1 h3
      have eg : xs.getD m j = xs[m] := by rw [Array.getD_eq_getD_getElem?, getElem?_pos xs m hms]; rfl
      rw [eg]
      by_cases hc : xs[m] < j
      · rw [if_pos hc]
        refine below_go hr j fuel (m + 1) hi hm.2.2.1 hm.2.1 h3 (fun i h q => ?_) h5
        rcases Nat.lt_or_eq_of_le (Nat.le_of_lt_succ q) with q | rfl
        · exact Nat.lt_trans (mono i m h hms q) hc
        · exact hc
      · rw [if_neg hc]
        refine below_go hr j fuel lo m hm.2.2.2 hm.1 (Nat.le_of_lt hms) h4 fun i h q => ?_
        rcases Nat.lt_or_eq_of_le q with q | rfl
        · exact Nat.le_of_lt (Nat.lt_of_le_of_lt (Nat.le_of_not_lt hc) (mono m i hms h q))
        · exact Nat.le_of_not_lt hc
    · rw [if_neg hl]
      have e : lo = hi := Nat.le_antisymm h2 (Nat.le_of_not_lt hl)
      subst e; exact ⟨lo, rfl, h3, h4, h5⟩
theorem below_ok {xs : Array Nat} (hr : Ris xs) (j : Nat) : SetTable.below xs j ≤ xs.size ∧ (∀ i (h : i < xs.size), i < SetTable.below xs j → xs[i] < j) ∧ (∀ i (h : i < xs.size), SetTable.below xs j ≤ i → j ≤ xs[i]) := by
  obtain ⟨k, e, h⟩ := below_go hr j xs.size 0 xs.size (Nat.le_of_eq (Nat.sub_zero _)) (Nat.zero_le _) (Nat.le_refl _) (fun _ _ h => absurd h (Nat.not_lt_zero _)) fun i h q => absurd h (Nat.not_lt_of_le q)
  unfold SetTable.below
  rw [e]; exact h

/-- a table without gaps in the book-keeping: no dummies, its places rising, led unless sets go by the text -/
structure TabOk (bt : Bool) (t : SetTable) : Prop where
  dum : t.dummies = #[]
  ris : Ris t.place
  led : t.led = !bt
theorem has_nil (j : Nat) : SetTable.has #[] j = false := rfl
theorem TabOk.put {bt : Bool} {t : SetTable} (h : TabOk bt t) {j : Nat} (hs : t.slot j = .empty) : TabOk bt (t.put j).1 := by
  have hb := below_ok h.ris j
  have hne : t.place[SetTable.below t.place j]? ≠ some j := fun e => by
    unfold SetTable.slot at hs
    rw [if_pos (by rw [e]; exact beq_self_eq_true _)] at hs; cases hs
  refine ⟨?_, ?_, h.led⟩
  · show (if SetTable.has t.dummies j = true then _ else t.dummies) = #[]
    rw [h.dum, has_nil]; rfl
  · show (SetTable.insertAt t.place (SetTable.below t.place j) j).toList.Pairwise (· < ·)
    rw [SetTable.toList_insertAt]
    generalize SetTable.below t.place j = k at hb hne
    have hris : t.place.toList.Pairwise (· < ·) := h.ris
    have hsp := List.pairwise_append.mp ((List.take_append_drop k t.place.toList).symm ▸ hris)
    have lo : ∀ x ∈ t.place.toList.take k, x < j := fun x hx => by
      obtain ⟨i, hi, rfl⟩ := List.getElem_of_mem hx
      have hi' : i < k := Nat.lt_of_lt_of_le hi (List.length_take_le _ _)
      have := hb.2.1 i (Nat.lt_of_lt_of_le hi' hb.1) hi'
      rw [List.getElem_take]; simpa using this
    have hi : ∀ x ∈ t.place.toList.drop k, j < x := fun x hx => by
      obtain ⟨i, hi, rfl⟩ := List.getElem_of_mem hx
      rw [List.length_drop] at hi
      have hi' : k + i < t.place.size := by simpa using Nat.add_lt_of_lt_sub' hi
      have hk : k < t.place.size := Nat.lt_of_le_of_lt (Nat.le_add_right _ _) hi'
      have h0 := hb.2.2 k hk (Nat.le_refl _)
      have h1 : t.place[k] ≠ j := fun e => hne (by rw [getElem?_pos _ k hk, e])
      have h2 : t.place[k] ≤ t.place[k + i] := by
        rcases Nat.eq_zero_or_pos i with rfl | q
        · exact Nat.le_refl _
        · have := List.pairwise_iff_getElem.mp h.ris k (k + i) (by simpa using hk) (by simpa using hi') (Nat.lt_add_of_pos_right q)
          exact Nat.le_of_lt (by simpa using this)
      rw [List.getElem_drop]
      have : j < t.place[k + i] := Nat.lt_of_lt_of_le (Nat.lt_of_le_of_ne h0 (Ne.symm h1)) h2
      simpa using this
    refine List.pairwise_append.mpr ⟨hsp.1, List.pairwise_cons.mpr ⟨hi, hsp.2.1⟩, fun x hx y hy => ?_⟩
    rcases List.mem_cons.mp hy with rfl | hy
    · exact lo x hx
    · exact hsp.2.2 x hx y hy
theorem ris_range (n : Nat) : Ris (Array.range n) := by
  show (Array.range n).toList.Pairwise _
  rw [Array.toList_range]; exact List.pairwise_lt_range
theorem TabOk.standIn {bt : Bool} {t : SetTable} (h : TabOk bt t) (n : Nat) : TabOk bt (t.standIn n) := ⟨rfl, ris_range n, h.led⟩
theorem TabOk.orStandIn {bt : Bool} {t : SetTable} (h : TabOk bt t) (n : Nat) : TabOk bt (t.orStandIn n) := by
  unfold SetTable.orStandIn; split
  · exact h
  · exact h.standIn n
theorem probe_go {t : SetTable} (hd : t.dummies = #[]) {f : Nat → Int} {h : Int} : ∀ (fuel : Nat) (p : SetTable.Probe) {j : Nat} {d : Option Nat}, p.dummy = none → SetTable.probe.go t f h fuel p = some (.empty j d) → t.slot j = .empty ∧ d = none
  | 0, p, j, d, hp, e => by cases e
  | fuel + 1, p, j, d, hp, e => by
    have adv : ∀ q : SetTable.Probe, q.dummy = none → (t.advance q).dummy = none := fun q hq => by unfold SetTable.advance; split <;> exact hq
    unfold SetTable.probe.go at e
    cases hs : t.slot p.j with
    | empty => rw [hs] at e; cases e; exact ⟨hs, hp⟩
    | dummy =>
      exfalso
      unfold SetTable.slot at hs
      rw [hd, has_nil] at hs
      dsimp only at hs
      split at hs <;> cases hs
    | live i =>
      rw [hs] at e
      dsimp only at e
      split at e
      · cases e
      · exact probe_go hd fuel _ (adv p hp) e
theorem free_ok {bt : Bool} {t : SetTable} (h : TabOk bt t) {x : Int} {j : Nat} {b : Bool} (e : t.freeSlot x = some (j, b)) : t.slot j = .empty := by
  unfold SetTable.freeSlot at e
  split at e
  · rename_i j' d hp
    have := probe_go h.dum _ _ rfl hp
    rw [this.2] at e
    cases e; exact this.1
  · cases e
theorem TabOk.layNew {bt : Bool} {t : SetTable} (h : TabOk bt t) (es : Array (Int × Value)) (x : Int) (v : Value) : TabOk bt (layNew t es x v).2.1 := by
  unfold PySem.layNew
  split
  · rename_i slot wasDummy e
    exact (h.put (free_ok h e)).orStandIn _
  · exact h.standIn _
theorem live_fst {g : Nat → Option Nat} : ∀ l : List Nat, ((l.filterMap fun j => (g j).map (j, ·)).map (·.1)) = l.filter fun j => (g j).isSome
  | [] => rfl
  | j :: l => by
    rw [List.filterMap_cons, List.filter_cons]
    cases e : g j with
    | none => exact live_fst l
    | some y => exact congrArg (j :: ·) (live_fst l)
theorem TabOk.relay {bt : Bool} {t : SetTable} (h : TabOk bt t) (es : Array (Int × Value)) (n : Nat) : TabOk bt (relayAll t es n).2.1 := by
  unfold relayAll
  split
  · rename_i t' order e
    dsimp only
    split
    · unfold SetTable.relaid SetTable.laid at e
      cases ho : SetTable.layClean (SetTable.sizeAbove n - 1) (es.map (·.1)) with
      | none => rw [ho] at e; cases e
      | some owner =>
        rw [ho] at e
        have e' := (Prod.mk.inj (Option.some.inj e)).1
        rw [← e']
        refine ⟨rfl, ?_, h.led⟩
        show ((((List.range (SetTable.sizeAbove n - 1 + 1)).filterMap fun j => (owner.getD j none).map (j, ·)).map (·.1)).toArray).toList.Pairwise (· < ·)
        rw [live_fst]
        exact List.pairwise_lt_range.sublist List.filter_sublist
    · exact h.standIn _
  · exact h.standIn _
end Mine
namespace Mine
open PySem

noncomputable abbrev setO (es : Array (Int × Value)) (ep : Nat) (t : SetTable) : Obj := { cls := .type "set", dict := Option.none, data := .set es ep t, slots := #[] }
noncomputable def keysIn (es : Array (Int × Value)) : List Int := es.toList.map fun e => PyProof.Rows.numOf e.2
/-- a set of ints -/
structure SetI (bt : Bool) (h : Heap) (a : Addr) (es : Array (Int × Value)) : Prop where
  obj : ∃ ep t, h.get? a = some (setO es ep t) ∧ t.fits es.size = true ∧ TabOk bt t
  el : ∀ e ∈ es.toList, ∃ k tok, e = (hashInt k, .int k tok)
  nod : (keysIn es).Nodup

section
variable {prog : Program} {w : World} {A : Around} {E : Value → Shared → Prop} {s : Shared} {bt : Bool} {a : Addr} {es : Array (Int × Value)}

theorem isInt_self (k : Int) (tok : Tok) : Value.isInt k (.int k tok) = true := by simp [Value.isInt]
theorem els_of (h : ∀ e ∈ es.toList, ∃ k tok, e = (hashInt k, .int k tok)) : ElemsOf (intKind prog w) es.toList := fun e he => by
  obtain ⟨k, tok, rfl⟩ := h e he
  exact ⟨⟨k, isInt_self k tok, rfl⟩, rfl⟩
theorem wpAny_storeI {es' : Array (Int × Value)} {ep : Nat} {t t' : SetTable} {Q : Unit → Shared → Prop} (ho : s.heap.get? a = some (setO es ep t)) (hz : es'.size < scanBound)
    (h : ∀ h', Heap.SameBut a s.heap h' → h'.get? a = some (setO es' (ep + 1) t') → Q () { s with heap := h' }) : wpAny (model prog w) A (storeSet a es' t') Q E s := by
  refine wpAny_storeSet_of ho rfl (h _ (Heap.SameBut.update _ _ _) ?_) (fits_of_scanBound hz)
  exact Heap.get?_update_self (Obj.putSet es' t') ho rfl

theorem wpAny_addI {k : Int} {tok : Tok} {Q : Bool → Shared → Prop} (hS : SetI bt s.heap a es) (hroom : es.size + 1 < scanBound)
    (h : ∀ h' es', Heap.SameBut a s.heap h' → SetI bt h' a es' → (keysIn es').Perm (if k ∈ keysIn es then keysIn es else keysIn es ++ [k]) → ∀ b, Q b { s with heap := h' }) :
    wpAny (model prog w) A (setAddHashed a (.int k tok) (hashInt k)) Q E s := by
  obtain ⟨⟨ep, t, ho, hf, hT⟩, hel, hnod⟩ := hS
  have hels := els_of (prog := prog) (w := w) hel
  have hkey : (intKind prog w).is k (.int k tok) = true := isInt_self k tok
  unfold setAddHashed setAddHashedIn
  refine wpAny_holding (wpAny_bind (wpAny_setState_of ho rfl hf ?_))
  dsimp only
  rw [byScan_of (knd := intKind prog w) rfl (Nat.lt_of_succ_lt hroom) hels, if_pos rfl]
  unfold setAddByScan
  refine wpAny_bind (wpAny_bind (wpAny_rule (wpAny_bind (wpAny_setScan_of hkey ho rfl hf hels ?_))))
  have hmem : ∀ e ∈ es.toList, (intKind prog w).is k e.2 = true → k ∈ keysIn es := fun e he q => by
    obtain ⟨k', tok', rfl⟩ := hel e he
    have := Value.isInt_inj (.int k' tok') k k' q (isInt_self k' tok')
    subst this
    exact List.mem_map.mpr ⟨_, he, rfl⟩
  cases hr : List.findIdx? (fun e => (intKind prog w).is k e.2) es.toList with
  | some j =>
    obtain ⟨hj, hpj, _⟩ := List.findIdx?_eq_some_iff_getElem.mp hr
    have hin := hmem _ (List.getElem_mem hj) hpj
    refine wpAny_pure (wpAny_pure ?_)
    exact h s.heap es (Heap.SameBut.refl a s.heap) ⟨⟨ep, t, ho, hf, hT⟩, hel, hnod⟩ (by rw [if_pos hin]) false
  | none =>
    have hnin : k ∉ keysIn es := fun q => by
      obtain ⟨e, he, q⟩ := List.mem_map.mp q
      obtain ⟨k', tok', rfl⟩ := hel e he
      have e' : k' = k := q
      subst e'
      have := List.findIdx?_eq_none_iff.mp hr _ he
      rw [show (intKind prog w).is k' (.int k' tok') = true from isInt_self k' tok'] at this; cases this
    rw [if_neg hnin] at h
    have hperm := layNew_perm t es (hashInt k) (.int k tok)
    have hfits := layNew_fits t es (hashInt k) (.int k tok)
    have hTn := hT.layNew es (hashInt k) (.int k tok)
    dsimp only
    generalize layNew t es (hashInt k) (.int k tok) = L at hperm hfits hTn ⊢
    obtain ⟨es1, t1, wasDummy, gave⟩ := L
    dsimp only at hperm hfits hTn ⊢
    rw [Array.toList_push] at hperm
    have hel1 : ∀ e ∈ es1.toList, ∃ k tok, e = (hashInt k, .int k tok) := fun e he => by
      rcases List.mem_append.mp (hperm.mem_iff.mp he) with he | he
      · exact hel e he
      · rw [List.mem_singleton.mp he]; exact ⟨k, tok, rfl⟩
    have hk1 : (keysIn es1).Perm (keysIn es ++ [k]) := by
      have := hperm.map fun (e : Int × Value) => PyProof.Rows.numOf e.2
      rwa [List.map_append] at this
    have hsz1 : es1.size < scanBound := by
      have := hperm.length_eq
      rw [List.length_append, Array.length_toList, Array.length_toList] at this
      rw [this]; exact hroom
    have hnod1 : ∀ es2, (keysIn es2).Perm (keysIn es ++ [k]) → (keysIn es2).Nodup := fun es2 hp => hp.nodup_iff.mpr (List.nodup_append.mpr ⟨hnod, List.nodup_cons.mpr ⟨List.not_mem_nil, List.nodup_nil⟩, fun x hx y hy e => hnin (by
      rw [List.mem_singleton.mp hy] at e; exact e ▸ hx)⟩)
    have gw : ∀ (b : Bool) {s₁ : Shared} {Q' : Unit → Shared → Prop}, Q' () s₁ → wpAny (model prog w) A (match b with | true => rule "set.scan.the-table-gave-way" | false => pure ()) Q' E s₁ :=
      fun b s₁ Q' hq => by cases b <;> first | exact wpAny_pure hq | exact wpAny_rule hq
    have fin : ∀ t2 : SetTable, t2.fits es1.size = true → TabOk bt t2 → wpAny (model prog w) A (do
        storeSet a es1 t2
        if (!wasDummy && t2.tooFull) = true then do
            (match (relayAll t2 es1 (SetTable.grown es1.size)).2.2 with | true => rule "set.scan.the-table-gave-way" | false => pure ())
            storeSet a (relayAll t2 es1 (SetTable.grown es1.size)).1 (relayAll t2 es1 (SetTable.grown es1.size)).2.1
            pure (some true)
          else pure (some true)) (fun r s' => ∃ h' es', s' = { s with heap := h' } ∧ r = some true ∧ Heap.SameBut a s.heap h' ∧ SetI bt h' a es' ∧ (keysIn es').Perm (keysIn es ++ [k])) E s := fun t2 hf2 hT2 => by
      refine wpAny_bind (wpAny_storeI ho hsz1 fun h1 hs1 ho1 => ?_)
      split
      · have hp2 := relayAll_perm t2 es1 (SetTable.grown es1.size)
        have hf3 := relayAll_fits t2 es1 (SetTable.grown es1.size)
        have hT3 := hT2.relay es1 (SetTable.grown es1.size)
        generalize relayAll t2 es1 (SetTable.grown es1.size) = Rl at hp2 hf3 hT3 ⊢
        obtain ⟨es2, t3, gave2⟩ := Rl
        dsimp only at hp2 hf3 hT3 ⊢
        have hk2 : (keysIn es2).Perm (keysIn es ++ [k]) := (hp2.map fun (e : Int × Value) => PyProof.Rows.numOf e.2).trans hk1
        have hsz2 : es2.size < scanBound := by
          have := hp2.length_eq
          rw [Array.length_toList, Array.length_toList] at this
          rw [this]; exact hsz1
        refine wpAny_bind (gw _ (wpAny_bind (wpAny_storeI (s := { s with heap := h1 }) ho1 hsz2 fun h2 hs2 ho2 => wpAny_pure ?_)))
        exact ⟨h2, es2, rfl, rfl, hs1.trans hs2, ⟨⟨_, t3, ho2, hf3, hT3⟩, fun e he => hel1 e (hp2.mem_iff.mp he), hnod1 es2 hk2⟩, hk2⟩
      · exact wpAny_pure ⟨h1, es1, rfl, rfl, hs1, ⟨⟨_, t2, ho1, hf2, hT2⟩, hel1, hnod1 es1 hk1⟩, hk1⟩
    have done : ∀ r s', (∃ h' es', s' = { s with heap := h' } ∧ r = some true ∧ Heap.SameBut a s.heap h' ∧ SetI bt h' a es' ∧ (keysIn es').Perm (keysIn es ++ [k])) →
        wpAny (model prog w) A (match r with | some added => pure added | none => setAddHashedIn a (.int k tok) (hashInt k) 99999) Q E s' := fun r s' q => by
      obtain ⟨h', es', rfl, rfl, q1, q2, q3⟩ := q
      exact wpAny_pure (h h' es' q1 q2 q3 true)
    refine wpAny_bind (gw _ ?_)
    split
    · refine wpAny_bind ?_
      rw [hashByValue_scannable 8 rfl]
      exact wpAny_pure (wpAny_mono (fin _ hfits hTn) (fun r s' q => done r s' q) fun _ _ e => e)
    · exact wpAny_bind (wpAny_pure (wpAny_mono (fin _ hfits hTn) (fun r s' q => done r s' q) fun _ _ e => e))
end
end Mine
namespace Mine
open PySem

noncomputable def byText (w : World) : Bool := w.params.followText "set-order"
section
variable {prog : Program} {w : World} {A : Around} {E : Value → Shared → Prop} {s : Shared}

theorem wpAny_byText {Q : Bool → Shared → Prop} (h : Q (byText w) s) : wpAny (model prog w) A setsByText Q E s := by
  unfold setsByText
  exact wpAny_bind (wpAny_askSetting (wpAny_pure h))
theorem code_set_new' (a : Value) {Q₁ : Value → Shared → Prop}
    (h : Q₁ (.ref s.heap.objs.size) { s with heap := s.heap.push (setO #[] 0 (.fresh 0 0 (!byText w))) }) :
    codeAny (model prog w) A (.call (.builtin "set.__new__") ⟨[.type "set", a], []⟩) (wants Q₁ E) s := by
  refine codeAny_of_tree ?_
  show wpAny _ A.in1 (do checkBuiltinCall "set.__new__" ⟨[.type "set", a], []⟩; again (.builtin "set.__new__" ⟨[.type "set", a], []⟩)) _ _ s
  refine wpAny_bind (wpAny_of_eq (F.newCall_set_1 a) (wpAny_pure ⟨plainId_quiet F.plain_set_new _, codeAny_builtin F.entry_set_new ?_⟩))
  rw [Around.under_plainId F.plain_set_new _]
  unfold Builtin.«set.__new__» Builtin.Frozenset.newClass
  have hsub := sub_set_self
  obtain ⟨hp, g, d, tk, os⟩ := s
  dsimp only
  wp_walk
  refine wpAny_askSetting (wpAny_pure ?_)
  dsimp only
  simp only [newObj]
  refine wpAny_bind (wpAny_alloc (wpAny_pure ?_))
  exact wpAny_pure h

theorem SetI.move {bt : Bool} {h h' : Heap} {a : Addr} {es : Array (Int × Value)} (S : SetI bt h a es) (k : ∀ o, h.get? a = some o → h'.get? a = some o) : SetI bt h' a es := by
  obtain ⟨ep, t, ho, hf, hT⟩ := S.obj
  exact ⟨⟨ep, t, k _ ho, hf, hT⟩, S.el, S.nod⟩
/-- filling a set from a list of ints -/
theorem fill_loop {R : Result → Shared → Prop} {I : Addr} {fp wr : List Addr} {n : Nat} {P : Nat → Value → Prop} {St : Nat → Heap → Prop} (W : Walks prog w A.in1 I fp wr n P St) (S : Addr) (hSf : S ∉ fp) {bt : Bool}
    {ns : List Int} (hval : ∀ i v, P i v → ∃ k t, ns[i]? = some k ∧ v = .int k t) (hn : ns.length = n) (hb : n + 1 < scanBound)
    (hR : ∀ (h' : Heap) (tk : Nat) es, (∀ b o, b ∉ S :: wr → s.heap.get? b = some o → h'.get? b = some o) → SetI bt h' S es → (∀ k, k ∈ keysIn es ↔ k ∈ ns) → R (.ok (.ret .none)) { s with heap := h', toks := tk }) :
    ∀ (k i : Nat) (h : Heap) (tk : Nat) (es : Array (Int × Value)), n - i = k → i ≤ n → St i h → (∀ b o, b ∉ S :: wr → s.heap.get? b = some o → h.get? b = some o) → SetI bt h S es → (∀ k, k ∈ keysIn es ↔ k ∈ ns.take i) → es.size ≤ i →
      codeAny (model prog w) A (.builtin "set.update.loop" ⟨[.ref S, .ref I], []⟩) R { s with heap := h, toks := tk } := by
  have hSw : S ∉ wr := fun h => hSf (W.sub _ h)
  intro k
  induction k with
  | zero =>
    intro i h tk es hk hi hst hkeep hS hm _
    have hin : i = n := Nat.le_antisymm hi (Nat.le_of_sub_eq_zero hk)
    subst hin
    refine codeAny_builtin PyProof.Rows.F.entry_set_update_loop ?_
    rw [Around.under_plainId PyProof.Rows.F.plain_set_update_loop _]
    show wpAny _ A.in1 (pyNext (.ref I) >>= _) _ _ _
    refine wpAny_bind (W.done _ _ _ hst fun h' tk' hk' => ?_)
    show wpAny _ A.in1 (ret Value.none) _ _ _
    refine wpAny_pure (hR h' tk' es (fun b o hb e => hk' b o (fun q => hb (List.mem_cons_of_mem _ q)) (hkeep b o hb e)) (hS.move fun o e => hk' S o hSw e) fun k => ?_)
    rw [hm k, ← hn, List.take_length]
  | succ k ih =>
    intro i h tk es hk hi hst hkeep hS hm hsz
    have hlt : i < n := Nat.lt_of_sub_pos (hk ▸ Nat.succ_pos k)
    refine codeAny_builtin PyProof.Rows.F.entry_set_update_loop ?_
    rw [Around.under_plainId PyProof.Rows.F.plain_set_update_loop _]
    show wpAny _ A.in1 (pyNext (.ref I) >>= _) _ _ _
    refine wpAny_bind (W.item i _ _ _ hlt hst fun v h₁ tk₁ hP hst₁ hk₁ => ?_)
    obtain ⟨z, t, hz, rfl⟩ := hval i v hP
    show wpAny _ A.in1 (holding [Value.int z t] (setAdd S (.int z t)) >>= _) _ _ _
    refine wpAny_bind (wpAny_holding ?_)
    unfold setAdd
    refine wpAny_holding (wpAny_bind ((intKind prog w).pyHash (k := z) (isInt_self z t) ?_))
    refine wpAny_addI (s := { s with heap := h₁, toks := tk₁ + 1 }) (hS.move fun o e => hk₁ S o hSw e) (Nat.lt_of_le_of_lt (Nat.succ_le_succ (Nat.le_trans hsz hi)) hb) fun h₂ es₂ hs₂ hS₂ hp₂ b => ?_
    refine wpAny_pure ⟨plainId_quiet PyProof.Rows.F.plain_set_update_loop _, ih (i + 1) h₂ (tk₁ + 1) es₂ (by rw [Nat.sub_add_eq, hk]; rfl) hlt (W.frame _ _ _ hst₁ fun b hb o e => ?_) (fun b o hb e => ?_) hS₂ (fun k' => ?_) ?_⟩
    · rw [hs₂.2 b fun q => hSf (q ▸ hb)]; exact e
    · rw [hs₂.2 b fun q => hb (q ▸ List.mem_cons_self)]
      exact hk₁ b o (fun q => hb (List.mem_cons_of_mem _ q)) (hkeep b o hb e)
    · rw [hp₂.mem_iff, List.take_add_one, hz, Option.toList_some, List.mem_append, ← hm k']
      split
      · next q => exact ⟨.inl, fun q' => q'.elim id fun q' => (List.mem_singleton.mp q').symm ▸ q⟩
      · rw [List.mem_append]
    · have := hp₂.length_eq
      unfold keysIn at this
      rw [List.length_map, Array.length_toList] at this
      rw [this]
      split
      · rw [List.length_map, Array.length_toList]; exact Nat.le_succ_of_le hsz
      · rw [List.length_append, List.length_map, Array.length_toList]; exact Nat.succ_le_succ hsz
end
end Mine
namespace Mine
open PySem
section
variable {prog : Program} {w : World} {A : Around} {E : Value → Shared → Prop} {s : Shared}
theorem setI_fresh {h : Heap} {a : Addr} {b : Bool} (ho : h.get? a = some (setO #[] 0 (.fresh 0 0 (!b)))) : SetI b h a #[] :=
  ⟨⟨_, _, ho, rfl, ⟨rfl, .nil, rfl⟩⟩, fun _ he => by simp at he, .nil⟩
set_option maxRecDepth 100000 in
set_option maxHeartbeats 3200000 in
/-- set(l) of a list of ints -/
theorem call_setI {l : Addr} {items : Array Value} {n : Nat} {ns : List Int} {Q : Value → Shared → Prop} (hh : A.handled = none) (hl : s.heap.get? l = some (lstO items n)) (hi : ∀ (i : Nat) (v : Value), items[i]? = some v → ∃ (k : Int) (t : Tok), ns[i]? = some k ∧ v = Value.int k t)
    (hn : ns.length = items.size) (hb : items.size + 1 < scanBound)
    (h : ∀ (h' : Heap) (tk : Nat) es, (∀ b o, s.heap.get? b = some o → h'.get? b = some o) → SetI (byText w) h' s.heap.objs.size es → (∀ k, k ∈ keysIn es ↔ k ∈ ns) → Q (.ref s.heap.objs.size) { s with heap := h', toks := tk }) :
    wpAny (model prog w) A (call (.type "set") [.ref l]) Q E s := by
  obtain ⟨c, tl, hmro⟩ := F.called_set.mro
  have hmade := F.called_set.made
  have hsub := F.called_set.sub
  refine wpAny_call (codeAny_of_tree ?_)
  show wpAny _ _ (callAny (.type "set") _) _ _ _
  refine wpAny_pure ⟨Code.quiet_builtin _ (by decide +kernel), codeAny_builtin F.entry_type_call ?_⟩
  rw [Around.under_plain (weight_type_call_type "set" [.ref l] []) rfl]
  have h1 := F.called_set.notType
  have h2 := F.called_set.canCreate
  have hct := F.typeCall_set_1 (.ref l)
  repeat (any_goals (first | assumption | wp_step))
  generalize hS0 : s.heap.push (setO #[] 0 (.fresh 0 0 (!byText w))) = hS
  have hget : hS.get? s.heap.objs.size = some (setO #[] 0 (.fresh 0 0 (!byText w))) := hS0 ▸ Heap.get?_push_size _ rfl
  have hsz : hS.objs.size = s.heap.objs.size + 1 := hS0 ▸ Heap.size_push ..
  have hold : ∀ b o, s.heap.get? b = some o → hS.get? b = some o := fun b o e => hS0 ▸ Heap.get?_push_of_some _ e
  refine codeAny_mono (code_set_new' (.ref l) (E := E) (Q₁ := fun obj s₁ => obj = .ref s.heap.objs.size ∧ s₁ = { s with heap := hS }) ⟨rfl, by rw [hS0]⟩) fun r s₁ hr => ?_
  cases r with
  | error e => exact hr
  | ok fl =>
    cases fl with
    | ret obj =>
      obtain ⟨rfl, rfl⟩ := hr
      have hT : Shared.TypeIs { s with heap := hS } (.ref s.heap.objs.size) "set" := ⟨_, hget, rfl⟩
      have hli := F.called_set.init.lookup
      have hbi := F.called_set.init.bind (.ref s.heap.objs.size)
      repeat (any_goals (first | assumption | wp_step))
      refine codeAny_mono (codeAny_call_builtin (R := wants (fun r s₂ => r = .none ∧ Q (.ref s.heap.objs.size) s₂) E) F.called_set.init.plain F.entry_set_init (check_set_init_1 hT ?_)) fun r₂ s₂ hr₂ => ?_
      · have hol := hold l _ hl
        have hsls := F.sub_list_set
        have hslf := F.sub_list_frozenset
        have hne : (Value.type "list" == Value.type "dict") = false := by decide
        have hl1 : hS.IsList l items := ⟨_, hol, rfl, n, rfl⟩
        unfold Builtin.«set.__init__» noKeywords Builtin.Frozenset.updateFrom
        generalize hPI : pyIter = PI
        wp_walk
        subst hPI
        refine wpAny_pyIter_list hl1 ?_
        refine wpAny_bind (wpAny_runValue ?_)
        have hlS : l < s.heap.objs.size := Heap.lt_size hl
        have hneI : l ≠ hS.objs.size := by rw [hsz]; exact Nat.ne_of_lt (Nat.lt_succ_of_lt hlS)
        have hh3 : A.in1.in1.in1.handled = none := hh
        refine fill_loop (s := { s with heap := s.heap }) (Walks.list hh3 _ l hneI items) s.heap.objs.size ?_ (bt := byText w) hi hn hb (fun h' tk es hk hS' hm => ?_) (items.size - 0) 0 _ _ #[] rfl (Nat.zero_le _)
          ⟨⟨_, Heap.get?_push_size _ rfl, rfl, rfl⟩, hl1.push _⟩ (fun b o _ e => Heap.get?_push_of_some _ (hold b o e)) (setI_fresh (Heap.get?_push_of_some _ hget)) (fun k => by simp [keysIn]) (Nat.le_refl _)
        · rw [hsz]; simp only [List.mem_cons, List.not_mem_nil, or_false, not_or]
          exact ⟨Nat.ne_of_lt (Nat.lt_succ_self _), Nat.ne_of_gt hlS⟩
        · refine wpAny_pure ?_
          show wpAny _ _ (ret Value.none) _ _ _
          refine wpAny_pure ⟨rfl, h h' tk es (fun b o e => hk b o ?_ e) hS' hm⟩
          have hb := Heap.lt_size e
          rw [hsz]; simp only [List.mem_cons, List.not_mem_nil, or_false, not_or]
          exact ⟨Nat.ne_of_lt hb, Nat.ne_of_lt (Nat.lt_succ_of_lt hb)⟩
      · cases r₂ with
        | error e => exact hr₂
        | ok fl₂ =>
          cases fl₂ with
          | ret r =>
            obtain ⟨rfl, hq⟩ := hr₂
            repeat (any_goals (first | assumption | wp_step))
          | _ => exact hr₂.elim
    | _ => exact hr.elim
end
end Mine
namespace Mine
open PySem
set_option maxRecDepth 100000

theorem slot_setit_next : Slot "set_iterator" "__next__" "set_iterator.__next__" :=
  .of (owner := "set_iterator") (n := "__next__") (by rw [typeLookup_type, builtinLookup_eq_fast]; kernel_rfl) (by decide +kernel) (by decide +kernel) (by decide +kernel)
    (by first | exact .inl (by decide +kernel) | exact .inr (by decide +kernel)) (by rw [isSubtype_type]; kernel_rfl)
theorem slot_setit_iter : Slot "set_iterator" "__iter__" "set_iterator.__iter__" :=
  .of (owner := "set_iterator") (n := "__iter__") (by rw [typeLookup_type, builtinLookup_eq_fast]; kernel_rfl) (by decide +kernel) (by decide +kernel) (by decide +kernel)
    (by first | exact .inl (by decide +kernel) | exact .inr (by decide +kernel)) (by rw [isSubtype_type]; kernel_rfl)
theorem entry_setit_next : entryFor table "set_iterator.__next__" = some Builtin.«set_iterator.__next__» := entryFor_of_tree (by kernel_rfl)
theorem entry_set_iter : entryFor table "set.__iter__" = some Builtin.«frozenset.__iter__» :=
  entryFor_alias (id' := "frozenset.__iter__") (by kernel_rfl) rfl (by decide +kernel) (by kernel_rfl)
theorem entry_setit_iter : entryFor table "set_iterator.__iter__" = some Builtin.«dict_keyiterator.__iter__» :=
  entryFor_alias (id' := "dict_keyiterator.__iter__") (by kernel_rfl) rfl (by decide +kernel) (by kernel_rfl)
theorem args_setit_iter (a : Value) : argsOk "set_iterator.__iter__" ⟨[a], []⟩ := by unfold argsOk; kernel_rfl
theorem args_setit_next (a : Value) : argsOk "set_iterator.__next__" ⟨[a], []⟩ := by unfold argsOk; kernel_rfl

noncomputable abbrev setItO (first : Value) (a : Addr) (i n ep : Nat) : Obj := { cls := .type "set_iterator", dict := Option.none, data := .fields #[first, .int i 0, .ref a, .int n 0, .int ep 0], slots := #[] }

section
variable {prog : Program} {w : World} {A : Around} {E : Value → Shared → Prop} {s : Shared} {I a : Addr} {first : Value} {i ep : Nat} {es : Array (Int × Value)} {t : SetTable} {Q : Option Value → Shared → Prop}

/-- the iterator's next, up to its road -/
theorem next_core (hit : s.heap.get? I = some (setItO first a i es.size ep)) (hs : s.heap.get? a = some (setO es ep t)) (hf : t.fits es.size = true)
    (h : wpAny (model prog w) A.in1 (if let .int slot _ := first then do
        match ← setNext a slot.toNat (i : Int).toNat (ep : Int).toNat with
        | some (x, next) =>
          setField (.ref I) 0 (rawInt next)
          setField (.ref I) 1 (rawInt ((i : Int) + 1))
          ret x
        | none => setField (.ref I) 2 .none; raiseNew (← newExc (.type "StopIteration") [])
      else do
        let some places ← seqItems? first | unsupported "internal:set_iterator"
        match places[(i : Int).toNat]? with
        | some (.int place _) =>
          let x ← setNextDrawn a place.toNat (ep : Int).toNat
          setField (.ref I) 1 (rawInt ((i : Int) + 1))
          ret x
        | some _ => unsupported "internal:set_iterator"
        | none => setField (.ref I) 0 (rawInt 0); setField (.ref I) 2 .none; raiseNew (← newExc (.type "StopIteration") []))
      (fun fin s' => ∃ v, fin = .done (.ret v) ∧ Q (some v) s') (fun e s' => wpAny (model prog w) A (do if ← isInstance e (.type "StopIteration") then pure none else throw e) Q E s') s) :
    wpAny (model prog w) A (pyNext (.ref I)) Q E s := by
  have hT : s.TypeIs (.ref I) "set_iterator" := ⟨_, hit, rfl⟩
  unfold pyNext
  refine wpAny_bind (wpAny_attempt (wpAny_callSpecial?_slot (name := Str.ofString "__next__") hT slot_setit_next (wpAny_call_entry slot_setit_next hT entry_setit_next ?_ (args_setit_next _))))
  refine wpAny_bind (wpAny_pure (wpAny_bind (wpAny_fieldsOf hit rfl ?_)))
  refine wpAny_bind (wpAny_setEntries_of hs rfl hf ?_)
  show wpAny _ _ (if (((es.size : Nat) : Int) != ((es.size : Nat) : Int)) = true then _ else _) _ _ _
  rw [if_neg (by simp)]
  exact wpAny_mono h (fun fin s' q => by obtain ⟨v, e, q⟩ := q; exact ⟨v, e, wpAny_pure q⟩) fun e s' q => q
/-- the iterator stops -/
theorem stop_core (hh : A.handled = none) {h₁ : Heap} (h : ∀ h', (∀ b o, h₁.get? b = some o → h'.get? b = some o) → Q none { s with heap := h' }) {Q' : Fin → Shared → Prop} :
    wpAny (model prog w) A.in1 (do raiseNew (← newExc (.type "StopIteration") [])) Q'
      (fun e s' => wpAny (model prog w) A (do if ← isInstance e (.type "StopIteration") then pure none else throw e) Q E s') { s with heap := h₁ } := by
  refine wpAny_bind ?_
  simp only [newExc, newTuple]
  refine wpAny_bind (wpAny_newObj_type ?_ (by size_fits))
  refine wpAny_bind (m := firstArgMember _ _) (wpAny_of_eq (a := Value.none) (by first | rfl | (simp only [firstArgMember]; rfl)) ?_)
  refine wpAny_newObj_type ?_ (by size_fits)
  simp only [raiseNew]
  refine wpAny_bind (wpAny_handled ?_)
  rw [show A.in1.handled = none from hh]
  refine wpAny_bind (wpAny_pure (wpAny_throw ?_))
  refine wpAny_bind (wpAny_isInstance (T := "StopIteration") (b := true) ⟨_, Heap.get?_push_size _ rfl, rfl⟩ isSubtype_stop ?_)
  exact wpAny_pure (h _ fun b o e => Heap.get?_push_of_some _ (Heap.get?_push_of_some _ e))
theorem next_int {slot j : Nat} {x : Value} (hit : s.heap.get? I = some (setItO (.int slot 0) a i es.size ep)) (hs : s.heap.get? a = some (setO es ep t)) (hf : t.fits es.size = true)
    (hN : ∀ (E' : Value → Shared → Prop) (Q' : Option (Value × Nat) → Shared → Prop), Q' (some (x, j)) s → wpAny (model prog w) A.in1 (setNext a slot i ep) Q' E' s)
    (hQ : ∀ h', h'.get? I = some (setItO (.int j 0) a (i + 1) es.size ep) → Heap.SameBut I s.heap h' → Q (some x) { s with heap := h' }) : wpAny (model prog w) A (pyNext (.ref I)) Q E s := by
  refine next_core hit hs hf (wpAny_bind (hN _ _ ?_))
  refine wpAny_bind (wpAny_setField_rec hit (by simp) fun h₁ e₁ s₁ => wpAny_bind (wpAny_setField_rec (s := { s with heap := h₁ }) e₁ (by simp) fun h₂ e₂ s₂ => ?_))
  exact wpAny_pure ⟨x, rfl, hQ h₂ e₂ (s₁.trans s₂)⟩
theorem next_int_end (hh : A.handled = none) {slot : Nat} (hit : s.heap.get? I = some (setItO (.int slot 0) a i es.size ep)) (hs : s.heap.get? a = some (setO es ep t)) (hf : t.fits es.size = true)
    (hN : ∀ (E' : Value → Shared → Prop) (Q' : Option (Value × Nat) → Shared → Prop), Q' none s → wpAny (model prog w) A.in1 (setNext a slot i ep) Q' E' s)
    (hQ : ∀ h', (∀ b o, b ≠ I → s.heap.get? b = some o → h'.get? b = some o) → Q none { s with heap := h' }) : wpAny (model prog w) A (pyNext (.ref I)) Q E s := by
  refine next_core hit hs hf (wpAny_bind (hN _ _ ?_))
  refine wpAny_bind (wpAny_setField_rec hit (by simp) fun h₁ e₁ s₁ => stop_core hh fun h' hk => hQ h' fun b o hb e => hk b o ((s₁.2 b hb).trans e))
theorem next_dr {T : Addr} {ps : Array Value} {n' pl : Nat} {tok : Tok} {x : Int × Value} (hit : s.heap.get? I = some (setItO (.ref T) a i es.size ep)) (hs : s.heap.get? a = some (setO es ep t)) (hf : t.fits es.size = true)
    (hT : s.heap.get? T = some (tupO ps n')) (hp : ps[i]? = some (.int pl tok)) (hx : es[pl]? = some x)
    (hQ : ∀ h', h'.get? I = some (setItO (.ref T) a (i + 1) es.size ep) → Heap.SameBut I s.heap h' → Q (some x.2) { s with heap := h' }) : wpAny (model prog w) A (pyNext (.ref I)) Q E s := by
  refine next_core hit hs hf (wpAny_bind (wpAny_seqItems hT rfl ?_))
  show wpAny _ _ (match ps[i]? with | some (Value.int place tok) => _ | some val => _ | none => _) _ _ _
  rw [hp]
  refine wpAny_bind ?_
  unfold setNextDrawn
  refine wpAny_bind (wpAny_setState_of hs rfl hf ?_)
  show wpAny _ _ (if (ep != ep) = true then _ else _) _ _ _
  rw [if_neg (by simp)]
  show wpAny _ _ (match es[pl]? with | some (_, x) => _ | _ => _) _ _ _
  rw [hx]
  refine wpAny_pure (wpAny_bind (wpAny_setField_rec hit (by simp) fun h₁ e₁ s₁ => ?_))
  exact wpAny_pure ⟨x.2, rfl, hQ h₁ e₁ s₁⟩
theorem next_dr_end (hh : A.handled = none) {T : Addr} {ps : Array Value} {n' : Nat} (hit : s.heap.get? I = some (setItO (.ref T) a i es.size ep)) (hs : s.heap.get? a = some (setO es ep t)) (hf : t.fits es.size = true)
    (hT : s.heap.get? T = some (tupO ps n')) (hp : ps[i]? = none)
    (hQ : ∀ h', (∀ b o, b ≠ I → s.heap.get? b = some o → h'.get? b = some o) → Q none { s with heap := h' }) : wpAny (model prog w) A (pyNext (.ref I)) Q E s := by
  refine next_core hit hs hf (wpAny_bind (wpAny_seqItems hT rfl ?_))
  show wpAny _ _ (match ps[i]? with | some (Value.int place tok) => _ | some val => _ | none => _) _ _ _
  rw [hp]
  refine wpAny_bind (wpAny_setField_rec hit (by simp) fun h₁ e₁ s₁ => wpAny_bind (wpAny_setField_rec (s := { s with heap := h₁ }) e₁ (by simp) fun h₂ e₂ s₂ => ?_))
  exact stop_core hh fun h' hk => hQ h' fun b o hb e => hk b o (((s₁.trans s₂).2 b hb).trans e)
end
end Mine
namespace Mine
open PySem

section
variable {prog : Program} {w : World} {A : Around} {E : Value → Shared → Prop} {s : Shared}
theorem wpAny_chooseI {src : Source} {n : Nat} {Q : Nat → Shared → Prop} (hn : 0 < n) (h : ∀ i dw, i < n → Q i { s with drawn := dw }) : wpAny (model prog w) A (choose src n) Q E s := fun _ _ _ => by
  unfold choose
  rw [Sem.wp_choose]
  exact ⟨Nat.ne_of_gt hn, h _ _ (Nat.mod_lt _ hn)⟩
theorem erase_perm {α : Type} {x : α} : ∀ {l : List α} {i : Nat}, l[i]? = some x → (x :: l.eraseIdx i).Perm l
  | [], _, h => by simp at h
  | y :: l, 0, h => by cases h; exact List.Perm.refl _
  | y :: l, i + 1, h => (List.Perm.swap y x (l.eraseIdx i)).trans (List.Perm.cons y (erase_perm h))
theorem draw_ok {α : Type} {Q : List α → Shared → Prop} : ∀ (n : Nat) (xs : List α) (dw : Drawn), xs.length = n → (∀ ys dw', ys.Perm xs → Q ys { s with drawn := dw' }) → wpAny (model prog w) A (drawOrder n xs) Q E { s with drawn := dw }
  | 0, xs, dw, hn, h => wpAny_pure (h [] dw (by rw [List.eq_nil_of_length_eq_zero hn]))
  | n + 1, [], dw, hn, h => nomatch hn
  | n + 1, x :: xs, dw, hn, h => by
    unfold drawOrder
    refine wpAny_bind (wpAny_chooseI (s := { s with drawn := dw }) (Nat.succ_pos _) fun i dw₁ hi => ?_)
    have e : (x :: xs)[i]? = some (x :: xs)[i] := List.getElem?_eq_getElem hi
    rw [e]
    refine wpAny_bind (draw_ok n _ dw₁ ?_ fun ys dw₂ hp => wpAny_pure (h _ dw₂ ((List.Perm.cons _ hp).trans (erase_perm e))))
    rw [List.length_eraseIdx, if_pos hi, hn]; rfl
theorem pick_go {α : Type} (next : Nat → Nat) : ∀ (fuel k : Nat) (left : List α) (out : Array α), left.length = fuel → (pickOrder.go next fuel k left out).toList.Perm (out.toList ++ left)
  | 0, k, left, out, h => by rw [List.eq_nil_of_length_eq_zero h, List.append_nil]; exact List.Perm.refl _
  | fuel + 1, k, left, out, h => by
    have hi : next k % left.length < left.length := Nat.mod_lt _ (h ▸ Nat.succ_pos _)
    have e : left[next k % left.length]? = some left[next k % left.length] := List.getElem?_eq_getElem hi
    unfold pickOrder.go
    rw [e]
    refine (pick_go next fuel (k + 1) _ _ (by rw [List.length_eraseIdx, if_pos hi, h]; rfl)).trans ?_
    rw [Array.toList_push, List.append_assoc]
    exact List.Perm.append_left _ (erase_perm e)
theorem pick_perm {α : Type} (next : Nat → Nat) (xs : Array α) : (pickOrder next xs).toList.Perm xs.toList := pick_go next _ 0 xs.toList #[] (Array.length_toList ..)

/-- the places where the walk by the table stands -/
noncomputable def slotAt (t : SetTable) (i : Nat) : Nat := match i with | 0 => 0 | i + 1 => t.place.getD i 0 + 1
theorem below_slot {t : SetTable} (hr : Ris t.place) {i : Nat} (hi : i ≤ t.place.size) : SetTable.below t.place (slotAt t i) = i := by
  have hb := below_ok hr (slotAt t i)
  have mono : ∀ i i' (h : i < t.place.size) (h' : i' < t.place.size), i < i' → t.place[i] < t.place[i'] := fun i i' h h' l => by
    have := List.pairwise_iff_getElem.mp hr i i' (by simpa using h) (by simpa using h') l
    simpa using this
  rcases Nat.lt_trichotomy (SetTable.below t.place (slotAt t i)) i with h | h | h
  · exfalso
    cases i with
    | zero => exact Nat.not_lt_zero _ h
    | succ j =>
      have hj : j < t.place.size := hi
      have e : slotAt t (j + 1) = t.place[j] + 1 := by unfold slotAt; dsimp only; rw [Array.getD_eq_getD_getElem?, getElem?_pos _ j hj]; rfl
      have := hb.2.2 j hj (Nat.le_of_lt_succ h)
      rw [e] at this
      exact Nat.not_succ_le_self _ this
  · exact h
  · exfalso
    have hlt : i < t.place.size := Nat.lt_of_lt_of_le h hb.1
    have := hb.2.1 i hlt h
    cases i with
    | zero => exact Nat.not_lt_zero _ this
    | succ j =>
      have hj : j < t.place.size := Nat.lt_of_succ_lt hlt
      have e : slotAt t (j + 1) = t.place[j] + 1 := by unfold slotAt; dsimp only; rw [Array.getD_eq_getD_getElem?, getElem?_pos _ j hj]; rfl
      rw [e] at this
      exact Nat.lt_irrefl _ (Nat.lt_of_lt_of_le (mono j (j + 1) hj hlt (Nat.lt_succ_self _)) (Nat.le_of_lt_succ this))

section
variable {a : Addr} {es : Array (Int × Value)} {ep i : Nat} {t : SetTable}
theorem next_text (hb : byText w = true) (hs : s.heap.get? a = some (setO es ep t)) (hf : t.fits es.size = true) {Q : Option (Value × Nat) → Shared → Prop}
    (h : Q (((pickOrder (w.params.setOrder a ep) es)[i]?).map fun e => (e.2, 0)) s) : wpAny (model prog w) A (setNext a 0 i ep) Q E s := by
  unfold setNext
  refine wpAny_bind (wpAny_setState_of hs rfl hf (wpAny_bind (wpAny_byText ?_)))
  rw [hb]
  show wpAny _ _ (if (ep != ep) = true then _ else _) _ _ _
  rw [if_neg (by simp)]
  refine wpAny_bind ?_
  unfold setWalk
  refine wpAny_bind (wpAny_setState_of hs rfl hf (wpAny_bind (wpAny_byText ?_)))
  rw [hb]
  exact wpAny_bind (wpAny_askSetting (wpAny_pure (wpAny_pure h)))
theorem next_tab (hb : byText w = false) (hd : (!t.plain && decide (es.size > 1)) = false) (hs : s.heap.get? a = some (setO es ep t)) (hf : t.fits es.size = true) (hT : TabOk false t) (hi : i ≤ es.size) {Q : Option (Value × Nat) → Shared → Prop}
    (h : Q (es[i]?.map fun e => (e.2, slotAt t (i + 1))) s) : wpAny (model prog w) A (setNext a (slotAt t i) i ep) Q E s := by
  have hsz : t.place.size = es.size := by
    simp only [SetTable.fits, Bool.and_eq_true, beq_iff_eq] at hf; exact hf.1
  unfold setNext
  refine wpAny_bind (wpAny_setState_of hs rfl hf (wpAny_bind (wpAny_byText ?_)))
  rw [hb]
  refine wpAny_ite_split (fun q => absurd q Bool.false_ne_true) fun _ => ?_
  refine wpAny_ite_split (fun q => absurd (hd ▸ q : false = true) Bool.false_ne_true) fun _ => ?_
  refine wpAny_bind ?_
  show wpAny _ _ (if (!t.led && !es.isEmpty) = true then unsupported "set:maker-not-led" else pure ()) _ _ _
  rw [hT.led, if_neg (by simp)]
  refine wpAny_pure (wpAny_pure ?_)
  rw [below_slot hT.ris (hsz ▸ hi)]
  rcases Nat.lt_or_eq_of_le hi with hl | rfl
  · have h1 : es[i]? = some es[i] := getElem?_pos es i hl
    have h2 : t.place[i]? = some t.place[i] := getElem?_pos _ i (hsz ▸ hl)
    rw [h1] at h
    rw [h1, h2]
    have e : slotAt t (i + 1) = t.place[i]'(hsz ▸ hl) + 1 := by unfold slotAt; dsimp only; rw [Array.getD_eq_getD_getElem?, h2]; rfl
    rw [e] at h
    exact h
  · have h1 : es[es.size]? = none := Array.getElem?_size
    rw [h1] at h ⊢
    exact h
end
end
end Mine
namespace Mine
open PySem

section
variable {prog : Program} {w : World} {A : Around} {E : Value → Shared → Prop} {s : Shared}

theorem setit_self {I a : Addr} {first : Value} {i n ep : Nat} {Q : Value → Shared → Prop} (hit : s.heap.get? I = some (setItO first a i n ep)) (h : Q (.ref I) s) : wpAny (model prog w) A (pyIter (.ref I)) Q E s := by
  have hT : s.TypeIs (.ref I) "set_iterator" := ⟨_, hit, rfl⟩
  refine wpAny_pyIter_slot hT slot_setit_iter (wpAny_call_entry slot_setit_iter hT entry_setit_iter ?_ (args_setit_iter _))
  show wpAny _ _ (ret (.ref I)) _ _ s
  exact wpAny_pure ⟨_, rfl, "set_iterator", _, hT, slot_setit_next.lookup, h⟩

theorem walks_text (hh : A.handled = none) {I a : Addr} (hne : a ≠ I) {es : Array (Int × Value)} {ep : Nat} {t : SetTable} (hb : byText w = true) (hf : t.fits es.size = true) :
    Walks prog w A I [I, a] [I] es.size (fun i v => ((pickOrder (w.params.setOrder a ep) es).toList.map (·.2))[i]? = some v) (fun i h => h.get? I = some (setItO (.int 0 0) a i es.size ep) ∧ h.get? a = some (setO es ep t)) where
  sub := fun b hb => by rw [List.mem_singleton.mp hb]; exact List.mem_cons_self
  frame := fun _ _ _ st hk => ⟨hk I List.mem_cons_self _ st.1, hk a (List.mem_cons_of_mem _ List.mem_cons_self) _ st.2⟩
  item := fun i s Q E hi st hQ => by
    have hl : (pickOrder (w.params.setOrder a ep) es).size = es.size := by have := (pick_perm (w.params.setOrder a ep) es).length_eq; rwa [Array.length_toList, Array.length_toList] at this
    have e : (pickOrder (w.params.setOrder a ep) es)[i]? = some ((pickOrder (w.params.setOrder a ep) es)[i]'(hl.symm ▸ hi)) := getElem?_pos _ i _
    refine next_int (j := 0) st.1 st.2 hf (fun E' Q' q => next_text hb st.2 hf (by rw [e]; exact q)) fun h' hit' hs' => hQ _ h' s.toks ?_ ⟨hit', (hs'.2 a hne).trans st.2⟩ fun b o hb e => (hs'.2 b fun q => hb (q ▸ List.mem_cons_self)).trans e
    rw [List.getElem?_map, Array.getElem?_toList, e]; rfl
  done := fun s Q E st hQ => by
    have hl : (pickOrder (w.params.setOrder a ep) es).size = es.size := by have := (pick_perm (w.params.setOrder a ep) es).length_eq; rwa [Array.length_toList, Array.length_toList] at this
    refine next_int_end hh st.1 st.2 hf (fun E' Q' q => next_text hb st.2 hf (by rw [Array.getElem?_eq_none (Nat.le_of_eq hl)]; exact q)) fun h' hk => hQ h' s.toks fun b o hb e => hk b o (fun q => hb (q ▸ List.mem_cons_self)) e
  self := fun _ _ _ _ st hQ => setit_self st.1 hQ
theorem walks_tab (hh : A.handled = none) {I a : Addr} (hne : a ≠ I) {es : Array (Int × Value)} {ep : Nat} {t : SetTable} (hb : byText w = false) (hd : (!t.plain && decide (es.size > 1)) = false) (hf : t.fits es.size = true) (hT : TabOk false t) :
    Walks prog w A I [I, a] [I] es.size (fun i v => (es.toList.map (·.2))[i]? = some v) (fun i h => i ≤ es.size ∧ h.get? I = some (setItO (.int (slotAt t i) 0) a i es.size ep) ∧ h.get? a = some (setO es ep t)) where
  sub := fun b hb => by rw [List.mem_singleton.mp hb]; exact List.mem_cons_self
  frame := fun _ _ _ st hk => ⟨st.1, hk I List.mem_cons_self _ st.2.1, hk a (List.mem_cons_of_mem _ List.mem_cons_self) _ st.2.2⟩
  item := fun i s Q E hi st hQ => by
    have e : es[i]? = some es[i] := getElem?_pos _ i hi
    refine next_int st.2.1 st.2.2 hf (fun E' Q' q => next_tab hb hd st.2.2 hf hT st.1 (by rw [e]; exact q)) fun h' hit' hs' => hQ _ h' s.toks ?_ ⟨hi, hit', (hs'.2 a hne).trans st.2.2⟩ fun b o hb e => (hs'.2 b fun q => hb (q ▸ List.mem_cons_self)).trans e
    rw [List.getElem?_map, Array.getElem?_toList, e]; rfl
  done := fun s Q E st hQ =>
    next_int_end hh st.2.1 st.2.2 hf (fun E' Q' q => next_tab hb hd st.2.2 hf hT st.1 (by rw [Array.getElem?_size]; exact q)) fun h' hk => hQ h' s.toks fun b o hb e => hk b o (fun q => hb (q ▸ List.mem_cons_self)) e
  self := fun _ _ _ _ st hQ => setit_self st.2.1 hQ
theorem walks_dr (hh : A.handled = none) {I a T : Addr} (hne : a ≠ I) (hnT : T ≠ I) {es : Array (Int × Value)} {ep n' : Nat} {t : SetTable} {ys : List Nat} (hp : ys.Perm (List.range es.size)) (hf : t.fits es.size = true) :
    Walks prog w A I [I, a, T] [I] es.size (fun i v => ((ys.map fun j => es.getD j (0, .none)).map (·.2))[i]? = some v)
      (fun i h => h.get? I = some (setItO (.ref T) a i es.size ep) ∧ h.get? a = some (setO es ep t) ∧ h.get? T = some (tupO (ys.map fun (i : Nat) => rawInt i).toArray n')) where
  sub := fun b hb => by rw [List.mem_singleton.mp hb]; exact List.mem_cons_self
  frame := fun _ _ _ st hk => ⟨hk I List.mem_cons_self _ st.1, hk a (List.mem_cons_of_mem _ List.mem_cons_self) _ st.2.1, hk T (List.mem_cons_of_mem _ (List.mem_cons_of_mem _ List.mem_cons_self)) _ st.2.2⟩
  item := fun i s Q E hi st hQ => by
    have hl : ys.length = es.size := hp.length_eq.trans List.length_range
    obtain ⟨y, e⟩ : ∃ y, ys[i]? = some y := ⟨_, List.getElem?_eq_getElem (hl.symm ▸ hi)⟩
    have hm : y < es.size := List.mem_range.mp (hp.mem_iff.mp (List.mem_of_getElem? e))
    have e2 : es[y]? = some (es[y]'hm) := getElem?_pos es y hm
    refine next_dr st.1 st.2.1 hf st.2.2 (by rw [List.getElem?_toArray, List.getElem?_map, e]; rfl) e2 fun h' hit' hs' => hQ _ h' s.toks ?_ ⟨hit', (hs'.2 a hne).trans st.2.1, (hs'.2 T hnT).trans st.2.2⟩ fun b o hb e => (hs'.2 b fun q => hb (q ▸ List.mem_cons_self)).trans e
    rw [List.getElem?_map, List.getElem?_map, e]
    show some (es.getD _ _).2 = _
    rw [Array.getD_eq_getD_getElem?, e2]; rfl
  done := fun s Q E st hQ => by
    have hl : ys.length = es.size := hp.length_eq.trans List.length_range
    refine next_dr_end hh st.1 st.2.1 hf st.2.2 ?_ fun h' hk => hQ h' s.toks fun b o hb e => hk b o (fun q => hb (q ▸ List.mem_cons_self)) e
    rw [List.getElem?_toArray]; exact List.getElem?_eq_none (by rw [List.length_map, hl]; exact Nat.le_refl _)
  self := fun _ _ _ _ st hQ => setit_self st.1 hQ

theorem perm_get {es : Array (Int × Value)} {ys : List Nat} (hp : ys.Perm (List.range es.size)) : ((ys.map fun j => es.getD j (0, .none)).map (·.2)).Perm (es.toList.map (·.2)) := by
  refine List.Perm.map _ ((hp.map _).trans (List.Perm.of_eq ?_))
  apply List.ext_getElem
  · simp
  · intro i h1 h2
    have hi : i < es.size := by simpa using h2
    rw [List.getElem_map, List.getElem_range, Array.getD_eq_getD_getElem?, getElem?_pos es i hi, Array.getElem_toList]; rfl

/-- iter of a set of ints -/
theorem iter_setI {a : Addr} {es : Array (Int × Value)} {Q : Value → Shared → Prop} (hS : SetI (byText w) s.heap a es) (hz : es.size < scanBound)
    (h : ∀ (h' : Heap) (dw : Drawn) (I : Addr) (fp : List Addr) (xs : List Value) (St : Nat → Heap → Prop), (∀ b o, s.heap.get? b = some o → h'.get? b = some o) → s.heap.objs.size ≤ I → (∀ b ∈ fp, b = a ∨ s.heap.objs.size ≤ b) → xs.Perm (es.toList.map (·.2)) →
      (∀ A' : Around, A'.handled = none → Walks prog w A' I fp [I] es.size (fun i v => xs[i]? = some v) St) → St 0 h' → Q (.ref I) { s with heap := h', drawn := dw }) : wpAny (model prog w) A (pyIter (.ref a)) Q E s := by
  obtain ⟨⟨ep, t, ho, hf, hT⟩, _, _⟩ := hS
  have hTy : s.TypeIs (.ref a) "set" := ⟨_, ho, rfl⟩
  have hlt : a < s.heap.objs.size := Heap.lt_size ho
  refine wpAny_pyIter_slot hTy F.slot_set_iter (wpAny_call_entry F.slot_set_iter hTy entry_set_iter ?_ (F.args_set_iter_1 _))
  unfold Builtin.«frozenset.__iter__» Builtin.Frozenset.slot0
  refine wpAny_bind (wpAny_bind (wpAny_pure (wpAny_pure ?_)))
  refine wpAny_bind ?_
  unfold Builtin.Frozenset.sizeOf
  refine wpAny_bind (wpAny_setEntries_of ho rfl hf (wpAny_pure ?_))
  refine wpAny_bind ?_
  unfold setDrawn
  refine wpAny_bind (wpAny_setState_of ho rfl hf (wpAny_bind (wpAny_byText (wpAny_pure ?_))))
  refine wpAny_ite_split (fun q => ?_) fun q => ?_
  · replace q : (!byText w && (!t.plain && decide (es.size > 1))) = true := q
    refine wpAny_bind (draw_ok es.size (List.range es.size) s.drawn List.length_range fun ys dw hp => wpAny_bind (wpAny_newTuple ?_ (by
      rw [List.length_map, hp.length_eq, List.length_range]; exact fits_of_scanBound hz)))
    refine wpAny_bind (wpAny_setEpoch_of (o := setO es ep t) (Heap.get?_push_of_some _ ho) rfl hf ?_)
    refine wpAny_bind ?_
    unfold newFields
    refine wpAny_newObj_type (wpAny_pure ⟨_, rfl, "set_iterator", _, ⟨_, Heap.get?_push_size _ rfl, rfl⟩, slot_setit_next.lookup, ?_⟩)
    generalize hh1 : s.heap.push { cls := .type "tuple", data := .seq (ys.map fun (i : Nat) => rawInt i).toArray } = h₁
    have hT1 : h₁.get? s.heap.objs.size = some (tupO (ys.map fun (i : Nat) => rawInt i).toArray 0) := hh1 ▸ Heap.get?_push_size _ rfl
    have hz1 : h₁.objs.size = s.heap.objs.size + 1 := hh1 ▸ Heap.size_push ..
    have hk1 : ∀ b o, s.heap.get? b = some o → h₁.get? b = some o := fun b o e => hh1 ▸ Heap.get?_push_of_some _ e
    refine h (h₁.push (setItO (.ref s.heap.objs.size) a 0 es.size ep)) dw h₁.objs.size [h₁.objs.size, a, s.heap.objs.size] _ _ (fun b o e => Heap.get?_push_of_some _ (hk1 b o e)) (hz1.symm ▸ Nat.le_succ _) (fun b hb => ?_) (perm_get hp)
      (fun A' hA => walks_dr (n' := 0) (t := t) (ep := ep) hA (hz1.symm ▸ Nat.ne_of_lt (Nat.lt_succ_of_lt hlt)) (hz1.symm ▸ Nat.ne_of_lt (Nat.lt_succ_self _)) hp hf) ⟨Heap.get?_push_size _ rfl, Heap.get?_push_of_some _ (hk1 _ _ ho), Heap.get?_push_of_some _ hT1⟩
    rcases List.mem_cons.mp hb with rfl | hb
    · exact .inr (hz1.symm ▸ Nat.le_succ _)
    · rcases List.mem_cons.mp hb with rfl | hb
      · exact .inl rfl
      · rw [List.mem_singleton.mp hb]; exact .inr (Nat.le_refl _)
  · replace q : ¬ (!byText w && (!t.plain && decide (es.size > 1))) = true := q
    refine wpAny_bind (wpAny_pure (wpAny_bind (wpAny_setEpoch_of ho rfl hf ?_)))
    refine wpAny_bind ?_
    unfold newFields
    refine wpAny_newObj_type (wpAny_pure ⟨_, rfl, "set_iterator", _, ⟨_, Heap.get?_push_size _ rfl, rfl⟩, slot_setit_next.lookup, ?_⟩)
    have hfp : ∀ b ∈ [s.heap.objs.size, a], b = a ∨ s.heap.objs.size ≤ b := fun b hb => by
      rcases List.mem_cons.mp hb with rfl | hb
      · exact .inr (Nat.le_refl _)
      · exact .inl (List.mem_singleton.mp hb)
    have hne : a ≠ s.heap.objs.size := Nat.ne_of_lt hlt
    have go := fun xs St => h (s.heap.push (setItO (.int 0 0) a 0 es.size ep)) s.drawn s.heap.objs.size [s.heap.objs.size, a] xs St (fun b o e => Heap.get?_push_of_some _ e) (Nat.le_refl _) hfp
    cases hb : byText w with
    | true => exact go _ _ ((pick_perm (w.params.setOrder a ep) es).map _) (fun A' hA => walks_text (t := t) hA hne hb hf) ⟨Heap.get?_push_size _ rfl, Heap.get?_push_of_some _ ho⟩
    | false =>
      rw [hb] at q hT
      have hd : (!t.plain && decide (es.size > 1)) = false := by simpa using q
      exact go _ _ (List.Perm.refl _) (fun A' hA => walks_tab (t := t) (ep := ep) hA hne hb hd hf hT) ⟨Nat.zero_le _, Heap.get?_push_size _ rfl, Heap.get?_push_of_some _ ho⟩
end
end Mine
namespace Mine
open PySem

section
variable {prog : Program} {w : World} {A : Around} {E : Value → Shared → Prop} {s : Shared}
set_option maxRecDepth 100000 in
theorem hint_set {r : Addr} {Q : Bool → Shared → Prop} (hT : s.TypeIs (.ref r) "set") (h : Q false s) : wpAny (model prog w) A (Builtin.List.listLengthHint (.ref r)) Q E s := by
  unfold Builtin.List.listLengthHint
  refine wpAny_bind (wpAny_specialOf hT F.slot_set_len.lookup ?_)
  generalize hid : ("set.__len__" : String) = id0
  wp_delta
  rw [show splitId id0 = some ("set", "__len__") from by subst hid; decide +kernel]
  subst hid
  refine wpAny_bind (wpAny_isInstance (T := "set") (b := true) hT (by rw [isSubtype_type]; kernel_rfl) ?_)
  refine wpAny_ite_split (fun hab => absurd hab (by decide)) (fun _ => ?_)
  refine wpAny_ite_split (fun _ => ?_) (fun hab => absurd (by decide +kernel) hab)
  refine wpAny_bind (wpAny_typeOf hT ?_)
  exact wpAny_pure h

theorem items_list {xs : List Value} {acc : Array Value} (h : ItemsOf (fun i v => xs[i]? = some v) acc xs.length) : acc.toList = xs := by
  apply List.ext_getElem?
  intro i
  rcases Nat.lt_or_ge i xs.length with hi | hi
  · have hi' : i < acc.size := h.1.symm ▸ hi
    rw [Array.getElem?_toList, getElem?_pos acc i hi', h.2 i _ (getElem?_pos acc i hi')]
  · rw [Array.getElem?_toList, Array.getElem?_eq_none (h.1.symm ▸ hi), List.getElem?_eq_none hi]

theorem extend_setI {R : Result → Shared → Prop} {a S : Addr} {es : Array (Int × Value)} (hh : A.handled = none) (hS : SetI (byText w) s.heap a es) (hz : es.size < scanBound) (hSa : S ≠ a) (res : Value) (hL : s.heap.get? S = some (lstO #[] 0))
    (hR : ∀ h' tk dw acc' c', (∀ b o, b ≠ S → s.heap.get? b = some o → h'.get? b = some o) → h'.get? S = some (lstO acc' c') → acc'.toList.Perm (es.toList.map (·.2)) → R (.ok (.ret res)) { s with heap := h', toks := tk, drawn := dw }) :
    wpAny (model prog w) A.in1 (Builtin.List.listExtendWith (.ref S) (.ref a) res)
      (fun fin s' => match fin with | .done f => R (.ok f) s' | .again c' => c'.quiet = true ∧ codeAny (model prog w) A c' R s') (fun e s' => R (.error e) s') s := by
  have hT : s.TypeIs (.ref a) "set" := by obtain ⟨ep, t, ho, _⟩ := hS.obj; exact ⟨_, ho, rfl⟩
  have hSlt : S < s.heap.objs.size := Heap.lt_size hL
  unfold Builtin.List.listExtendWith
  refine wpAny_bind (wpAny_typeOf hT ?_)
  have h1 : Builtin.List.listSameRef (.ref S) (.ref a) = false := by simp [Builtin.List.listSameRef, hSa]
  have h2 : (Value.type "set" == Value.type "list") = false := by decide
  have h3 : (Value.type "set" == Value.type "tuple") = false := by decide
  rw [h1, h2, h3]
  simp only [Bool.or_false, Bool.false_eq_true, if_false]
  refine wpAny_bind (iter_setI hS hz fun h₁ dw I fp xs St hk hI hfp hp W st => ?_)
  have hSI : S ≠ I := Nat.ne_of_lt (Nat.lt_of_lt_of_le hSlt hI)
  have hSf : S ∉ fp := fun q => (hfp S q).elim hSa fun q => Nat.lt_irrefl _ (Nat.lt_of_lt_of_le hSlt q)
  have hl : xs.length = es.size := by rw [hp.length_eq, List.length_map, Array.length_toList]
  have key : ∀ (h : Heap) (c₁ tk : Nat), St 0 h → (∀ b o, b ≠ S → s.heap.get? b = some o → h.get? b = some o) → h.get? S = some (lstO #[] c₁) →
      codeAny (model prog w) A (.builtin "list.extend.loop" ⟨[.ref S, .ref I, res], []⟩) R { s with heap := h, toks := tk, drawn := dw } := by
    intro h c₁ tk hst hk hS₁
    refine codeAny_extend_loopS (W A.in1 hh).toS (fits_of_scanBound hz) S hSf res es.size 0 _ #[] c₁ rfl (Nat.zero_le _) hst hS₁ (ItemsOf.nil _) fun s' acc' c' hm hS' hacc => ?_
    rw [Moved.eq_with hm]
    refine hR s'.heap s'.toks dw acc' c' (fun b o hb e => hm.heap b o (fun hmem => ?_) (hk b o hb e)) hS' ?_
    · rcases List.mem_cons.mp hmem with e' | hmem
      · exact hb e'
      · exact absurd (Heap.lt_size e) (by rw [List.mem_singleton.mp hmem]; exact Nat.not_lt_of_le hI)
    · rw [← hl] at hacc; rw [items_list hacc]; exact hp
  have hS₁ := hk _ _ hL
  refine wpAny_bind (wpAny_holding (hint_set (s := { s with heap := h₁, drawn := dw }) (by obtain ⟨ep, t, ho, _⟩ := hS.obj; exact ⟨_, hk _ _ ho, rfl⟩) ?_))
  refine wpAny_ite_split (fun _ => ?_) (fun _ => wpAny_pure ⟨plainId_quiet PySem.F.plain_extend_loop _, key _ 0 _ st (fun b o _ e => hk b o e) hS₁⟩)
  refine wpAny_bind (wpAny_rule (wpAny_bind ?_))
  show wpAny _ _ (updateSeq S (·.push .none) >>= fun _ => updateSeq S (·.pop)) _ _ _
  refine wpAny_bind (wpAny_updateSeq hS₁ rfl ?_)
  have hS₂ := Heap.get?_update_self (Obj.mapSeq (·.push Value.none)) hS₁ rfl
  refine wpAny_updateSeq (hz := by seq_fits) hS₂ rfl ?_
  have hS₃ := Heap.get?_update_self (Obj.mapSeq (·.pop)) hS₂ rfl
  refine wpAny_pure ⟨plainId_quiet PySem.F.plain_extend_loop _, key _ _ _ ?_ (fun b o hb e => ?_) hS₃⟩
  · refine (W A.in1 hh).frame 0 _ _ st fun b hb o e => ?_
    have hbS : b ≠ S := fun h => hSf (h ▸ hb)
    exact (Heap.get?_update_other _ _ (Ne.symm hbS)).trans ((Heap.get?_update_other _ _ (Ne.symm hbS)).trans e)
  · exact (Heap.get?_update_other _ _ (Ne.symm hb)).trans ((Heap.get?_update_other _ _ (Ne.symm hb)).trans (hk b o e))

theorem collect_setI {a : Addr} {es : Array (Int × Value)} {Q : List Value → Shared → Prop} (hh : A.handled = none) (hS : SetI (byText w) s.heap a es) (hz : es.size < scanBound)
    (h : ∀ h' tk dw xs, (∀ b o, s.heap.get? b = some o → h'.get? b = some o) → xs.Perm (es.toList.map (·.2)) → Q xs { s with heap := h', toks := tk, drawn := dw }) : wpAny (model prog w) A (collect (.ref a)) Q E s := by
  have hlt : a < s.heap.objs.size := by obtain ⟨ep, t, ho, _⟩ := hS.obj; exact Heap.lt_size ho
  unfold collect
  refine wpAny_bind (wpAny_runValue (codeAny_builtin PyProof.Rows.entry_proto_collect' ?_))
  show wpAny _ _ (do again (.builtin "list.__iadd__" ⟨[← newList [], .ref a], []⟩)) _ _ s
  refine wpAny_bind (wpAny_newList (wpAny_pure ⟨Code.quiet_builtin _ (by decide +kernel), codeAny_builtin PyProof.Rows.entry_list_iadd' ?_⟩))
  rw [Around.under_plainId (show plainId "list.__iadd__" = true by decide +kernel) _]
  show wpAny _ _ (Builtin.List.listExtendWith (.ref s.heap.objs.size) (.ref a) (.ref s.heap.objs.size)) _ _ _
  refine extend_setI (R := fun r s' => match r with
    | .ok (.ret v) => wpAny (model prog w) A (match v with
      | .ref a => do
        match (← load a).data with
        | .seq xs _ => pure xs.toList
        | _ => unsupported "internal:collect"
      | _ => unsupported "internal:collect") Q E s'
    | .ok _ => False
    | .error e => E e s') (A := A) (s := { s with heap := s.heap.push (lstO #[] 0) }) hh (hS.move fun o e => Heap.get?_push_of_some _ e) hz (Nat.ne_of_gt hlt) _ (Heap.get?_push_size _ rfl) fun h' tk dw acc' c' hk hL hp => ?_
  show wpAny (model prog w) A (do
      let o ← load s.heap.objs.size
      match o.data with
      | .seq xs _ => pure xs.toList
      | _ => unsupported "internal:collect") Q E { s with heap := h', toks := tk, drawn := dw }
  refine wpAny_bind (wpAny_load hL (wpAny_pure (h h' tk dw _ (fun b o e => hk b o (Nat.ne_of_lt (Heap.lt_size e)) (Heap.get?_push_of_some _ e)) hp)))
end
end Mine
namespace Mine
open PySem PyProof.Rows

section
variable {prog : Program} {w : World} {A : Around} {E : Value → Shared → Prop} {s : Shared}

theorem sorted_setI {a : Addr} {es : Array (Int × Value)} {Q : Value → Shared → Prop} (hh : A.handled = none) (hS : SetI (byText w) s.heap a es) (hz : es.size < 64)
    (h : ∀ h' tk dw L c (out : Array Value) ns', (∀ b o, s.heap.get? b = some o → h'.get? b = some o) → (∀ b o, s.heap.get? b = some o → @LT.lt Nat _ b L) → h'.get? L = some (lstO out c) → IntsAre out.toList ns' → ns'.Perm (keysIn es) → ns'.Pairwise (· ≤ ·) →
      Q (.ref L) { s with heap := h', toks := tk, drawn := dw }) : wpAny (model prog w) A (call (.builtin "sorted") [.ref a]) Q E s := by
  refine Calls.call_function_entry kind_sorted plain_sorted entry_sorted (args_sorted1 _) ?_
  unfold Builtin.«sorted»
  refine wpAny_bind (m := checkCount "sorted" 1 1 _) (wpAny_pure ?_)
  refine wpAny_bind (collect_setI (A := A.in1) hh hS (Nat.lt_trans hz (by decide)) fun h₁ tk dw xs hk hp => ?_)
  have hI : IntsAre xs (xs.map numOf) := intsAre_map xs fun v hv => by
    obtain ⟨e, he, rfl⟩ := List.mem_map.mp (hp.mem_iff.mp hv)
    obtain ⟨k, tok, rfl⟩ := hS.el e he
    exact ⟨k, tok, rfl⟩
  have hpn : (xs.map numOf).Perm (keysIn es) := by
    have := hp.map numOf
    rwa [List.map_map] at this
  have hlen : xs.length < 64 := by rw [hp.length_eq, List.length_map, Array.length_toList]; exact hz
  refine wpAny_bind (wpAny_newList ?_ (by rw [sizeLine_eq]; exact Nat.le_trans (Nat.le_of_lt hlen) (by decide)))
  have hoL : (h₁.push (seqObj "list" xs.toArray 0)).get? h₁.objs.size = some (seqObj "list" xs.toArray 0) := Heap.get?_push_size _ rfl
  refine wpAny_bind (wpAny_holding (wpAny_call_entry slot_list_sort ⟨_, hoL, rfl⟩ entry_list_sort (list_sort_tree hoL hI hlen fun out ns' a1 a2 a3 => ⟨_, rfl, ?_⟩) (args_list_sort _)))
  obtain ⟨c, hc⟩ := sortedHeap_at (out := out) (vs := xs) hoL
  refine wpAny_pure ⟨_, rfl, h _ tk dw h₁.objs.size c out ns' (fun b o e => ?_) (fun b o e => Heap.lt_size (hk b o e)) hc a1 (a2.trans hpn) a3⟩
  · have hb := Heap.lt_size (hk b o e)
    have hb' : b < (h₁.push (seqObj "list" xs.toArray 0)).objs.size := by rw [size_push']; exact Nat.lt_succ_of_lt hb
    rw [sortedHeap_old (Nat.ne_of_lt hb) hb']
    exact Heap.get?_push_of_some _ (hk b o e)
end
end Mine
namespace Mine
open PySem PySem.SeqAt

theorem insU_mem (x z : Int) : ∀ l, z ∈ insU x l ↔ z = x ∨ z ∈ l
  | [] => List.mem_singleton.trans ⟨.inl, fun h => h.elim id fun h => nomatch h⟩
  | y :: l => by
    unfold insU
    split
    · exact List.mem_cons
    · split
      · next h => subst h; exact ⟨.inr, fun h => h.elim (fun h => h ▸ List.mem_cons_self) id⟩
      · rw [List.mem_cons, insU_mem x z l, List.mem_cons]
        exact ⟨fun h => h.elim (fun h => .inr (.inl h)) fun h => h.elim .inl fun h => .inr (.inr h), fun h => h.elim (fun h => .inr (.inl h)) fun h => h.elim .inl fun h => .inr (.inr h)⟩
theorem insU_srt (x : Int) : ∀ {l : List Int}, l.Pairwise (· < ·) → (insU x l).Pairwise (· < ·)
  | [], _ => List.pairwise_singleton _ _
  | y :: l, h => by
    have h' := List.pairwise_cons.mp h
    unfold insU
    split
    · next hl => exact List.pairwise_cons.mpr ⟨fun z hz => (List.mem_cons.mp hz).elim (fun e => e ▸ hl) fun hz => Int.lt_trans hl (h'.1 z hz), h⟩
    · split
      · exact h
      · next h1 h2 => exact List.pairwise_cons.mpr ⟨fun z hz => ((insU_mem x z l).mp hz).elim (fun e => e ▸ Int.lt_iff_le_and_ne.mpr ⟨Int.not_lt.mp h1, Ne.symm h2⟩) (h'.1 z), insU_srt x h'.2⟩
theorem usort_srt : ∀ ns : List Int, (usort ns).Pairwise (· < ·)
  | [] => .nil
  | x :: ns => insU_srt x (usort_srt ns)
theorem usort_mem (z : Int) : ∀ ns : List Int, z ∈ usort ns ↔ z ∈ ns
  | [] => Iff.rfl
  | x :: ns => by
    show z ∈ insU x (usort ns) ↔ _
    rw [insU_mem, usort_mem z ns, List.mem_cons]
theorem len_le : ∀ {l m : List Int}, l.Nodup → (∀ z ∈ l, z ∈ m) → l.length ≤ m.length
  | [], _, _, _ => Nat.zero_le _
  | x :: l, m, hn, h => by
    have hn' := List.nodup_cons.mp hn
    have hx : x ∈ m := h x List.mem_cons_self
    have ih := len_le (m := m.erase x) hn'.2 fun z hz => (List.mem_erase_of_ne (fun e : z = x => hn'.1 (e ▸ hz))).mpr (h z (List.mem_cons_of_mem _ hz))
    rw [List.length_erase_of_mem hx] at ih
    exact Nat.le_trans (Nat.succ_le_succ ih) (Nat.le_of_eq (Nat.sub_add_cancel (List.length_pos_of_mem hx)))
theorem srt_uniq : ∀ {l m : List Int}, l.Pairwise (· < ·) → m.Pairwise (· < ·) → (∀ z, z ∈ l ↔ z ∈ m) → l = m
  | [], [], _, _, _ => rfl
  | [], y :: m, _, _, h => absurd ((h y).mpr List.mem_cons_self) List.not_mem_nil
  | x :: l, [], _, _, h => absurd ((h x).mp List.mem_cons_self) List.not_mem_nil
  | x :: l, y :: m, hl, hm, h => by
    have hl' := List.pairwise_cons.mp hl
    have hm' := List.pairwise_cons.mp hm
    have e : x = y := by
      rcases List.mem_cons.mp ((h x).mp List.mem_cons_self) with e | h1
      · exact e
      · rcases List.mem_cons.mp ((h y).mpr List.mem_cons_self) with e | h2
        · exact e.symm
        · exact absurd (Int.lt_trans (hl'.1 y h2) (hm'.1 x h1)) (Int.lt_irrefl _)
    subst e
    rw [srt_uniq hl'.2 hm'.2 fun z => ?_]
    constructor
    · intro hz
      rcases List.mem_cons.mp ((h z).mp (List.mem_cons_of_mem _ hz)) with e | hz'
      · exact absurd (hl'.1 z hz) (e ▸ Int.lt_irrefl _)
      · exact hz'
    · intro hz
      rcases List.mem_cons.mp ((h z).mpr (List.mem_cons_of_mem _ hz)) with e | hz'
      · exact absurd (hm'.1 z hz) (e ▸ Int.lt_irrefl _)
      · exact hz'

section
variable {prog : Program} {w : World} {A : Around} {E : Value → Shared → Prop} {s : Shared} {H : Addr → Prop}
theorem intsD_at : ∀ {ds : List D} {ns : List Int} {vs : List Value}, intsD ds = some ns → RepAll w.params s.heap H vs ds → vs.length = ns.length ∧ ∀ (i : Nat) (v : Value), vs[i]? = some v → ∃ (k : Int) (t : Tok), ns[i]? = some k ∧ v = Value.int k t
  | [], ns, vs, h, hr => by
    cases hr; cases h
    exact ⟨rfl, fun i v e => by simp at e⟩
  | d :: ds, ns, vs, h, hr => by
    cases hr with
    | cons hv hr =>
      cases hv <;> first | (cases h; done) | skip
      rename_i k t
      rw [show intsD (.int k :: ds) = (intsD ds).map (k :: ·) from rfl, Option.map_eq_some_iff] at h
      obtain ⟨ns', h, rfl⟩ := h
      obtain ⟨h1, h2⟩ := intsD_at h hr
      refine ⟨congrArg Nat.succ h1, fun i v e => ?_⟩
      cases i with
      | zero => cases e; exact ⟨k, t, rfl, rfl⟩
      | succ i => exact h2 i v e
theorem ints_reps {h : Heap} {P : Params} : ∀ {vs : List Value} {ns : List Int}, PyProof.Rows.IntsAre vs ns → RepAll P h H vs (ns.map .int)
  | _, _, .nil => .nil
  | _, _, .cons n t hr => .cons (.int n t) (ints_reps hr)
theorem sset_snd {x : Value} {a d : D} (hh : A.handled = none) (hx : Rep w.params s.heap H x a) (hH : Ex s.heap H) (he : ssetD a = some d) :
    wpAny (model prog w) A (call (.type "set") [x]) (fun v s' => wpAny (model prog w) A (call (.builtin "sorted") [v]) (PostF w s H d true) E s') E s := by
  cases a <;> first | (cases he; done) | skip
  rename_i ds
  cases hx with
  | list ho hn hl hr =>
    rename_i l vs n
    rw [show ssetD (.list ds) = (if ds.length < 63 then (intsD ds).map fun ns => .list ((usort ns).map .int) else Option.none) from rfl] at he
    split at he
    · next hlen =>
      rw [Option.map_eq_some_iff] at he
      obtain ⟨ns, hns, rfl⟩ := he
      obtain ⟨e1, e2⟩ := intsD_at hns hr
      rw [Array.length_toList] at e1
      have hvl : vs.size < 63 := by have := hr.length; rw [Array.length_toList] at this; rw [this]; exact hlen
      refine call_setI (ns := ns) hh ho (fun i v e => e2 i v (by rw [Array.getElem?_toList]; exact e)) e1.symm (Nat.lt_trans (Nat.succ_lt_succ hvl) (by decide)) fun h' tk es hk hS hm => ?_
      have hes : es.size < 64 := by
        have h1 : (keysIn es).length ≤ ns.length := len_le hS.nod fun z hz => (hm z).mp hz
        unfold keysIn at h1
        rw [List.length_map, Array.length_toList, ← e1] at h1
        exact Nat.lt_of_le_of_lt h1 (Nat.lt_succ_of_lt hvl)
      refine sorted_setI (s := { s with heap := h', toks := tk }) hh hS hes fun h₂ tk₂ dw L c out ns' hk₂ hL hoL hI hp hs => ?_
      have hsrt : ns'.Pairwise (· < ·) := by
        have hnd : ns'.Nodup := hp.nodup_iff.mpr hS.nod
        exact (hs.and hnd).imp fun h => Int.lt_iff_le_and_ne.mpr h
      have eN : ns' = usort ns := srt_uniq hsrt (usort_srt ns) fun z => by rw [hp.mem_iff, hm z, usort_mem]
      subst eN
      have hlen' : ((usort ns).map D.int).length ≤ big := by
        rw [List.length_map, hp.length_eq]
        unfold keysIn
        rw [List.length_map, Array.length_toList]
        exact Nat.le_trans (Nat.le_of_lt hes) (by decide)
      have hk' := Heap.gt_up hk
      have hL' : ∀ b o, gat h' b = some o → @LT.lt Nat _ b L := fun b o e => let ⟨_, e, _⟩ := Heap.gt_some e; hL b _ e
      have hnone : gat s.heap L = Option.none := by
        cases e : gat s.heap L with
        | none => rfl
        | some o => exact absurd (hL' L o (hk' _ _ e)) (Nat.lt_irrefl _)
      have own : OwnL w.params h₂ H L ((usort ns).map .int) := ⟨out, c, hoL, hlen', ints_reps hI⟩
      have hnH : ¬ H L := fun q => by
        obtain ⟨b, o, h1, h2⟩ := hH L q
        exact absurd (hL' b o (hk' b o h2)) (Nat.not_lt_of_le h1)
      exact ⟨⟨h₂, tk₂, dw, rfl, fun b o e => Heap.gt_up hk₂ b o (hk' b o e)⟩, own.rep hnH, fun _ => ⟨L, rfl, hnone, own⟩⟩
    · cases he
end
section
variable {prog : Program} {w : World} {A : Around} {s : Shared} {base : Heap} {mg mb : Str → Option Value} {cf : CF}
theorem sf_sset (G : GOk mg mb base) (hh : A.handled = none) {a : ME} (ha : SE prog w A base cf a) : SF prog w A base cf (.sset a) := by
  intro s env e H ρ m d fr E hc R hw hn he
  replace hc := inv_sset hc; obtain @⟨gp, y, pos, hg, hy⟩ := hc
  obtain @⟨gp2, x, p, hg2, hx⟩ := hy
  simp only [evF_sset, ev_sset, Option.map_eq_some_iff] at he
  obtain ⟨d', he, e'⟩ := he
  cases e'
  split at he
  · rename_i dx hdx
    have hc2 : chkEs env.kindOf [x] [a] = true := by rw [cs_cons, hx]; rfl
    have hc1 : chkEs env.kindOf [.Call (.Name (Str.ofString "set") gp2) [x] [] p] [.blt "set" [a]] = true := by
      have h2 : chkE env.kindOf (.Call (.Name (Str.ofString "set") gp2) [x] [] p) (.blt "set" [a]) = true := by
        show (Str.ofString "set" == Str.ofString "set" && isGlob env.kindOf (Str.ofString "set") && chkEs env.kindOf [x] [a]) = true
        rw [hg2, hc2]; decide
      rw [cs_cons, h2]; rfl
    refine PyProof.Rows.Call_Name rfl (name_blt G (f := "sorted") (by decide) R hw hg (callWith_blt hc1 (Calls.spliced_cons ?_)))
    refine PyProof.Rows.Call_Name rfl (name_blt G (f := "set") (by decide) R hw hg2 (callWith_blt hc2 (Calls.spliced_cons ?_)))
    refine wpAny_mono (ha s env x H ρ m dx E hx R hw hn hdx) (fun v s₁ q₁ => Calls.spliced_nil ?_) fun _ _ e => e
    refine wpAny_mono (sset_snd hh q₁.2 (hw.keeps (Kp.heap q₁.1)).ex he) (fun u s₂ q₂ => Calls.spliced_nil ?_) fun _ _ e => e
    exact wpAny_mono q₂ (fun v s₃ q₃ => q₃.after q₁.1) fun _ _ e => e
  · cases he
end
end Mine
namespace Mine
open PySem

theorem lookup_zip_mem {α : Type} : ∀ (ns : List Str) (vs : List α), ns.length = vs.length → ∀ x ∈ ns, ((ns.zip vs).lookup x).isSome = true
  | [], _, _, x, h => nomatch h
  | n :: ns, [], h, _, _ => by simp at h
  | n :: ns, v :: vs, h, x, hx => by
    rw [List.zip_cons_cons, lookup_cons']
    split
    · rfl
    · rename_i hne
      rcases List.mem_cons.mp hx with e | e
      · exact absurd e hne
      · exact lookup_zip_mem ns vs (by simpa using h) x e
theorem filterMap_zip {α : Type} : ∀ (ns : List Str) (vs : List α), ns.Nodup → ns.length = vs.length → ns.filterMap (fun n => ((ns.zip vs).lookup n).map (n, ·)) = ns.zip vs
  | [], [], _, _ => rfl
  | [], _ :: _, _, h => by simp at h
  | _ :: _, [], _, h => by simp at h
  | n :: ns, v :: vs, hn, h => by
    rw [List.zip_cons_cons, List.filterMap_cons, lookup_cons', if_pos rfl]
    simp only [Option.map_some]
    congr 1
    rw [List.nodup_cons] at hn
    have ih := filterMap_zip ns vs hn.2 (by simpa using h)
    have cg : ∀ (l : List Str), (∀ x ∈ l, x ∈ ns) → l.filterMap (fun m => (((n, v) :: ns.zip vs).lookup m).map (m, ·)) = l.filterMap (fun m => ((ns.zip vs).lookup m).map (m, ·)) := by
      intro l
      induction l with
      | nil => intro _; rfl
      | cons x l il =>
        intro hl
        rw [List.filterMap_cons, List.filterMap_cons, lookup_cons', if_neg (show x ≠ n from fun e => hn.1 (e ▸ hl x (.head _))), il fun y hy => hl y (.tail _ hy)]
    rw [cg ns fun _ h => h]; exact ih

theorem bindArgs_plain {fd : FuncData} {vals : List Value} (h1 : fd.params.posonlyargs = []) (h2 : fd.params.kwonlyargs = []) (h3 : fd.params.vararg = none) (h4 : fd.params.kwarg = none) (h5 : fd.defaults = .none)
    (hnd : (fd.params.args.map (·.arg)).Nodup) (hl : (fd.params.args.map (·.arg)).length = vals.length) : bindArgs fd ⟨vals, []⟩ = pure ((fd.params.args.map (·.arg)).zip vals) := by
  obtain ⟨nm, qn, ⟨po, ar, va, ko, kd, kw, df⟩, bd, sc, gl, cl, dfl, kwd, dc, pm, an, co, ct, bu⟩ := fd
  dsimp only at h1 h2 h3 h4 h5 hnd hl
  subst h1 h2 h3 h4 h5
  have hm : (ar.map (·.arg)).filter (fun n => (List.lookup n ((ar.map (·.arg)).zip vals)).isNone) = [] := List.filter_eq_nil_iff.mpr fun x hx e => by
    have := lookup_zip_mem _ vals hl x hx
    rw [Option.isNone_iff_eq_none.mp e] at this
    cases this
  refine (if_neg (fun e => Nat.not_lt_of_le (Nat.le_of_eq hl.symm) (of_decide_eq_true (Bool.and_eq_true_iff.mp e).1))).trans ?_
  have hd : ∀ k, List.drop k ((none : Option (Array Value)).getD #[]).toList = [] := fun k => List.drop_nil
  refine (if_neg fun e => ?_).trans ?_
  · rw [hd] at e
    have e' : (!(((ar.map (·.arg)).take (ar.map (·.arg)).length).filter (fun n => (List.lookup n ((ar.map (·.arg)).zip vals)).isNone)).isEmpty) = true := e
    rw [List.take_length, hm] at e'
    cases e'
  · rw [hd, List.zip_nil_right]
    exact congrArg (pure (f := Sem)) ((congrArg (fun l => l.filterMap fun n => (((ar.map (·.arg)).zip vals).lookup n).map (n, ·)) (List.append_nil (ar.map (·.arg)))).trans (filterMap_zip _ _ hnd hl))
end Mine
namespace Mine
open PySem PySem.SeqAt

section
variable {prog : Program} {w : World} {A : Around} {s : Shared} {base : Heap} {mg mb : Str → Option Value} {cf : CF}

theorem st_plain {me : ME} (h : SE prog w A base cf me) (hp : ∀ e k env whole, chkE k e me = true → isTrue e env whole = (do let v ← whole; standAt e.pos; holding [v] (truthy v))) : ST prog w A base cf me := by
  intro s env e H ρ m d t E hc R hw hn he ht
  refine PyProof.Rows.isTrue_plain (wpAny_mono (h s env e H ρ m d E hc R hw hn he) (fun v s₁ q₁ => ?_) fun _ _ e => e) (hp e _ env _ hc)
  exact wpAny_mono (truth_snd q₁.2 ht) (fun b s₂ q₂ => ⟨Kp.trans q₁.1 q₂.1, q₂.2⟩) fun _ _ e => e

theorem sb_nil : SB prog w A base cf [] := by
  intro s env es op pos H ρ m d E hc R hw hn he
  simp only [evBop] at he; cases he

theorem sb_one {a : ME} (ha : SE prog w A base cf a) (ta : ST prog w A base cf a) : SB prog w A base cf [a] := by
  intro s env es op pos H ρ m d E hc R hw hn he
  cases es with
  | nil => simp [cs_nil, cs_cons, cs_consn] at hc
  | cons e es' =>
    simp only [cs_nil, cs_cons, cs_consn, Bool.and_eq_true, List.isEmpty_iff] at hc
    obtain ⟨hc, rfl⟩ := hc
    simp only [evBop] at he
    have hn' := hn.sub (ns' := a.names) fun _ hx => List.mem_append_left _ hx
    refine ⟨PyProof.Rows.BoolOp_one (ha s env e H ρ m d E hc R hw hn' he), fun t whole ht => ?_⟩
    cases op with
    | And =>
      refine PyProof.Rows.isTrue_and (wpAny_mono (ta s env e H ρ m d t E hc R hw hn' he ht) (fun b s₁ q₁ => ?_) fun _ _ e => e)
      cases b with
      | true => exact PyProof.Rows.isTrue_and_nil ⟨q₁.1, q₁.2⟩
      | false => exact ⟨q₁.1, q₁.2⟩
    | Or =>
      refine PyProof.Rows.isTrue_or (wpAny_mono (ta s env e H ρ m d t E hc R hw hn' he ht) (fun b s₁ q₁ => ?_) fun _ _ e => e)
      cases b with
      | true => exact ⟨q₁.1, q₁.2⟩
      | false => exact PyProof.Rows.isTrue_or_nil ⟨q₁.1, q₁.2⟩

theorem sb_cons {a b : ME} {r : List ME} (ha : SE prog w A base cf a) (ta : ST prog w A base cf a) (hr : SB prog w A base cf (b :: r)) : SB prog w A base cf (a :: b :: r) := by
  intro s env es op pos H ρ m d E hc R hw hn he
  cases es with
  | nil => simp [cs_nil, cs_cons, cs_consn] at hc
  | cons e es' => cases es' with
    | nil => simp [cs_nil, cs_cons, cs_consn] at hc
    | cons e2 es' =>
      have hc' : chkE env.kindOf e a = true ∧ chkEs env.kindOf (e2 :: es') (b :: r) = true := by
        rw [chkEs] at hc; simpa using hc
      simp only [evBop] at he
      have hn1 := hn.sub (ns' := a.names) fun _ hx => List.mem_append_left _ hx
      have hn2 := hn.sub (ns' := namesL (b :: r)) fun _ hx => List.mem_append_right _ hx
      split at he
      · rename_i x hx
        split at he
        · rename_i t1 ht1
          have rest : ∀ s₁, Keeps s s₁ → evBop cf ρ op (b :: r) = some d → _ := fun s₁ (k : Keeps s s₁) (h : evBop cf ρ op (b :: r) = some d) =>
            hr s₁ env (e2 :: es') op pos H ρ m d E hc'.2 (R.keeps (Kp.heap k)) (hw.keeps (Kp.heap k)) (hn2.keeps (Kp.heap k)) h
          refine ⟨?_, fun t whole ht => ?_⟩
          · cases op with
            | And =>
              refine PyProof.Rows.BoolOp_and (wpAny_mono (ha s env e H ρ m x E hc'.1 R hw hn1 hx) (fun v s₁ q₁ => ?_) fun _ _ e => e)
              refine wpAny_mono (truth_snd q₁.2 ht1) (fun c s₂ q₂ => ?_) fun _ _ e => e
              obtain ⟨k2, rfl⟩ := q₂
              cases c with
              | true =>
                simp only [Bool.true_eq_false, if_false] at he
                exact wpAny_mono (rest s₂ (Kp.trans q₁.1 k2) he).1 (fun _ _ q => ⟨Kp.trans (Kp.trans q₁.1 k2) q.1, q.2⟩) fun _ _ e => e
              | false =>
                simp only [if_true] at he; cases he
                exact ⟨Kp.trans q₁.1 k2, q₁.2.keeps (Kp.heap k2)⟩
            | Or =>
              refine PyProof.Rows.BoolOp_or (wpAny_mono (ha s env e H ρ m x E hc'.1 R hw hn1 hx) (fun v s₁ q₁ => ?_) fun _ _ e => e)
              refine wpAny_mono (truth_snd q₁.2 ht1) (fun c s₂ q₂ => ?_) fun _ _ e => e
              obtain ⟨k2, rfl⟩ := q₂
              cases c with
              | false =>
                simp only [Bool.false_eq_true, if_false] at he
                exact wpAny_mono (rest s₂ (Kp.trans q₁.1 k2) he).1 (fun _ _ q => ⟨Kp.trans (Kp.trans q₁.1 k2) q.1, q.2⟩) fun _ _ e => e
              | true =>
                simp only [if_true] at he; cases he
                exact ⟨Kp.trans q₁.1 k2, q₁.2.keeps (Kp.heap k2)⟩
          · cases op with
            | And =>
              refine PyProof.Rows.isTrue_and (wpAny_mono (ta s env e H ρ m x t1 E hc'.1 R hw hn1 hx ht1) (fun c s₁ q₁ => ?_) fun _ _ e => e)
              obtain ⟨k1, rfl⟩ := q₁
              cases c with
              | true =>
                simp only [Bool.true_eq_false, if_false] at he
                exact wpAny_mono ((rest s₁ k1 he).2 t whole ht) (fun _ _ q => ⟨Kp.trans k1 q.1, q.2⟩) fun _ _ e => e
              | false =>
                simp only [if_true] at he; cases he
                rw [ht1] at ht; cases ht
                exact ⟨k1, rfl⟩
            | Or =>
              refine PyProof.Rows.isTrue_or (wpAny_mono (ta s env e H ρ m x t1 E hc'.1 R hw hn1 hx ht1) (fun c s₁ q₁ => ?_) fun _ _ e => e)
              obtain ⟨k1, rfl⟩ := q₁
              cases c with
              | false =>
                simp only [Bool.false_eq_true, if_false] at he
                exact wpAny_mono ((rest s₁ k1 he).2 t whole ht) (fun _ _ q => ⟨Kp.trans k1 q.1, q.2⟩) fun _ _ e => e
              | true =>
                simp only [if_true] at he; cases he
                rw [ht1] at ht; cases ht
                exact ⟨k1, rfl⟩
        · cases he
      · cases he

theorem se_bop {op : BoolOp} {ms : List ME} (h : SB prog w A base cf ms) : SE prog w A base cf (.bop op ms) := by
  intro s env e H ρ m d E hc R hw hn he
  replace hc := inv_bop hc; obtain ⟨hc⟩ := hc
  · rw [ev_bop] at he
    exact (h s env _ op _ H ρ m d E hc R hw hn he).1
theorem st_bop {op : BoolOp} {ms : List ME} (h : SB prog w A base cf ms) : ST prog w A base cf (.bop op ms) := by
  intro s env e H ρ m d t E hc R hw hn he ht
  replace hc := inv_bop hc; obtain ⟨hc⟩ := hc
  · rw [ev_bop] at he
    exact (h s env _ op _ H ρ m d E hc R hw hn he).2 t _ ht

theorem forIn_false {env : Env} {E : Value → Shared → Prop} {Q : Bool → Shared → Prop} : ∀ (es : List Expr), Q false s →
    wpAny (model prog w) A (forIn es false fun c r => if r = true then do let ok ← isTrue c env (eval c env); pure (ForInStep.yield ok) else pure (ForInStep.yield r)) Q E s
  | [], h => by rw [List.forIn_nil]; exact wpAny_pure h
  | c :: es, h => by
    rw [List.forIn_cons]
    simp only [Bool.false_eq_true, if_false, pure_bind]
    exact forIn_false es h

theorem sc_nil : SC prog w A base cf [] := by
  intro s env es H ρ m t E hc R hw hn he
  cases es with
  | nil => simp only [evc_nil, evc_cons] at he; cases he; rw [List.forIn_nil]; exact wpAny_pure ⟨Kp.refl _, rfl⟩
  | cons _ _ => simp [cs_nil, cs_cons, cs_consn] at hc
theorem sc_cons {a : ME} {r : List ME} (ta : ST prog w A base cf a) (hr : SC prog w A base cf r) : SC prog w A base cf (a :: r) := by
  intro s env es H ρ m t E hc R hw hn he
  cases es with
  | nil => simp [cs_nil, cs_cons, cs_consn] at hc
  | cons e es' =>
    simp only [cs_nil, cs_cons, cs_consn, Bool.and_eq_true] at hc
    simp only [evc_nil, evc_cons] at he
    split at he
    · rename_i x hx
      split at he
      · rename_i t1 ht1
        rw [List.forIn_cons]
        simp only [if_true, bind_assoc, pure_bind]
        refine wpAny_bind (wpAny_mono (ta s env e H ρ m x t1 E hc.1 R hw (hn.sub fun _ hx => List.mem_append_left _ hx) hx ht1) (fun b s₁ q₁ => ?_) fun _ _ e => e)
        obtain ⟨k1, rfl⟩ := q₁
        cases b with
        | true =>
          simp only [if_true] at he
          exact wpAny_mono (hr s₁ env es' H ρ m t E hc.2 (R.keeps (Kp.heap k1)) (hw.keeps (Kp.heap k1)) ((hn.sub fun _ hx => List.mem_append_right _ hx).keeps (Kp.heap k1)) he) (fun _ _ q => ⟨Kp.trans k1 q.1, q.2⟩) fun _ _ e => e
        | false =>
          simp only [Bool.false_eq_true, if_false] at he; cases he
          exact forIn_false es' ⟨k1, rfl⟩
      · cases he
    · cases he

/-- a comprehension's element, in its own block -/
theorem comp_inner {env cenv : Env} {m mC : Str → Option Value} {scope : Scope} {x : String} {ns : List String} {ρ : List (String × D)} {s₂ : Shared} {H H₂ : Addr → Prop} {v : Value} {dv : D} (hok : okScope env.kindOf scope (Str.ofString x) = true)
    (hk : cenv.kindOf = kindC env.kindOf scope) (hv : mC (Str.ofString x) = some v) (rv : Rep w.params s₂.heap H₂ v dv) (hfv : ∀ z, scope.names.lookup z = some .free → mC z = m z) (kp : Keeps s s₂) (hsub : ∀ a o, gat s.heap a = some o → H₂ a → H a)
    (hn : NV w.params env.kindOf (ns.filter (· != x)) ρ m s.heap H) : NV w.params cenv.kindOf ns ((x, dv) :: ρ) mC s₂.heap H₂ := by
  intro z hz hvar d hd
  rw [List.lookup_cons] at hd
  by_cases hzx : z = x
  · subst hzx
    simp only [beq_self_eq_true] at hd
    cases hd
    exact ⟨v, hv, rv⟩
  · have hb : (z == x) = false := by simpa using hzx
    rw [hb] at hd
    unfold okScope at hok
    simp only [Bool.and_eq_true, decide_eq_true_eq, beq_iff_eq, List.all_eq_true, Bool.or_eq_true] at hok
    obtain ⟨⟨⟨⟨⟨_, hnodup⟩, _⟩, hfree⟩, hall⟩, _⟩ := hok
    have hvar' := hvar
    unfold isVar at hvar
    simp only [Bool.and_eq_true, Bool.or_eq_true, beq_iff_eq, bne_iff_ne] at hvar
    obtain ⟨⟨⟨hkz, hd1⟩, hd2⟩, hd3⟩ := hvar
    rw [hk, kindC_eq] at hkz
    have hfr : scope.names.lookup (Str.ofString z) = some .free := by
      cases hq : scope.names.lookup (Str.ofString z) with
      | none => rw [hq] at hkz; simp at hkz
      | some k =>
        have := hall _ (mem_of_lookup hq)
        simp only at this
        rcases this with ((e | e) | e) | e
        · rw [e]
        · rw [hq, e] at hkz; simp at hkz
        · exact absurd (ofString_inj e) hzx
        · exact absurd e hd3
    have hok2 := hfree _ (mem_of_lookup hfr)
    simp only [bne_self_eq_false, Bool.false_eq_true, false_or] at hok2
    obtain ⟨v', h1, h2⟩ := hn z (by simp [hz, hzx]) (by
      unfold isVar
      simp only [Bool.and_eq_true, Bool.or_eq_true, beq_iff_eq, bne_iff_ne]
      exact ⟨⟨⟨hok2.elim (fun e => .inl (.inr e)) .inr, hd1⟩, hd2⟩, hd3⟩) d hd
    exact ⟨v', (hfv _ hfr).trans h1, h2.mono (fun a o _ e => Kp.heap kp a o e) hsub⟩

theorem comp_snd {elt src : ME} {x : String} {cs : List ME} (hh : A.handled = none) (he : SE prog w A base cf elt) (hs : SE prog w A base cf src) (hcs : SC prog w A base cf cs)
    {s : Shared} {env : Env} {H : Addr → Prop} {ρ : List (String × D)} {m : Str → Option Value} {d : D} {E : Value → Shared → Prop} {t it : Expr} {py pos ppos : Pos} {ifs : List Expr} {scope : Scope} {use : Option (Value → Sem Unit)} {Q : Value → Shared → Prop}
    (hset : notSet it = true) (hok : okScope env.kindOf scope (Str.ofString x) = true) (hcsrc : chkE env.kindOf it src = true) (hcelt : chkE (kindC env.kindOf scope) t elt = true) (hcifs : chkEs (kindC env.kindOf scope) ifs cs = true) (R : EnvRep s.heap env m) (hw : HOk base s.heap H) (hn : NV w.params env.kindOf (ME.comp elt x src cs).names ρ m s.heap H)
    (hev : evE cf ρ (.comp elt x src cs) = some d)
    (hQ : ∀ L C h' tk dw m' out, d = .list out → (∀ b o, gat s.heap b = some o → @LT.lt Nat _ b L) → gat s.heap C = none → L ≠ C → h'.Ns C m' → OwnL w.params h' (fun b => H b ∨ b = C) L out → (KH s.heap h') →
      compPost (model prog w) A E use Q (.ref L) C (.ok .next) { s with heap := h', toks := tk, drawn := dw }) :
    wpAny (model prog w) A (comprehension (.ListComp t [⟨.Name (Str.ofString x) py, it, ifs, 0⟩] scope pos) scope env ppos (newList []) false (eval it env) use) Q E s := by
  rw [ev_comp] at hev
  split at hev
  · rename_i dsrc hdsrc
    split at hev
    · rename_i its hits
      split at hev
      · rename_i hlen
        simp only [Option.map_eq_some_iff] at hev
        obtain ⟨out, hout, rfl⟩ := hev
        refine comp_core R hok hset hh hw.ex (hs s env it H ρ m dsrc E hcsrc R hw (hn.sub fun _ hx => List.mem_append_left _ hx) hdsrc) hits hlen hout ?_ (fun L C h' tk dw m' h1 h2 h3 h4 h5 h6 => hQ L C h' tk dw m' out rfl h1 h2 h3 h4 h5 h6)
        intro s₂ cenv mC H₂ v dv r hm hf hk RC hv rv hfv hx kp hsub E'
        have hn' := hn.sub (ns' := (elt.names ++ namesL cs).filter (· != x)) fun _ hx => List.mem_append_right _ hx
        have nv := comp_inner hok hk hv rv hfv kp hsub hn'
        have hw₂ : HOk base s₂.heap H₂ := ⟨fun b o e => Kp.heap kp b o (hw.keep b o e), hx, fun b o e q => hw.off b o e (hsub b o (hw.keep b o e) q)⟩
        split at hf
        · rename_i hb
          split at hf
          · rename_i y' hy'
            cases hf
            refine wpAny_mono (hcs s₂ cenv ifs H₂ _ mC true E' (by rw [hk]; exact hcifs) RC hw₂ (nv.sub fun _ hx => List.mem_append_right _ hx) hb) (fun ok s₃ q => ⟨q.1, q.2, fun dr e => ?_⟩) fun _ _ e => e
            cases e
            exact wpAny_mono (he s₃ cenv t H₂ _ mC y' E' (by rw [hk]; exact hcelt) (RC.keeps (Kp.heap q.1)) (hw₂.keeps (Kp.heap q.1)) ((nv.sub fun _ hx => List.mem_append_left _ hx).keeps (Kp.heap q.1)) hy') (fun _ _ q => q) fun _ _ e => e
          · cases hf
        · rename_i hb
          cases hf
          exact wpAny_mono (hcs s₂ cenv ifs H₂ _ mC false E' (by rw [hk]; exact hcifs) RC hw₂ (nv.sub fun _ hx => List.mem_append_right _ hx) hb) (fun ok s₃ q => ⟨q.1, q.2, fun dr e => by cases e⟩) fun _ _ e => e
        · cases hf
      · cases hev
    · cases hev
  · cases hev
end
end Mine
namespace Mine
open PySem PySem.SeqAt
/-! dict displays -/
theorem dput_len (k d : D) : ∀ (ks vs : List D), (dput ks vs k d).1.length ≤ ks.length + 1
  | [], _ => by simp [dput]
  | _ :: _, [] => by simp [dput]
  | k' :: ks, v :: vs => by
    have := dput_len k d ks vs
    unfold dput
    split <;> simp <;> omega
section
variable {prog : Program} {w : World} {A : Around} {s : Shared} {base : Heap} {mg mb : Str → Option Value} {cf : CF}
theorem sf_dct (G : GOk mg mb base) {ks vs : List ME} (hsk : ∀ e ∈ ks, SE prog w A base cf e) (hsv : ∀ e ∈ vs, SE prog w A base cf e) : SF prog w A base cf (.dct ks vs) := by
  intro s env e H ρ m d fr E hc R hw hn he
  replace hc := inv_dct hc; obtain @⟨kes, ves, pos, hk, hv⟩ := hc
  simp only [evF_dct, ev_dct, Option.map_eq_some_iff] at he
  obtain ⟨d', he, e'⟩ := he
  cases e'
  split at he
  · rename_i ds hds
    split at he
    · rename_i es hes
      split at he
      · rename_i hcc; cases he
        rw [Bool.and_eq_true, List.isEmpty_iff, List.isEmpty_iff] at hcc
        obtain ⟨rfl, rfl⟩ := hcc
        have n0 : ∀ {ms : List ME}, evEs cf ρ ms = some [] → ms = [] := fun {ms} h => by
          cases ms with
          | nil => rfl
          | cons a r =>
            rw [evs_cons] at h
            split at h
            · split at h <;> cases h
            · cases h
        have ek := n0 hds
        have ev := n0 hes
        subst ek ev
        have hk0 : kes = [] := List.isEmpty_iff.mp hk
        have hv0 : ves = [] := List.isEmpty_iff.mp hv
        subst hk0 hv0
        have hsys : (s.heap.objs.size == sysModules) = false := by
          obtain ⟨o, _, _, h1, _⟩ := G.g
          have h2 := Heap.gt_lt (hw.keep _ _ (Heap.gt_of h1 (notTab_ns G.g _ h1)))
          have h3 : s.heap.objs.size ≠ sysModules := fun q => by rw [q] at h2; exact absurd h2 (by decide)
          simpa using h3
        have hnone : gat s.heap s.heap.objs.size = none := by
          cases q : gat s.heap s.heap.objs.size with
          | none => rfl
          | some o => exact absurd (Heap.gt_lt q) (Nat.lt_irrefl _)
        have own : OwnD w.params (s.heap.push { cls := .type "dict", data := .dict #[] }) H s.heap.objs.size (.dict [] []) := ⟨#[], 0, Heap.get?_push_size _ rfl, Nat.zero_le _, .nil, .nil, rfl, rfl, .nil, hsys⟩
        exact wpAny_Dict_empty ⟨Kp.push _ _, own.rep hw.ex.fresh, fun _ => ⟨_, rfl, hnone, own⟩⟩
      · cases he
    · cases he
  · cases he
end
end Mine
namespace Mine
open PySem PySem.SeqAt

section
variable {prog : Program} {w : World} {A : Around} {s : Shared} {base : Heap} {mg mb : Str → Option Value} {cf : CF}

theorem sf_plain {me : ME} (h : SE prog w A base cf me) (hf : ∀ ρ, evF cf ρ me = (evE cf ρ me).map fun d => (d, false)) : SF prog w A base cf me := by
  intro s env e H ρ m d fr E hc R hw hn he
  rw [hf, Option.map_eq_some_iff] at he
  obtain ⟨d', h1, h2⟩ := he
  cases h2
  exact wpAny_mono (h s env e H ρ m d E hc R hw hn h1) (fun _ _ q => ⟨q.1, q.2, fun e => by cases e⟩) fun _ _ e => e

theorem sf_comp {elt src : ME} {x : String} {cs : List ME} (hh : A.handled = none) (he : SE prog w A base cf elt) (hs : SE prog w A base cf src) (hcs : SC prog w A base cf cs) : SF prog w A base cf (.comp elt x src cs) := by
  intro s env e H ρ m d fr E hc R hw hn hev
  simp only [evF_comp, Option.map_eq_some_iff] at hev
  obtain ⟨d', hev, e'⟩ := hev
  cases e'
  replace hc := inv_comp hc; obtain ⟨c1, c2, c3, c4, c5⟩ := hc
  · rw [eval_ListComp]
    refine comp_snd (use := none) hh he hs hcs c1 c2 c3 c4 c5 R hw hn hev fun L C h' tk dr m' out hd hL hC hLC hns hown hk => ⟨m', hns, fun h'' hs'' => ?_⟩
    have kk : KH s.heap h'' := fun b o e => g1 hs'' (notTab_ns hns) b (fun q => by rw [q, hC] at e; cases e) (hk b o e)
    have own : OwnL w.params h'' H L out := by
      obtain ⟨vs, n, q1, q2, q3⟩ := hown
      refine ⟨vs, n, Heap.of_gt (g1 hs'' (notTab_ns hns) L hLC (Heap.gt_of q1)), q2, q3.mono (fun a o hn e => g1 hs'' (notTab_ns hns) a (fun q => hn (.inl (.inr q))) e) fun a o _ q => q.elim (fun q => .inl (.inl q)) .inr⟩
    have hLn : gat s.heap L = none := by
      cases e : gat s.heap L with
      | none => rfl
      | some o => exact absurd (hL _ _ e) (Nat.lt_irrefl _)
    refine ⟨⟨h'', tk, dr, rfl, kk⟩, ?_, fun _ => ⟨L, rfl, hLn, by rw [hd]; exact own⟩⟩
    rw [hd]
    refine own.rep fun q => ?_
    obtain ⟨b, o, hb, ho⟩ := hw.ex L q
    exact Nat.lt_irrefl _ (Nat.lt_of_le_of_lt hb (hL b o ho))

theorem evF_callx (f : String) (ms : List ME) (ρ : List (String × D)) (d : D) (h : evE cf ρ (.call f ms) = some d) : ∃ fr, evF cf ρ (.call f ms) = some (d, fr) := by
  rw [ev_call] at h
  simp only [evF_call]
  split at h
  · rename_i ds hds
    rw [Option.map_eq_some_iff] at h
    obtain ⟨⟨d', fr⟩, h1, h2⟩ := h
    cases h2
    exact ⟨fr, h1⟩
  · cases h

theorem blt_name {f : String} {ds : List D} {d : D} (h : bltD f ds = some d) : f ∈ bltNames := by
  unfold bltD bltI bltI2 at h
  repeat' split at h
  all_goals first | (cases h; done) | (subst_vars; decide)
mutual
theorem all_E (G : GOk mg mb base) (C : CSound prog w base mg cf A) (hh : A.handled = none) (hu : Room A) (me : ME) : SE prog w A base cf me ∧ ST prog w A base cf me ∧ SF prog w A base cf me := by
  have fin : SE prog w A base cf me → me.plain = true → (∀ ρ, evF cf ρ me = (evE cf ρ me).map fun d => (d, false)) → SE prog w A base cf me ∧ ST prog w A base cf me ∧ SF prog w A base cf me := fun h1 h2 h3 =>
    ⟨h1, st_plain h1 (fun e k env whole hc => (looks hc).test h2 env whole), sf_plain h1 h3⟩
  have finF : SF prog w A base cf me → me.plain = true → (∀ ρ d, evE cf ρ me = some d → ∃ fr, evF cf ρ me = some (d, fr)) → SE prog w A base cf me ∧ ST prog w A base cf me ∧ SF prog w A base cf me := fun h1 h2 h3 =>
    have h4 := se_of_sf h1 h3
    ⟨h4, st_plain h4 (fun e k env whole hc => (looks hc).test h2 env whole), h1⟩
  match me with
  | .var x => exact fin (se_var x) rfl fun _ => rfl
  | .glob x => exact fin (se_glob G C x) rfl fun _ => rfl
  | .int i => exact fin (se_int i) rfl fun _ => rfl
  | .str x => exact fin (se_str x) rfl fun _ => rfl
  | .bool b => exact fin (se_bool b) rfl fun _ => rfl
  | .none => exact fin se_none rfl fun _ => rfl
  | .bin op a b => exact finF (sf_bin (all_E G C hh hu a).1 (all_E G C hh hu b).1) rfl fun ρ d h => ⟨d.isList, by rw [evF_bin, h]; rfl⟩
  | .cmp op a b =>
    have ha := (all_E G C hh hu a).1
    have hb := (all_E G C hh hu b).1
    exact ⟨se_cmp hu.u1 ha hb, st_cmp hu.u1 ha hb, sf_plain (se_cmp hu.u1 ha hb) fun _ => rfl⟩
  | .cc o1 o2 a b c =>
    have ha := (all_E G C hh hu a).1
    have hb := (all_E G C hh hu b).1
    have hc := (all_E G C hh hu c).1
    exact ⟨se_cc hu.u1 ha hb hc, st_cc hu.u1 ha hb hc, sf_plain (se_cc hu.u1 ha hb hc) fun _ => rfl⟩
  | .bop op ms =>
    have h := (all_Es G C hh hu ms).2.1
    exact ⟨se_bop h, st_bop h, sf_plain (se_bop h) fun _ => rfl⟩
  | .not a =>
    have h := all_E G C hh hu a
    exact ⟨se_not h.1, st_not h.2.1, sf_plain (se_not h.1) fun _ => rfl⟩
  | .neg a => exact fin (se_neg (all_E G C hh hu a).1) rfl fun _ => rfl
  | .tup ms => exact fin (se_tup (all_Es G C hh hu ms).1) rfl fun _ => rfl
  | .lst ms => exact finF (sf_lst (all_Es G C hh hu ms).1) rfl fun ρ d h => ⟨true, by rw [evF_lst, h]; rfl⟩
  | .dct ks vs => exact finF (sf_dct G (all_Es G C hh hu ks).2.2.2 (all_Es G C hh hu vs).2.2.2) rfl fun ρ d h => ⟨true, by rw [evF_dct, h]; rfl⟩
  | .sub a b => exact fin (se_sub hu.u1 (all_E G C hh hu a).1 (all_E G C hh hu b).1) rfl fun _ => rfl
  | .sl a b c => exact finF (sf_sl (all_E G C hh hu a).1 (all_E G C hh hu b).1 (all_E G C hh hu c).1) rfl fun ρ d h => ⟨d.isList, by rw [evF_sl, h]; rfl⟩
  | .sset a => exact finF (sf_sset G hh (all_E G C hh hu a).1) rfl fun ρ d h => ⟨true, by rw [evF_sset, h]; rfl⟩
  | .lcp a => exact finF (sf_lcp G hh (ses_cons (all_E G C hh hu a).1 ses_nil)) rfl fun ρ d h => ⟨true, by rw [evF_lcp, h]; rfl⟩
  | .comp elt x src cs => exact finF (sf_comp hh (all_E G C hh hu elt).1 (all_E G C hh hu src).1 (all_Es G C hh hu cs).2.2.1) rfl fun ρ d h => ⟨true, by rw [evF_comp, h]; rfl⟩
  | .call f ms => exact finF (sf_call G (C.at (.refl A)) (all_Es G C hh hu ms).1) rfl (evF_callx f ms)
  | .isi a T => exact fin (se_isi G (all_E G C hh hu a).1) rfl fun _ => rfl
  | .blt f ms =>
    refine fin ?_ rfl fun _ => rfl
    by_cases hf : f ∈ bltNames
    · exact se_blt G hh hf (all_Es G C hh hu ms).1
    · intro s env e H ρ m d E hc R hw hn he
      exfalso
      rw [ev_blt] at he
      split at he
      · exact hf (blt_name he)
      · cases he
termination_by structural me
theorem all_Es (G : GOk mg mb base) (C : CSound prog w base mg cf A) (hh : A.handled = none) (hu : Room A) (ms : List ME) : SEs prog w A base cf ms ∧ SB prog w A base cf ms ∧ SC prog w A base cf ms ∧ ∀ e ∈ ms, SE prog w A base cf e := by
  match ms with
  | [] => exact ⟨ses_nil, sb_nil, sc_nil, fun _ h => nomatch h⟩
  | a :: r =>
    have ha := all_E G C hh hu a
    have hr := all_Es G C hh hu r
    refine ⟨ses_cons ha.1 hr.1, ?_, sc_cons ha.2.1 hr.2.2.1, fun e he => (List.mem_cons.mp he).elim (fun q => q ▸ ha.1) (hr.2.2.2 e)⟩
    cases r with
    | nil => exact sb_one ha.1 ha.2.1
    | cons b r => exact sb_cons ha.1 ha.2.1 hr.2.1
termination_by structural ms
end
end
end Mine
namespace Mine
open PySem PySem.SeqAt

noncomputable def isStore (k : KD) (x : Str) : Bool := (k x == some .local || k x == some .cell) && isVar k x
noncomputable def notComp : Expr → Bool
  | .ListComp .. | .SetComp .. | .DictComp .. => false
  | _ => true

noncomputable def cAssign (e : Stmt) (f : List Expr → Expr → Pos → Bool) : Bool := dite (e.ctorIdx = 5) (fun h => Stmt.Assign.elim (motive_2 := fun _ => Bool) e h f) (fun _ => false)
theorem cAssign_inv {e : Stmt} {f : List Expr → Expr → Pos → Bool} {C : Prop} (h : cAssign e f = true) (k : ∀ (ts : List Expr) (v : Expr) (p : Pos), e = .Assign ts v p → f ts v p = true → C) : C :=
  (dite_inv h).elim fun hc h => Stmt.Assign.elim (motive_2 := fun e => ∀ hc, Stmt.Assign.elim (motive_2 := fun _ => Bool) e hc f = true → (∀ (ts : List Expr) (v : Expr) (p : Pos), e = .Assign ts v p → f ts v p = true → C) → C) e hc (fun v0 v1 v2 _ h k => k v0 v1 v2 rfl h) hc h k
noncomputable def cExpr (e : Stmt) (f : Expr → Pos → Bool) : Bool := dite (e.ctorIdx = 24) (fun h => Stmt.Expr.elim (motive_2 := fun _ => Bool) e h f) (fun _ => false)
theorem cExpr_inv {e : Stmt} {f : Expr → Pos → Bool} {C : Prop} (h : cExpr e f = true) (k : ∀ (v : Expr) (p : Pos), e = .Expr v p → f v p = true → C) : C :=
  (dite_inv h).elim fun hc h => Stmt.Expr.elim (motive_2 := fun e => ∀ hc, Stmt.Expr.elim (motive_2 := fun _ => Bool) e hc f = true → (∀ (v : Expr) (p : Pos), e = .Expr v p → f v p = true → C) → C) e hc (fun v0 v1 _ h k => k v0 v1 rfl h) hc h k
noncomputable def cIf (e : Stmt) (f : Expr → List Stmt → List Stmt → Pos → Bool) : Bool := dite (e.ctorIdx = 12) (fun h => Stmt.If.elim (motive_2 := fun _ => Bool) e h f) (fun _ => false)
theorem cIf_inv {e : Stmt} {f : Expr → List Stmt → List Stmt → Pos → Bool} {C : Prop} (h : cIf e f = true) (k : ∀ (v : Expr) (b : List Stmt) (o : List Stmt) (p : Pos), e = .If v b o p → f v b o p = true → C) : C :=
  (dite_inv h).elim fun hc h => Stmt.If.elim (motive_2 := fun e => ∀ hc, Stmt.If.elim (motive_2 := fun _ => Bool) e hc f = true → (∀ (v : Expr) (b : List Stmt) (o : List Stmt) (p : Pos), e = .If v b o p → f v b o p = true → C) → C) e hc (fun v0 v1 v2 v3 _ h k => k v0 v1 v2 v3 rfl h) hc h k
noncomputable def cFor (e : Stmt) (f : Expr → Expr → List Stmt → List Stmt → Pos → Bool) : Bool := dite (e.ctorIdx = 9) (fun h => Stmt.For.elim (motive_2 := fun _ => Bool) e h f) (fun _ => false)
theorem cFor_inv {e : Stmt} {f : Expr → Expr → List Stmt → List Stmt → Pos → Bool} {C : Prop} (h : cFor e f = true) (k : ∀ (t : Expr) (i : Expr) (b : List Stmt) (o : List Stmt) (p : Pos), e = .For t i b o p → f t i b o p = true → C) : C :=
  (dite_inv h).elim fun hc h => Stmt.For.elim (motive_2 := fun e => ∀ hc, Stmt.For.elim (motive_2 := fun _ => Bool) e hc f = true → (∀ (t : Expr) (i : Expr) (b : List Stmt) (o : List Stmt) (p : Pos), e = .For t i b o p → f t i b o p = true → C) → C) e hc (fun v0 v1 v2 v3 v4 _ h k => k v0 v1 v2 v3 v4 rfl h) hc h k
noncomputable def cRet (e : Stmt) (f : Option Expr → Pos → Bool) : Bool := dite (e.ctorIdx = 3) (fun h => Stmt.Return.elim (motive_2 := fun _ => Bool) e h f) (fun _ => false)
theorem cRet_inv {e : Stmt} {f : Option Expr → Pos → Bool} {C : Prop} (h : cRet e f = true) (k : ∀ (v : Option Expr) (p : Pos), e = .Return v p → f v p = true → C) : C :=
  (dite_inv h).elim fun hc h => Stmt.Return.elim (motive_2 := fun e => ∀ hc, Stmt.Return.elim (motive_2 := fun _ => Bool) e hc f = true → (∀ (v : Option Expr) (p : Pos), e = .Return v p → f v p = true → C) → C) e hc (fun v0 v1 _ h k => k v0 v1 rfl h) hc h k
noncomputable def cWhile (e : Stmt) (f : Expr → List Stmt → List Stmt → Pos → Bool) : Bool := dite (e.ctorIdx = 11) (fun h => Stmt.While.elim (motive_2 := fun _ => Bool) e h f) (fun _ => false)
theorem cWhile_inv {e : Stmt} {f : Expr → List Stmt → List Stmt → Pos → Bool} {C : Prop} (h : cWhile e f = true) (k : ∀ (v : Expr) (b : List Stmt) (o : List Stmt) (p : Pos), e = .While v b o p → f v b o p = true → C) : C :=
  (dite_inv h).elim fun hc h => Stmt.While.elim (motive_2 := fun e => ∀ hc, Stmt.While.elim (motive_2 := fun _ => Bool) e hc f = true → (∀ (v : Expr) (b : List Stmt) (o : List Stmt) (p : Pos), e = .While v b o p → f v b o p = true → C) → C) e hc (fun v0 v1 v2 v3 _ h k => k v0 v1 v2 v3 rfl h) hc h k
noncomputable def c3 {α : Type} (l : List α) (f : α → α → α → Bool) : Bool := match l with | [x, y, z] => f x y z | _ => false
mutual
noncomputable def chkS (k : KD) (st : Stmt) (ms : MS) : Bool := match ms with
  | .assign x e => cAssign st fun ts v _ => c1 ts fun t => cName t fun y _ => y == Str.ofString x && isStore k y && chkE k v e
  | .append x e => cExpr st fun v _ => cCall v fun g as ks p => ks.isEmpty && c1 as fun a => cAttr g fun n at_ ap => cName n fun y _ => y == Str.ofString x && isStore k y && at_ == Str.ofString "append" && ap.endLine == p.line && chkE k a e
  | .setk x ke e => cAssign st fun ts v _ => c1 ts fun t => cSub t fun o i _ => cName o fun y _ => y == Str.ofString x && isStore k y && chkE k i ke && chkE k v e
  | .ite c t f => cIf st fun v b o _ => chkE k v c && chkSs k b t && chkSs k o f
  | .for_ x src body => cFor st fun t it b o _ => o.isEmpty && cName t fun y _ => y == Str.ofString x && isStore k y && notSet it && chkE k it src && chkSs k b body
  | .ret e => cRet st fun v _ => cOpt v fun v => chkE k v e
  | .bad => true
  | .expr e => cExpr st fun v _ => notComp v && chkE k v e
  | .while_ c body => cWhile st fun v b o _ => o.isEmpty && chkE k v c && chkSs k b body
termination_by structural ms
noncomputable def chkSs (k : KD) (ss : List Stmt) (ms : List MS) : Bool := match ms with
  | [] => ss.isEmpty
  | a :: r => (match ss with | s :: ss' => chkS k s a && chkSs k ss' r | [] => false)
termination_by structural ms
end

theorem css_cons (k : KD) (e : Stmt) (es : List Stmt) (a : MS) (r : List MS) : chkSs k (e :: es) (a :: r) = (chkS k e a && chkSs k es r) := rfl
section
variable {k : KD} {st : Stmt}
inductive IAssign (k : KD) (x : String) (e : ME) : Stmt → Prop
  | mk {p v pos} (hst : isStore k (Str.ofString x) = true) (hc : chkE k v e = true) : IAssign k x e (.Assign [.Name (Str.ofString x) p] v pos)
theorem inv_assign {x : String} {e : ME} (h : chkS k st (.assign x e) = true) : IAssign k x e st := by
  refine cAssign_inv h fun ts v p q1 h => ?_
  refine c1_inv h fun t q2 h => ?_
  refine cName_inv h fun y py q3 h => ?_
  refine and2 h fun h h3 => ?_
  refine and2 h fun h1 h2 => ?_
  have q4 := eq_of_beq h1
  subst q1 q2 q3 q4
  exact ⟨h2, h3⟩
inductive IAppend (k : KD) (x : String) (e : ME) : Stmt → Prop
  | mk {yp ap a p pos} (hst : isStore k (Str.ofString x) = true) (hl : (ap.endLine == p.line) = true) (hc : chkE k a e = true) : IAppend k x e (.Expr (.Call (.Attribute (.Name (Str.ofString x) yp) (Str.ofString "append") ap) [a] [] p) pos)
theorem inv_append {x : String} {e : ME} (h : chkS k st (.append x e) = true) : IAppend k x e st := by
  refine cExpr_inv h fun v pos q1 h => ?_
  refine cCall_inv h fun g as ks p q2 h => ?_
  refine and2 h fun h1 h => ?_
  refine c1_inv h fun a q3 h => ?_
  refine cAttr_inv h fun n at_ ap q4 h => ?_
  refine cName_inv h fun y yp q5 h => ?_
  refine and2 h fun h h5 => ?_
  refine and2 h fun h h4 => ?_
  refine and2 h fun h h3 => ?_
  refine and2 h fun h h2 => ?_
  have q6 := eq_of_beq h
  have q7 := eq_of_beq h3
  have q8 := List.isEmpty_iff.mp h1
  subst q1 q2 q3 q4 q5 q6 q7 q8
  exact ⟨h2, h4, h5⟩
inductive ISetk (k : KD) (x : String) (ke e : ME) : Stmt → Prop
  | mk {yp i p v pos} (hst : isStore k (Str.ofString x) = true) (hi : chkE k i ke = true) (hc : chkE k v e = true) : ISetk k x ke e (.Assign [.Subscript (.Name (Str.ofString x) yp) i p] v pos)
theorem inv_setk {x : String} {ke e : ME} (h : chkS k st (.setk x ke e) = true) : ISetk k x ke e st := by
  refine cAssign_inv h fun ts v pos q1 h => ?_
  refine c1_inv h fun t q2 h => ?_
  refine cSub_inv h fun o i p q3 h => ?_
  refine cName_inv h fun y yp q4 h => ?_
  refine and2 h fun h h4 => ?_
  refine and2 h fun h h3 => ?_
  refine and2 h fun h h2 => ?_
  have q5 := eq_of_beq h
  subst q1 q2 q3 q4 q5
  exact ⟨h2, h3, h4⟩
inductive IIte (k : KD) (c : ME) (t f : List MS) : Stmt → Prop
  | mk {v b o p} (hc : chkE k v c = true) (ht : chkSs k b t = true) (hf : chkSs k o f = true) : IIte k c t f (.If v b o p)
theorem inv_ite {c : ME} {t f : List MS} (h : chkS k st (.ite c t f) = true) : IIte k c t f st := by
  refine cIf_inv h fun v b o p q1 h => ?_
  refine and2 h fun h' h3 => ?_
  refine and2 h' fun h1 h2 => ?_
  subst q1
  exact ⟨h1, h2, h3⟩
inductive IFor (k : KD) (x : String) (src : ME) (body : List MS) : Stmt → Prop
  | mk {yp it b p} (hst : isStore k (Str.ofString x) = true) (hn : notSet it = true) (hc : chkE k it src = true) (hb : chkSs k b body = true) : IFor k x src body (.For (.Name (Str.ofString x) yp) it b [] p)
theorem inv_for {x : String} {src : ME} {body : List MS} (h : chkS k st (.for_ x src body) = true) : IFor k x src body st := by
  refine cFor_inv h fun t it b o p q1 h => ?_
  refine and2 h fun h1 h => ?_
  refine cName_inv h fun y yp q2 h => ?_
  refine and2 h fun h h5 => ?_
  refine and2 h fun h h4 => ?_
  refine and2 h fun h h3 => ?_
  refine and2 h fun h h2 => ?_
  have q3 := eq_of_beq h
  have q4 := List.isEmpty_iff.mp h1
  subst q1 q2 q3 q4
  exact ⟨h2, h3, h4, h5⟩
inductive IExpr (k : KD) (e : ME) : Stmt → Prop
  | mk {v p} (hn : notComp v = true) (hc : chkE k v e = true) : IExpr k e (.Expr v p)
theorem inv_expr {e : ME} (h : chkS k st (.expr e) = true) : IExpr k e st := by
  refine cExpr_inv h fun v p q1 h => ?_
  refine and2 h fun h1 h2 => ?_
  subst q1
  exact ⟨h1, h2⟩
inductive IWhile (k : KD) (c : ME) (body : List MS) : Stmt → Prop
  | mk {v b p} (hc : chkE k v c = true) (hb : chkSs k b body = true) : IWhile k c body (.While v b [] p)
theorem inv_while {c : ME} {body : List MS} (h : chkS k st (.while_ c body) = true) : IWhile k c body st := by
  refine cWhile_inv h fun v b o p q1 h => ?_
  refine and2 h fun h h3 => ?_
  refine and2 h fun h h2 => ?_
  have q2 := List.isEmpty_iff.mp h
  subst q1 q2
  exact ⟨h2, h3⟩
inductive IRet (k : KD) (e : ME) : Stmt → Prop
  | mk {v p} (hc : chkE k v e = true) : IRet k e (.Return (some v) p)
theorem inv_ret {e : ME} (h : chkS k st (.ret e) = true) : IRet k e st := by
  refine cRet_inv h fun v p q1 h => ?_
  refine cOpt_inv h fun v q2 h => ?_
  subst q1 q2
  exact ⟨h⟩
end

noncomputable abbrev Own := String → Option Addr
noncomputable def Hot (env : Env) (H₀ : Addr → Prop) (own : Own) (b : Addr) : Prop := H₀ b ∨ b = env.locals ∨ (∃ x, env.cells.lookup x = some b) ∨ ∃ x, own x = some b
noncomputable def Own.less (own : Own) (ns : List String) : Own := fun x => if x ∈ ns then none else own x
theorem Hot.less {env : Env} {H₀ : Addr → Prop} {own : Own} {ns : List String} {b : Addr} (h : Hot env H₀ (own.less ns) b) : Hot env H₀ own b := by
  rcases h with h | h | h | ⟨x, h⟩
  · exact .inl h
  · exact .inr (.inl h)
  · exact .inr (.inr (.inl h))
  · unfold Own.less at h
    split at h
    · cases h
    · exact .inr (.inr (.inr ⟨x, h⟩))

structure StOk (w : World) (base ent h : Heap) (env : Env) (H₀ : Addr → Prop) (own : Own) (m : Str → Option Value) (σ : St) : Prop where
  rep : EnvRep h env m
  plain : ∀ x d, σ.lookup x = some (false, d) → ∃ v, m (Str.ofString x) = some v ∧ Rep w.params h (Hot env H₀ own) v d
  owned : ∀ x d, σ.lookup x = some (true, d) → ∃ a, own x = some a ∧ m (Str.ofString x) = some (.ref a) ∧ OwnD w.params h (Hot env H₀ own) a d
  hot : HOk base h (Hot env H₀ own)
  keep : KH ent h
  frE : gat ent env.locals = none ∧ ∀ x c, env.cells.lookup x = some c → gat ent c = none
  own1 : ∀ x a, own x = some a → gat ent a = none ∧ ¬ H₀ a ∧ a ≠ env.locals ∧ ∀ y, env.cells.lookup y ≠ some a
  inj : ∀ x y a, own x = some a → own y = some a → x = y
  ownx : ∀ x a, own x = some a → ∃ o, gat h a = some o

theorem OwnL.mono {P : Params} {h h' : Heap} {H H' : Addr → Prop} {a : Addr} {ds : List D} (o : OwnL P h H a ds) (ha : ∀ o, gat h a = some o → gat h' a = some o) (hk : ∀ b o, ¬ H b → gat h b = some o → gat h' b = some o) (hH : ∀ b o, gat h b = some o → H' b → H b ∨ b = a) : OwnL P h' H' a ds := by
  obtain ⟨vs, n, h1, h2, h3⟩ := o
  refine ⟨vs, n, Heap.of_gt (ha _ (Heap.gt_of h1)), h2, h3.mono (fun b o hn e => hk b o (fun q => hn (.inl q)) e) fun b o e q => q.elim (hH b o e) .inr⟩

theorem OwnD.mono {P : Params} {h h' : Heap} {H H' : Addr → Prop} {a : Addr} {d : D} (o : OwnD P h H a d) (ha : ∀ o, gat h a = some o → gat h' a = some o) (hk : ∀ b o, ¬ H b → gat h b = some o → gat h' b = some o) (hH : ∀ b o, gat h b = some o → H' b → H b ∨ b = a) : OwnD P h' H' a d := by
  cases d <;> first | exact OwnL.mono o ha hk hH | exact False.elim o | skip
  obtain ⟨es, n, h1, h2, h3, h4, h5⟩ := o
  exact ⟨es, n, Heap.of_gt (ha _ (Heap.gt_of h1)), h2, h3.mono (fun b o hn e => hk b o (fun q => hn (.inl q)) e) (fun b o e q => q.elim (hH b o e) .inr), h4.mono (fun b o hn e => hk b o (fun q => hn (.inl q)) e) (fun b o e q => q.elim (hH b o e) .inr), h5⟩

theorem StOk.keeps {w : World} {base ent h h' : Heap} {env : Env} {H₀ : Addr → Prop} {own : Own} {m : Str → Option Value} {σ : St} (S : StOk w base ent h env H₀ own m σ) (hk : KH h h') :
    StOk w base ent h' env H₀ own m σ where
  rep := S.rep.keeps hk
  plain := fun x d e => let ⟨v, h1, h2⟩ := S.plain x d e; ⟨v, h1, h2.keeps hk⟩
  owned := fun x d e => let ⟨a, h1, h2, h4⟩ := S.owned x d e; ⟨a, h1, h2, h4.mono (fun o e => hk _ o e) (fun b o _ e => hk b o e) fun _ _ _ q => .inl q⟩
  hot := S.hot.keeps hk
  keep := fun b o e => hk b o (S.keep b o e)
  frE := S.frE
  own1 := S.own1
  inj := S.inj
  ownx := fun x a e => let ⟨o, ho⟩ := S.ownx x a e; ⟨o, hk _ _ ho⟩

theorem StOk.freeze {w : World} {base ent h : Heap} {env : Env} {H₀ : Addr → Prop} {own : Own} {m : Str → Option Value} {σ : St} (S : StOk w base ent h env H₀ own m σ) (ns : List String) :
    StOk w base ent h env H₀ (own.less ns) m (Mine.freeze ns σ) where
  rep := S.rep
  plain := fun x d e => by
    rw [lookup_freeze] at e
    simp only [Option.map_eq_some_iff, Prod.mk.injEq] at e
    obtain ⟨⟨o, d'⟩, h1, h2, h3⟩ := e
    simp only at h2 h3
    subst h3
    cases o with
    | false =>
      obtain ⟨v, q1, q2⟩ := S.plain x d' h1
      exact ⟨v, q1, q2.sub fun _ q => q.less⟩
    | true =>
      simp only [Bool.true_and, Bool.not_eq_false', List.contains_iff_mem] at h2
      obtain ⟨a, q1, q2, q4⟩ := S.owned x d' h1
      refine ⟨_, q2, (q4.mono (H' := Hot env H₀ (own.less ns)) (fun _ e => e) (fun _ _ _ e => e) fun _ _ _ q => .inl q.less).rep ?_⟩
      obtain ⟨_, g1, g2, g3⟩ := S.own1 x a q1
      rintro (e | e | ⟨y, e⟩ | ⟨y, e⟩)
      · exact g1 e
      · exact g2 e
      · exact g3 y e
      · unfold Own.less at e
        split at e
        · cases e
        · rename_i hy
          exact hy (S.inj x y a q1 e ▸ h2)
  owned := fun x d e => by
    rw [lookup_freeze] at e
    simp only [Option.map_eq_some_iff, Prod.mk.injEq] at e
    obtain ⟨⟨o, d'⟩, h1, h2, h3⟩ := e
    simp only at h2 h3
    subst h3
    simp only [Bool.and_eq_true, Bool.not_eq_true', List.contains_eq_mem, decide_eq_false_iff_not] at h2
    obtain ⟨rfl, h2⟩ := h2
    obtain ⟨a, q1, q2, q4⟩ := S.owned x d' h1
    exact ⟨a, by unfold Own.less; rw [if_neg h2]; exact q1, q2, q4.mono (fun _ e => e) (fun _ _ _ e => e) fun _ _ _ q => .inl q.less⟩
  hot := ⟨S.hot.keep, fun a q => S.hot.ex a q.less, fun b o e q => S.hot.off b o e q.less⟩
  keep := S.keep
  frE := S.frE
  own1 := fun x a e => S.own1 x a (by unfold Own.less at e; split at e <;> first | cases e | exact e)
  inj := fun x y a e1 e2 => S.inj x y a (by unfold Own.less at e1; split at e1 <;> first | cases e1 | exact e1) (by unfold Own.less at e2; split at e2 <;> first | cases e2 | exact e2)
  ownx := fun x a e => S.ownx x a (by unfold Own.less at e; split at e <;> first | cases e | exact e)

/-- what is known of the variables, all those of ns let go -/
theorem StOk.nv {w : World} {base ent h : Heap} {env : Env} {H₀ : Addr → Prop} {own : Own} {m : Str → Option Value} {σ : St} (S : StOk w base ent h env H₀ own m σ) (ns : List String) :
    NV w.params env.kindOf ns (vis σ) m h (Hot env H₀ (own.less ns)) := by
  intro x hx _ d hd
  rw [lookup_vis] at hd
  simp only [Option.map_eq_some_iff] at hd
  obtain ⟨⟨o, d'⟩, h1, h2⟩ := hd
  simp only at h2
  subst h2
  have : (Mine.freeze ns σ).lookup x = some (false, d') := by
    rw [lookup_freeze, h1]
    simp [List.contains_iff_mem, hx]
  exact (S.freeze ns).plain x d' this
end Mine
namespace Mine
open PySem PySem.SeqAt

section
variable {w : World} {base ent h h₁ h₂ : Heap} {env : Env} {H₀ : Addr → Prop} {own : Own} {m : Str → Option Value} {σ : St}

theorem frame_ex {a : Addr} (R : EnvRep h env m) (ha : a = env.locals ∨ ∃ y, env.cells.lookup y = some a) : ∃ o, gat h a = some o := by
  rcases ha with rfl | ⟨y, e⟩
  · obtain ⟨_, e, _⟩ := R.loc; exact gt_ns e
  · exact R.ex y a e

theorem StOk.assign (S : StOk w base ent h env H₀ own m σ) (hk : KH h h₁) {x : String} {v : Value} {a : Addr} {fr : Bool} {d : D} {nw : Option Addr}
    (R₂ : EnvRep h₂ env (upd m (Str.ofString x) v)) (ha : a = env.locals ∨ ∃ y, env.cells.lookup y = some a) {X : Addr → Prop} (hX : ∀ b, X b → gat h b = none) (hs : ∀ b, b ≠ a → ¬ X b → ∀ {o}, gat h₁ b = some o → gat h₂ b = some o)
    (hv : (fr = false ∧ nw = none ∧ Rep w.params h₁ (fun b => Hot env H₀ own b ∨ X b) v d) ∨ (fr = true ∧ ∃ c, nw = some c ∧ v = .ref c ∧ gat h c = none ∧ ¬ H₀ c ∧ ¬ X c ∧ OwnD w.params h₁ (fun b => Hot env H₀ own b ∨ X b) c d)) :
    StOk w base ent h₂ env H₀ (fun y => if y = x then nw else own y) (upd m (Str.ofString x) v) (setv σ x (fr, d)) := by
  have aHot : ∀ own', Hot env H₀ own' a := fun own' => .inr (ha.elim .inl fun e => .inr (.inl e))
  have aEx : ∃ o, gat h a = some o := frame_ex S.rep ha
  have nX : ∀ b o, gat h b = some o → ¬ X b := fun b o e q => by have := hX b q; rw [e] at this; cases this
  have newc : ∀ c, nw = some c → gat h c = none ∧ ¬ H₀ c ∧ ∃ o, gat h₂ c = some o := by
    intro c hc
    rcases hv with ⟨_, e, _⟩ | ⟨_, c', e, _, h1, h2, hXc, h3⟩
    · rw [e] at hc; cases hc
    · rw [e] at hc; cases hc
      obtain ⟨_, h3⟩ := h3.ex
      refine ⟨h1, h2, _, (hs c (fun q => ?_) hXc) h3⟩
      obtain ⟨o, ho⟩ := aEx
      rw [← q, h1] at ho; cases ho
  have hotEq : ∀ b o, gat h b = some o → Hot env H₀ (fun y => if y = x then nw else own y) b → Hot env H₀ own b := by
    intro b o e q
    rcases q with q | q | q | ⟨y, q⟩
    · exact .inl q
    · exact .inr (.inl q)
    · exact .inr (.inr (.inl q))
    · dsimp only at q
      split at q
      · have := (newc b q).1; rw [e] at this; cases this
      · exact .inr (.inr (.inr ⟨y, q⟩))
  have k2 : ∀ b o, ¬ Hot env H₀ own b → gat h b = some o → gat h₂ b = some o := fun b o hn e => (hs b (fun q => hn (q ▸ aHot own)) (nX b o e)) (hk b o e)
  have k2' : ∀ b o, gat h b = some o → ∃ o', gat h₂ b = some o' := fun b o e => by
    by_cases q : b = a
    · exact q ▸ frame_ex R₂ ha
    · exact ⟨o, (hs b q (nX b o e)) (hk b o e)⟩
  refine ⟨R₂, ?_, ?_, ⟨?_, ?_, ?_⟩, ?_, S.frE, ?_, ?_, ?_⟩
  · intro y d' e
    rw [lookup_setv] at e
    split at e
    · rename_i q; subst q
      cases e
      rcases hv with ⟨_, rfl, r⟩ | ⟨e, _⟩
      · refine ⟨v, by simp [upd], r.mono (fun b o hn e => (hs b (fun q => hn (.inl (q ▸ aHot own))) (fun q => hn (.inr q))) e) fun b o _ q => .inl ?_⟩
        rcases q with q | q | q | ⟨z, q⟩
        · exact .inl q
        · exact .inr (.inl q)
        · exact .inr (.inr (.inl q))
        · dsimp only at q
          split at q
          · cases q
          · exact .inr (.inr (.inr ⟨z, q⟩))
      · cases e
    · rename_i q
      obtain ⟨u, h1, h2⟩ := S.plain y d' e
      refine ⟨u, ?_, h2.mono k2 hotEq⟩
      have : Str.ofString y ≠ Str.ofString x := fun e => q (ofString_inj e)
      simp [upd, this, h1]
  · intro y d' e
    rw [lookup_setv] at e
    split at e
    · rename_i q; subst q
      cases e
      rcases hv with ⟨e, _⟩ | ⟨_, c, rfl, rfl, h1, h2, hXc, h3⟩
      · cases e
      · have hca : c ≠ a := fun q => by obtain ⟨o, ho⟩ := aEx; rw [← q, h1] at ho; cases ho
        refine ⟨c, by simp, by simp [upd], h3.mono (fun o e => (hs c hca hXc) e) (fun b o hn e => (hs b (fun q => hn (.inl (q ▸ aHot own))) (fun q => hn (.inr q))) e) fun b o _ q => ?_⟩
        rcases q with q | q | q | ⟨z, q⟩
        · exact .inl (.inl (.inl q))
        · exact .inl (.inl (.inr (.inl q)))
        · exact .inl (.inl (.inr (.inr (.inl q))))
        · dsimp only at q
          split at q
          · cases q; exact .inr rfl
          · exact .inl (.inl (.inr (.inr (.inr ⟨z, q⟩))))
    · rename_i q
      obtain ⟨c, h1, h2, h4⟩ := S.owned y d' e
      have hca : c ≠ a := by
        obtain ⟨_, _, g2, g3⟩ := S.own1 y c h1
        rcases ha with rfl | ⟨z, e⟩
        · exact g2
        · rintro rfl; exact g3 z e
      have : Str.ofString y ≠ Str.ofString x := fun e => q (ofString_inj e)
      exact ⟨c, by simp [q, h1], by simp [upd, this, h2], h4.mono (fun o e => (hs c hca (nX _ _ e)) (hk _ _ e)) k2 fun b o e q => .inl (hotEq b o e q)⟩
  · intro b o e
    exact k2 b o (S.hot.off b o e) (S.hot.keep b o e)
  · intro b q
    rcases q with q | q | q | ⟨y, q⟩
    · obtain ⟨b', o, hb, ho⟩ := S.hot.ex b (.inl q)
      obtain ⟨o', ho'⟩ := k2' b' o ho
      exact ⟨b', o', hb, ho'⟩
    · obtain ⟨o', ho'⟩ := frame_ex R₂ (.inl q)
      exact ⟨b, o', Nat.le_refl _, ho'⟩
    · obtain ⟨o', ho'⟩ := frame_ex R₂ (.inr q)
      exact ⟨b, o', Nat.le_refl _, ho'⟩
    · dsimp only at q
      split at q
      · obtain ⟨_, _, o', ho'⟩ := newc b q
        exact ⟨b, o', Nat.le_refl _, ho'⟩
      · obtain ⟨b', o, hb, ho⟩ := S.hot.ex b (.inr (.inr (.inr ⟨y, q⟩)))
        obtain ⟨o', ho'⟩ := k2' b' o ho
        exact ⟨b', o', hb, ho'⟩
  · intro b o e q
    exact S.hot.off b o e (hotEq b o (S.hot.keep b o e) q)
  · intro b o e
    refine (hs b (fun q => ?_) (nX b o (S.keep b o e))) (hk b o (S.keep b o e))
    rcases ha with rfl | ⟨z, ez⟩
    · rw [q, S.frE.1] at e; cases e
    · rw [q, S.frE.2 z a ez] at e; cases e
  · intro y c hc
    split at hc
    · obtain ⟨g1, g2, _⟩ := newc c hc
      refine ⟨?_, g2, ?_, ?_⟩
      · cases e : gat ent c with
        | none => rfl
        | some o => rw [S.keep c o e] at g1; cases g1
      · rintro rfl
        obtain ⟨o, ho⟩ := frame_ex S.rep (.inl rfl)
        rw [g1] at ho; cases ho
      · intro z ez
        obtain ⟨o, ho⟩ := frame_ex S.rep (.inr ⟨z, ez⟩)
        rw [g1] at ho; cases ho
    · exact S.own1 y c hc
  · intro y z c h1 h2
    split at h1 <;> split at h2
    · rename_i e1 e2; rw [e1, e2]
    · obtain ⟨o, ho⟩ := S.ownx z c h2
      rw [(newc c h1).1] at ho; cases ho
    · obtain ⟨o, ho⟩ := S.ownx y c h1
      rw [(newc c h2).1] at ho; cases ho
    · exact S.inj y z c h1 h2
  · intro y c hc
    split at hc
    · exact (newc c hc).2.2
    · obtain ⟨o, ho⟩ := S.ownx y c hc
      exact k2' c o ho

/-- the owned object of x turns into another -/
theorem StOk.turn (S : StOk w base ent h env H₀ own m σ) {x : String} {a : Addr} {d₀ d : D} (hx : σ.lookup x = some (true, d₀)) (hown : own x = some a) (hs : Heap.SameBut a h h₂) (hd : OwnD w.params h₂ (Hot env H₀ own) a d) :
    StOk w base ent h₂ env H₀ own m (setv σ x (true, d)) := by
  have hs : Heap.SB a h h₂ := ⟨hs, (by
    obtain ⟨a', q1, _, q3⟩ := S.owned x _ hx
    rw [hown] at q1; cases q1; exact q3.notTab), hd.notTab⟩
  have aHot : Hot env H₀ own a := .inr (.inr (.inr ⟨x, hown⟩))
  obtain ⟨g0, g1, g2, g3⟩ := S.own1 x a hown
  have k2 : ∀ b o, ¬ Hot env H₀ own b → gat h b = some o → gat h₂ b = some o := fun b o hn e => (hs.g b fun q => hn (q ▸ aHot)).trans e
  have k2' : ∀ b o, gat h b = some o → ∃ o', gat h₂ b = some o' := fun b o e => by
    by_cases q : b = a
    · exact q ▸ hd.ex
    · exact ⟨o, (hs.g b q).trans e⟩
  have R₂ : EnvRep h₂ env m := S.rep.keepsAt fun b o hb e => (hs.g b (by
    rcases hb with rfl | ⟨z, ez⟩
    · exact Ne.symm g2
    · rintro rfl; exact g3 z ez)).trans e
  refine ⟨R₂, ?_, ?_, ⟨?_, ?_, S.hot.off⟩, ?_, S.frE, S.own1, S.inj, ?_⟩
  · intro y d' e
    rw [lookup_setv] at e
    split at e
    · cases e
    · obtain ⟨u, h1, h2⟩ := S.plain y d' e
      exact ⟨u, h1, h2.mono k2 fun _ _ _ q => q⟩
  · intro y d' e
    rw [lookup_setv] at e
    split at e
    · rename_i q; subst q
      cases e
      obtain ⟨a', q1, q2, _⟩ := S.owned y _ hx
      rw [hown] at q1; cases q1
      exact ⟨a, hown, q2, hd⟩
    · rename_i q
      obtain ⟨c, h1, h2, h4⟩ := S.owned y d' e
      have hca : c ≠ a := fun e => q (S.inj y x a (e ▸ h1) hown)
      exact ⟨c, h1, h2, h4.mono (fun o e => (hs.g c hca).trans e) k2 fun b o e q => .inl q⟩
  · intro b o e
    exact k2 b o (S.hot.off b o e) (S.hot.keep b o e)
  · intro b q
    obtain ⟨b', o, hb, ho⟩ := S.hot.ex b q
    obtain ⟨o', ho'⟩ := k2' b' o ho
    exact ⟨b', o', hb, ho'⟩
  · intro b o e
    exact (hs.g b fun q => by rw [q, g0] at e; cases e).trans (S.keep b o e)
  · intro y c hc
    obtain ⟨o, ho⟩ := S.ownx y c hc
    exact k2' c o ho
theorem StOk.append (S : StOk w base ent h env H₀ own m σ) {x : String} {a : Addr} {ds : List D} {vs : Array Value} {n : Nat} {v : Value} {d : D} (hx : σ.lookup x = some (true, .list ds)) (hown : own x = some a)
    (hl : h.get? a = some (lstO vs n)) (hr : RepAll w.params h (fun b => Hot env H₀ own b ∨ b = a) vs.toList ds) (hv : Rep w.params h (Hot env H₀ own) v d) (hsz : (ds ++ [d]).length ≤ big) (hs : Heap.SameBut a h h₂) (hl₂ : ∃ n', h₂.get? a = some (lstO (vs.push v) n')) :
    StOk w base ent h₂ env H₀ own m (setv σ x (true, .list (ds ++ [d]))) := by
  have hs0 := hs
  have hs : Heap.SB a h h₂ := ⟨hs0, notTab_at hl, let ⟨_, e⟩ := hl₂; notTab_at e⟩
  have aHot : Hot env H₀ own a := .inr (.inr (.inr ⟨x, hown⟩))
  have k2 : ∀ b o, ¬ Hot env H₀ own b → gat h b = some o → gat h₂ b = some o := fun b o hn e => (hs.g b fun q => hn (q ▸ aHot)).trans e
  obtain ⟨n', e'⟩ := hl₂
  refine S.turn hx hown hs0 ⟨vs.push v, n', e', hsz, ?_⟩
  have r : RepAll w.params h (fun b => Hot env H₀ own b ∨ b = a) (vs.toList ++ [v]) (ds ++ [d]) := hr.append (.cons (hv.mono (fun _ _ _ e => e) fun b o _ q => q.elim id fun q => q ▸ aHot) .nil)
  have r' := r.mono (h' := h₂) (H' := fun b => Hot env H₀ own b ∨ b = a) (fun b o hn e => k2 b o (fun q => hn (.inl q)) e) fun _ _ _ q => q
  simpa using r'
end
end Mine
namespace Mine
open PySem PySem.SeqAt
section
variable {prog : Program} {w : World} {A : Around}
theorem StOk.ownM {base ent h : Heap} {env : Env} {H₀ : Addr → Prop} {own : Own} {m : Str → Option Value} {σ : St} (S : StOk w base ent h env H₀ own m σ) {x : String} {L : Addr} {ks vs : List D} (hx : σ.lookup x = some (true, .dict ks vs)) (hL : own x = some L) :
    OwnM w.params h (Hot env H₀ own) L ks vs := by
  obtain ⟨L', q1, q2, o⟩ := S.owned x _ hx
  rw [hL] at q1; cases q1
  exact o
theorem setItem_own {s : Shared} {H : Addr → Prop} {L : Addr} {ks vs : List D} {u kv : Value} {d dk : D} {Q : Unit → Shared → Prop} {E : Value → Shared → Prop} (hu : A.units + 1 < cLine) (o : OwnM w.params s.heap H L ks vs)
    (rk : Rep w.params s.heap (fun b => H b ∨ b = L) kv dk) (rv : Rep w.params s.heap (fun b => H b ∨ b = L) u d) (hc : keyOk dk ks = true) (hlen : ks.length < big)
    (hQ : ∀ h' tk dw, Heap.SameBut L s.heap h' → OwnM w.params h' H L (dput ks vs dk d).1 (dput ks vs dk d).2 → Q () { s with heap := h', toks := tk, drawn := dw }) : wpAny (model prog w) A (setItem (.ref L) kv u) Q E s := by
  obtain ⟨es, n, o1, o2, o3, o4, o5, o6, o7, o8⟩ := o
  have e0 : big ≤ sizeLine := by decide
  have hdl : (dput ks vs dk d).1.length ≤ big := by have := dput_len dk d ks vs; omega
  unfold keyOk at hc
  rw [Bool.or_eq_true, Bool.and_eq_true] at hc
  have nt : ∀ o, s.heap.get? L = some o → isTab o = false := notTab_at o1
  have mv : ∀ {h'}, Heap.SameBut L s.heap h' → ∀ {l : List Value} {ds : List D}, RepAll w.params s.heap (fun b => H b ∨ b = L) l ds → RepAll w.params h' (fun b => H b ∨ b = L) l ds := fun hs _ _ r =>
    r.mono (fun b o hb e => g1 hs nt b (fun q => hb (.inr q)) e) fun _ _ _ q => q
  rcases hc with hc | hc
  · obtain ⟨cs, rfl⟩ := cells_ck hc.2
    obtain ⟨c, rfl⟩ := cell_ck hc.1
    have hl : cs.length = (es.toList.map (·.val)).length := by have := o3.length; simpa using this.symm
    have hcn : cs.Nodup := (List.pairwise_map.mp o7).imp fun h e => h (by rw [e])
    refine wpAny_setItem_pairs (knd := cellKind prog w) (rep_ck rk) (dictOf_rep o1 o3 o5 o7) (fun h' hm hs => ?_) (by
      simp only [List.length_map] at hlen
      rw [List.length_zip]; omega)
    obtain ⟨p1, p2⟩ := stored_dput (k := c) rv hl hcn o4
    obtain ⟨es', n', r1, r2, r3, r4, r5, r6⟩ := rep_dictOf (H := fun b => H b ∨ b = L) hm
    rw [p1] at r2 r4 r5 r6
    exact hQ _ _ _ hs ⟨es', n', r1, hdl, r2, r3 ▸ mv hs p2, r4, r5, r6, o8⟩
  · cases hc
end
end Mine
namespace Mine
open PySem PySem.SeqAt

noncomputable def frm (env : Env) (b : Addr) : Prop := b = env.locals ∨ ∃ x, env.cells.lookup x = some b

/-- from one heap to a later one: what is neither the frame's nor an owned variable's stays -/
structure Tr (h₀ : Heap) (env : Env) (own₀ : Own) (h : Heap) (own : Own) : Prop where
  k : ∀ b o, gat h₀ b = some o → ¬ frm env b → (∀ x, own₀ x ≠ some b) → gat h b = some o
  x : ∀ b o, gat h₀ b = some o → ∃ o', gat h b = some o'
  o : ∀ x a, own x = some a → own₀ x = some a ∨ gat h₀ a = none
theorem no_sn {α : Type} {o : Option α} {x : α} {C : Prop} (h : o = some x) (h' : o = none) : C := by rw [h] at h'; cases h'
theorem none_of {h h' : Heap} {a : Addr} (hx : ∀ o, gat h a = some o → ∃ o', gat h' a = some o') (e : gat h' a = none) : gat h a = none := by
  cases q : gat h a with
  | none => rfl
  | some o => exact (hx o q).elim fun o' e' => no_sn e' e
section
variable {h₀ h h₁ h₂ : Heap} {env : Env} {own₀ own own₁ own₂ : Own}
theorem Tr.of (hk : KH h₀ h) (ho : ∀ x a, own x = some a → own₀ x = some a) : Tr h₀ env own₀ h own := ⟨fun b o e _ _ => hk b o e, fun b o e => ⟨o, hk b o e⟩, fun x a e => .inl (ho x a e)⟩
theorem Tr.keeps (hk : KH h₀ h) : Tr h₀ env own h own := .of hk fun _ _ e => e
theorem Tr.none (t : Tr h₀ env own₀ h own) {a : Addr} (e : gat h a = none) : gat h₀ a = none := none_of (t.x a) e
theorem Tr.sub (t : Tr h₀ env own₀ h own) {b : Addr} {o : Obj} (e : gat h₀ b = some o) (hn : ∀ x, own₀ x ≠ some b) : ∀ x, own x ≠ some b := fun x q => (t.o x b q).elim (hn x) fun q => no_sn e q
theorem Tr.trans (t : Tr h₀ env own₀ h₁ own₁) (u : Tr h₁ env own₁ h₂ own₂) : Tr h₀ env own₀ h₂ own₂ :=
  ⟨fun b o e hf ho => u.k b o (t.k b o e hf ho) hf (t.sub e ho), fun b o e => (t.x b o e).elim fun o' e' => u.x b o' e', fun x a e => (u.o x a e).elim (t.o x a) fun e => .inr (t.none e)⟩
end
/-- a def's answer -/
structure RetOk (w : World) (ent h : Heap) (H₀ : Addr → Prop) (v : Value) (fr : Bool) (d : D) : Prop where
  rep : Rep w.params h H₀ v d
  keep : KH ent h
  fr : fr = true → ∃ a, v = .ref a ∧ gat ent a = none ∧ OwnD w.params h H₀ a d
noncomputable def noOwn : Own := fun _ => none
/-- what a statement leaves -/
noncomputable def SPost (w : World) (base ent : Heap) (env : Env) (H₀ : Addr → Prop) (s : Shared) (own : Own) (r : Fl × St) (f : Flow) (s' : Shared) : Prop :=
  ∀ Q : Flow → Shared → Prop, (∀ h tk dw own' m, r.1 = .next → Tr s.heap env own h own' → StOk w base ent h env H₀ own' m r.2 → Q .next { s with heap := h, toks := tk, drawn := dw }) →
    (∀ h tk dw fr d v, r.1 = .ret fr d → Tr s.heap env own h noOwn → RetOk w ent h H₀ v fr d → Q (.ret v) { s with heap := h, toks := tk, drawn := dw }) → Q f s'

section
variable {prog : Program} {w : World} {A : Around} {base : Heap} {mg mb : Str → Option Value} {cf : CF}

noncomputable def SS (prog : Program) (w : World) (A : Around) (base : Heap) (cf : CF) (ms : MS) : Prop :=
  ∀ (s : Shared) (env : Env) (st : Stmt) (H₀ : Addr → Prop) (ent : Heap) (own : Own) (m : Str → Option Value) (σ : St) (r : Fl × St) (E : Value → Shared → Prop), chkS env.kindOf st ms = true → StOk w base ent s.heap env H₀ own m σ →
    exS cf ms σ = some r → wpAny (model prog w) A (exec st env) (SPost w base ent env H₀ s own r) E s
noncomputable def SSs (prog : Program) (w : World) (A : Around) (base : Heap) (cf : CF) (ms : List MS) : Prop :=
  ∀ (s : Shared) (env : Env) (ss : List Stmt) (H₀ : Addr → Prop) (ent : Heap) (own : Own) (m : Str → Option Value) (σ : St) (r : Fl × St) (E : Value → Shared → Prop), chkSs env.kindOf ss ms = true → StOk w base ent s.heap env H₀ own m σ →
    exSs cf ms σ = some r → wpAny (model prog w) A (execs ss env) (SPost w base ent env H₀ s own r) E s

section
variable {ent : Heap} {env : Env} {H₀ : Addr → Prop} {s : Shared} {own own₁ : Own} {m : Str → Option Value} {σ : St} {r : Fl × St} {f : Flow} {s' : Shared} {h₁ h₂ : Heap} {tk : Nat} {dw : Drawn}
theorem SPost.nx (t : Tr s.heap env own h₁ own₁) (S : StOk w base ent h₁ env H₀ own₁ m σ) : SPost w base ent env H₀ s own (.next, σ) .next { s with heap := h₁, toks := tk, drawn := dw } := fun _ hn _ => hn h₁ tk dw own₁ m rfl t S
theorem SPost.rt {fr : Bool} {d : D} {v : Value} (t : Tr s.heap env own h₁ noOwn) (R : RetOk w ent h₁ H₀ v fr d) : SPost w base ent env H₀ s own (.ret fr d, σ) (.ret v) { s with heap := h₁, toks := tk, drawn := dw } := fun _ _ hr => hr h₁ tk dw fr d v rfl t R
theorem SPost.trans (t : Tr s.heap env own h₁ own₁) (q : SPost w base ent env H₀ { s with heap := h₁, toks := tk, drawn := dw } own₁ r f s') : SPost w base ent env H₀ s own r f s' :=
  fun Q hn hr => q Q (fun h tk dw own' m e u S => hn h tk dw own' m e (t.trans u) S) fun h tk dw fr d v e u R => hr h tk dw fr d v e (t.trans u) R
/-- the owned variables after a run of an expression of value d that reads ns -/
noncomputable def ownS (own : Own) (d : D) (ns : List String) : Own := if d.scalar then own else own.less ns
theorem less_sub {ns : List String} {x : String} {a : Addr} (e : own.less ns x = some a) : own x = some a := by unfold Own.less at e; split at e <;> first | cases e | exact e
theorem ownS_sub {d : D} {ns : List String} {x : String} {a : Addr} (e : ownS own d ns x = some a) : own x = some a := by
  unfold ownS at e; split at e
  · exact e
  · exact less_sub e
theorem StOk.settle (S : StOk w base ent h₁ env H₀ own m σ) (d : D) (ns : List String) : StOk w base ent h₁ env H₀ (ownS own d ns) m (Mine.settle d ns σ) := by
  unfold Mine.settle ownS
  cases d.scalar with
  | true => exact S
  | false => exact S.freeze ns
theorem rep_settle {X : Addr → Prop} {ns : List String} {v : Value} {d : D} (rv : Rep w.params h₁ (fun b => Hot env H₀ (own.less ns) b ∨ X b) v d) : Rep w.params h₁ (fun b => Hot env H₀ (ownS own d ns) b ∨ X b) v d := by
  unfold ownS
  cases hd : d.scalar with
  | true => exact rv.scalar hd
  | false => exact rv
theorem rep_settle0 {ns : List String} {v : Value} {d : D} (rv : Rep w.params h₁ (Hot env H₀ (own.less ns)) v d) : Rep w.params h₁ (Hot env H₀ (ownS own d ns)) v d := by
  unfold ownS
  cases hd : d.scalar with
  | true => exact rv.scalar hd
  | false => exact rv
noncomputable def nwOf (fr : Bool) (v : Value) : Option Addr := if fr then (match v with | .ref c => some c | _ => none) else none
noncomputable def Own.set (own : Own) (x : String) (nw : Option Addr) : Own := fun y => if y = x then nw else own y
theorem store_core {x : String} {ns : List String} {d : D} {fr : Bool} {v : Value} {a : Addr} {X : Addr → Prop}
    (S : StOk w base ent s.heap env H₀ own m σ) (hk : KH s.heap h₁) (rv : Rep w.params h₁ (fun b => Hot env H₀ (own.less ns) b ∨ X b) v d)
    (hfr : fr = true → ∃ c, v = .ref c ∧ gat s.heap c = none ∧ OwnD w.params h₁ (fun b => Hot env H₀ (own.less ns) b ∨ X b) c d)
    (R₂ : EnvRep h₂ env (upd m (Str.ofString x) v)) (ha : frm env a) (hX : ∀ b, X b → gat s.heap b = none) (hs : ∀ b, b ≠ a → ¬ X b → ∀ {o}, gat h₁ b = some o → gat h₂ b = some o) :
    StOk w base ent h₂ env H₀ ((ownS own d ns).set x (nwOf fr v)) (upd m (Str.ofString x) v) (setv (Mine.settle d ns σ) x (fr, d)) ∧ Tr s.heap env own h₂ ((ownS own d ns).set x (nwOf fr v)) := by
  have hv : (fr = false ∧ nwOf fr v = none ∧ Rep w.params h₁ (fun b => Hot env H₀ (ownS own d ns) b ∨ X b) v d) ∨
      (fr = true ∧ ∃ c, nwOf fr v = some c ∧ v = .ref c ∧ gat s.heap c = none ∧ ¬ H₀ c ∧ ¬ X c ∧ OwnD w.params h₁ (fun b => Hot env H₀ (ownS own d ns) b ∨ X b) c d) := by
    cases fr with
    | false => exact .inl ⟨rfl, rfl, rep_settle rv⟩
    | true =>
      refine .inr ⟨rfl, (hfr rfl).elim fun c q => ⟨c, ?_, q.1, q.2.1, fun z => ?_, fun z => ?_, ?_⟩⟩
      · rw [q.1]; rfl
      · rw [q.1] at rv; exact rv.off (.inl (.inl z))
      · rw [q.1] at rv; exact rv.off (.inr z)
      · unfold ownS; rw [q.2.2.scalar]; exact q.2.2
  have nX : ∀ b o, gat s.heap b = some o → ¬ X b := fun b o e q => no_sn e (hX b q)
  refine ⟨(S.settle d ns).assign (x := x) (v := v) (fr := fr) (d := d) hk R₂ ha hX hs hv, fun b o e hf _ => (hs b (fun q => hf (q ▸ ha)) (nX b o e)) (hk b o e), fun b o e => ?_, fun y c hc => ?_⟩
  · by_cases q : b = a
    · exact q ▸ frame_ex R₂ ha
    · exact ⟨o, (hs b q (nX b o e)) (hk b o e)⟩
  · unfold Own.set at hc
    split at hc
    · rcases hv with ⟨_, e, _⟩ | ⟨_, c', e, _, h1, _⟩
      · rw [e] at hc; cases hc
      · rw [e] at hc; cases hc; exact .inr h1
    · exact .inl (ownS_sub hc)
end
theorem isStore_kind {k : KD} {x : Str} (hx : isStore k x = true) : k x = some .local ∨ k x = some .cell := by
  unfold isStore at hx
  simp only [Bool.and_eq_true, Bool.or_eq_true, beq_iff_eq] at hx
  exact hx.1

structure Cx (prog : Program) (w : World) (A : Around) (base : Heap) (mg mb : Str → Option Value) (cf : CF) : Prop where
  G : GOk mg mb base
  C : CSound prog w base mg cf A
  hh : A.handled = none
  hu : Room A
section
variable {s : Shared} {env : Env} {H₀ : Addr → Prop} {ent : Heap} {own : Own} {m : Str → Option Value} {σ : St} {e : ME} {d : D} {fr : Bool} {v : Expr} {E : Value → Shared → Prop} {Q : Value → Shared → Prop}
theorem run_E (Z : Cx prog w A base mg mb cf) (S : StOk w base ent s.heap env H₀ own m σ) (hc : chkE env.kindOf v e = true) (hd : evE cf (vis σ) e = some d)
    (k : ∀ u h tk dw, KH s.heap h → Rep w.params h (Hot env H₀ (own.less e.names)) u d → Q u { s with heap := h, toks := tk, drawn := dw }) : wpAny (model prog w) A (eval v env) Q E s := by
  refine wpAny_mono ((all_E Z.G Z.C Z.hh Z.hu e).1 s env v _ (vis σ) m d E hc S.rep (S.freeze e.names).hot (S.nv e.names) hd) (fun u s₁ q => ?_) fun _ _ e => e
  obtain ⟨⟨h₁, tk₁, dw₁, rfl, hk⟩, rv⟩ := q
  exact k u h₁ tk₁ dw₁ hk rv
theorem run_F (Z : Cx prog w A base mg mb cf) (S : StOk w base ent s.heap env H₀ own m σ) (hc : chkE env.kindOf v e = true) (hd : evF cf (vis σ) e = some (d, fr))
    (k : ∀ u h tk dw, KH s.heap h → Rep w.params h (Hot env H₀ (own.less e.names)) u d → (fr = true → ∃ a, u = .ref a ∧ gat s.heap a = none ∧ OwnD w.params h (Hot env H₀ (own.less e.names)) a d) → Q u { s with heap := h, toks := tk, drawn := dw }) :
    wpAny (model prog w) A (eval v env) Q E s := by
  refine wpAny_mono ((all_E Z.G Z.C Z.hh Z.hu e).2.2 s env v _ (vis σ) m d fr E hc S.rep (S.freeze e.names).hot (S.nv e.names) hd) (fun u s₁ q => ?_) fun _ _ e => e
  obtain ⟨⟨h₁, tk₁, dw₁, rfl, hk⟩, rv, hf⟩ := q
  exact k u h₁ tk₁ dw₁ hk rv hf
theorem run_T (Z : Cx prog w A base mg mb cf) (S : StOk w base ent s.heap env H₀ own m σ) (hc : chkE env.kindOf v e = true) (hd : evE cf (vis σ) e = some d) {b : Bool} (ht : truth d = some b) {Q : Bool → Shared → Prop}
    (k : ∀ h tk dw, KH s.heap h → Q b { s with heap := h, toks := tk, drawn := dw }) : wpAny (model prog w) A (isTrue v env (eval v env)) Q E s := by
  refine wpAny_mono ((all_E Z.G Z.C Z.hh Z.hu e).2.1 s env v _ (vis σ) m d b E hc S.rep (S.freeze e.names).hot (S.nv e.names) hd ht) (fun u s₁ q => ?_) fun _ _ e => e
  obtain ⟨⟨h₁, tk₁, dw₁, rfl, hk⟩, rfl⟩ := q
  exact k h₁ tk₁ dw₁ hk
end
theorem isComp_inv {e : ME} (h : e.isComp = true) : ∃ elt x src cs, e = .comp elt x src cs := by
  cases e <;> first | exact ⟨_, _, _, _, rfl⟩ | cases h
theorem xi_assign {x : String} {e : ME} {σ : St} {r : Fl × St} {C : Prop} (h : exS cf (.assign x e) σ = some r) (k : ∀ d fr, evF cf (vis σ) e = some (d, fr) → r = (.next, setv (Mine.settle d e.names σ) x (fr, d)) → C) : C := by
  rw [xs_assign] at h
  split at h
  · cases h; exact k _ _ ‹_› rfl
  · cases h
theorem assign_comp (Z : Cx prog w A base mg mb cf) {s : Shared} {env : Env} {H₀ : Addr → Prop} {ent : Heap} {own : Own} {m : Str → Option Value} {σ : St} {x z : String} {e elt src : ME} {cs : List ME} {d : D} {fr : Bool} {v : Expr} {p pos : Pos} {E : Value → Shared → Prop}
    (hst : isStore env.kindOf (Str.ofString x) = true) (S : StOk w base ent s.heap env H₀ own m σ) (hd : evF cf (vis σ) e = some (d, fr)) (he : e = .comp elt z src cs) (hi : IComp env.kindOf elt z src cs v)
    (plain : swapsWith v (some (.Name (Str.ofString x) p)) pos.line env = pure false → wpAny (model prog w) A (exec (.Assign [.Name (Str.ofString x) p] v pos) env) (SPost w base ent env H₀ s own (.next, setv (Mine.settle d e.names σ) x (fr, d))) E s) :
    wpAny (model prog w) A (exec (.Assign [.Name (Str.ofString x) p] v pos) env) (SPost w base ent env H₀ s own (.next, setv (Mine.settle d e.names σ) x (fr, d))) E s := by
  subst he
  obtain @⟨t, py, it, ifs, scope, lp, c1, c2, c3, c4, c5⟩ := hi
  have hsw : ∃ b, swapsWith (.ListComp t [⟨.Name (Str.ofString z) py, it, ifs, 0⟩] scope lp) (some (.Name (Str.ofString x) p)) pos.line env = pure b := ⟨_, rfl⟩
  obtain ⟨b, hsw⟩ := hsw
  cases b with
  | false => exact plain hsw
  | true =>
    clear plain
    rw [evF_comp, Option.map_eq_some_iff] at hd
    obtain ⟨d', hd, e'⟩ := hd
    cases e'
    have hw := (S.freeze (ME.comp elt z src cs).names).hot
    rw [exec_Assign_Name_used _ _ _ _ hsw]
    refine wpAny_bind (wpAny_standAt (wpAny_bind ?_))
    show wpAny _ A (do let _ ← comprehension (.ListComp t [⟨.Name (Str.ofString z) py, it, ifs, 0⟩] scope lp) scope env _ (newList []) false (eval it env) (some (assign (.Name (Str.ofString x) p) env))) _ _ s
    refine wpAny_bind (wpAny_mono (comp_snd (use := some (assign (.Name (Str.ofString x) p) env)) (Q := fun _ s' => SPost w base ent env H₀ s own (.next, setv (Mine.settle d (ME.comp elt z src cs).names σ) x (true, d)) .next s') Z.hh (all_E Z.G Z.C Z.hh Z.hu elt).1 (all_E Z.G Z.C Z.hh Z.hu src).1 (all_Es Z.G Z.C Z.hh Z.hu cs).2.2.1 c1 c2 c3 c4 c5 S.rep hw (S.nv _) hd ?_)
      (fun _ s' hq => wpAny_pure (wpAny_pure hq)) fun _ _ e => e)
    intro L Cc h' tk dw m' out hdl hL hC hLC hns hown hk
    subst hdl
    show wpAny _ A (assign (.Name (Str.ofString x) p) env (.ref L)) _ _ _
    refine wpAny_assign_Name (store_snd (s := { s with heap := h', toks := tk, drawn := dw }) (S.rep.keeps hk) (isStore_kind hst) fun h₂ tk₂ dw₂ a R₂ ha hs => ?_)
    have ha' : frm env a := ha.imp id fun e => ⟨_, e⟩
    have haC : a ≠ Cc := fun q => (frame_ex S.rep ha').elim fun oa hoa => no_sn hoa (q ▸ hC)
    have hn2 := hns.sameBut hs.s (Ne.symm haC)
    refine ⟨m', hn2, fun h₃ hs₃ => ?_⟩
    have nt := notTab_ns hn2
    have hLn : gat s.heap L = none := by
      cases e : gat s.heap L with
      | none => rfl
      | some o => exact absurd (hL _ _ e) (Nat.lt_irrefl _)
    have hLo : ¬ Hot env H₀ (own.less (ME.comp elt z src cs).names) L := fun q => by
      obtain ⟨b, o, hb, ho⟩ := hw.ex L q
      exact Nat.lt_irrefl _ (Nat.lt_of_le_of_lt hb (hL b o ho))
    have q := store_core (fr := true) (X := fun b => b = Cc) (h₁ := h') S hk (hown.rep fun q => q.elim hLo hLC) (fun _ => ⟨L, rfl, hLn, hown⟩) (R₂.keepsAt fun b o hb e => g1 hs₃ nt b (fun q => (frame_ex S.rep hb).elim fun ob hob => no_sn hob (q ▸ hC)) e) ha' (fun b q => q ▸ hC) fun b hb1 hb2 _ e => g1 hs₃ nt b hb2 ((hs.g b hb1).trans e)
    exact SPost.nx q.2 q.1
theorem ss_assign (Z : Cx prog w A base mg mb cf) (x : String) (e : ME) : SS prog w A base cf (.assign x e) := by
  intro s env st H₀ ent own m σ r E hc S hev
  refine xi_assign hev fun d fr hd q => ?_
  subst q
  clear hev
  replace hc := inv_assign hc
  obtain @⟨p, v, pos, hst, hc⟩ := hc
  have plain : swapsWith v (some (.Name (Str.ofString x) p)) pos.line env = pure false → wpAny (model prog w) A (exec (.Assign [.Name (Str.ofString x) p] v pos) env) (SPost w base ent env H₀ s own (.next, setv (Mine.settle d e.names σ) x (fr, d))) E s := fun hsw =>
    wpAny_Assign_Name (run_F Z S hc hd fun u h₁ tk₁ dw₁ hk rv hfr => store_snd (s := { s with heap := h₁, toks := tk₁, drawn := dw₁ }) (S.rep.keeps hk) (isStore_kind hst) fun h₂ tk₂ dw₂ a R₂ ha hs =>
      have q := store_core (X := fun _ => False) S hk (rv.sub fun _ q => q.elim id False.elim) (fun hf => (hfr hf).elim fun c q => ⟨c, q.1, q.2.1, q.2.2.mono (fun _ e => e) (fun _ _ _ e => e) fun _ _ _ q => q.elim .inl False.elim⟩) R₂ (ha.imp id fun e => ⟨_, e⟩) (fun _ q => q.elim) fun b hb _ _ e => (hs.g b hb).trans e
      SPost.nx q.2 q.1) hsw
  cases hcm : e.isComp with
  | false => exact plain ((looks hc).swap hcm _ _ _)
  | true => exact (isComp_inv hcm).elim fun elt q => q.elim fun z q => q.elim fun src q => q.elim fun cs he => assign_comp Z hst S hd he (inv_comp (he ▸ hc)) plain
end
end Mine
namespace Mine
open PySem PySem.SeqAt

theorem freeze_nil : ∀ (σ : St), freeze [] σ = σ
  | [] => rfl
  | (x, (o, d)) :: r => by
    have := freeze_nil r
    unfold freeze at this ⊢
    rw [List.map_cons, this]
    simp
theorem settle_nil (d : D) (σ : St) : settle d [] σ = σ := by
  unfold settle
  split
  · rfl
  · exact freeze_nil σ
theorem less_nil (own : Own) : own.less [] = own := by
  funext x
  simp [Own.less]

section
variable {prog : Program} {w : World} {A : Around} {base : Heap} {mg mb : Str → Option Value} {cf : CF}
variable {ent h h' : Heap} {env : Env} {H₀ : Addr → Prop} {own : Own} {m : Str → Option Value} {σ : St} {I : Addr}

theorem hot_add {b : Addr} (q : Hot env (fun b => H₀ b ∨ b = I) own b) : Hot env H₀ own b ∨ b = I := by
  rcases q with (q | q) | q | q | q
  · exact .inl (.inl q)
  · exact .inr q
  · exact .inl (.inr (.inl q))
  · exact .inl (.inr (.inr (.inl q)))
  · exact .inl (.inr (.inr (.inr q)))
theorem hot_sub {b : Addr} (q : Hot env H₀ own b) : Hot env (fun b => H₀ b ∨ b = I) own b := by
  rcases q with q | q | q | q
  · exact .inl (.inl q)
  · exact .inr (.inl q)
  · exact .inr (.inr (.inl q))
  · exact .inr (.inr (.inr q))

theorem StOk.addH (S : StOk w base ent h env H₀ own m σ) (hk : KH h h') (hI : gat h I = none) (hIx : ∃ o, gat h' I = some o) :
    StOk w base ent h' env (fun b => H₀ b ∨ b = I) own m σ := by
  have S' := S.keeps hk
  have hH : ∀ b o, gat h b = some o → Hot env (fun b => H₀ b ∨ b = I) own b → Hot env H₀ own b := fun b o e q => (hot_add q).elim id fun q => by rw [q, hI] at e; cases e
  refine ⟨S'.rep, fun x d e => ?_, fun x d e => ?_, ⟨S'.hot.keep, fun b q => ?_, fun b o e q => S.hot.off b o e (hH b o (S.hot.keep b o e) q)⟩, S'.keep, S.frE, fun x a e => ?_, S.inj, S'.ownx⟩
  · obtain ⟨v, h1, h2⟩ := S.plain x d e
    exact ⟨v, h1, h2.mono (fun b o _ e => hk b o e) hH⟩
  · obtain ⟨a, h1, h2, h4⟩ := S.owned x d e
    exact ⟨a, h1, h2, h4.mono (fun o e => hk _ o e) (fun b o _ e => hk b o e) fun b o e q => .inl (hH b o e q)⟩
  · rcases hot_add q with q | q
    · exact S'.hot.ex b q
    · obtain ⟨o, ho⟩ := hIx
      exact ⟨I, o, q ▸ Nat.le_refl _, ho⟩
  · obtain ⟨g1, g2, g3⟩ := S.own1 x a e
    refine ⟨g1, fun q => q.elim g2 fun q => ?_, g3⟩
    obtain ⟨o, ho⟩ := S.ownx x a e
    rw [q, hI] at ho; cases ho

/-- only I has turned -/
theorem StOk.turnI (S : StOk w base ent h env (fun b => H₀ b ∨ b = I) own m σ) (hk : ∀ b o, b ≠ I → gat h b = some o → gat h' b = some o) (hIx : ∃ o, gat h' I = some o) (hf : ¬ frm env I) (hE : gat ent I = none) :
    StOk w base ent h' env (fun b => H₀ b ∨ b = I) own m σ := by
  have IH : Hot env (fun b => H₀ b ∨ b = I) own I := .inl (.inr rfl)
  have k2 : ∀ b o, ¬ Hot env (fun b => H₀ b ∨ b = I) own b → gat h b = some o → gat h' b = some o := fun b o hn e => hk b o (fun q => hn (q ▸ IH)) e
  have k3 : ∀ b o, gat h b = some o → ∃ o', gat h' b = some o' := fun b o e => by
    by_cases q : b = I
    · exact q ▸ hIx
    · exact ⟨o, hk b o q e⟩
  refine ⟨S.rep.keepsAt fun b o hb e => hk b o (fun q => hf (q ▸ hb)) e, fun x d e => ?_, fun x d e => ?_, ⟨fun b o e => k2 b o (S.hot.off b o e) (S.hot.keep b o e), fun b q => ?_, S.hot.off⟩, fun b o e => hk b o (fun q => by rw [q, hE] at e; cases e) (S.keep b o e), S.frE, S.own1, S.inj, fun x a e => (fun ⟨o, ho⟩ => k3 a o ho) (S.ownx x a e)⟩
  · obtain ⟨v, h1, h2⟩ := S.plain x d e
    exact ⟨v, h1, h2.mono k2 fun _ _ _ q => q⟩
  · obtain ⟨a, h1, h2, h4⟩ := S.owned x d e
    exact ⟨a, h1, h2, h4.mono (fun o e => hk _ o (fun q => (S.own1 x a h1).2.1 (.inr q)) e) k2 fun b o e q => .inl q⟩
  · obtain ⟨b', o, hb, ho⟩ := S.hot.ex b q
    obtain ⟨o', ho'⟩ := k3 b' o ho
    exact ⟨b', o', hb, ho'⟩

/-- the loop is left: I is nobody's -/
theorem StOk.leave (S : StOk w base ent h env (fun b => H₀ b ∨ b = I) own m σ) (hk : ∀ b o, b ≠ I → gat h b = some o → gat h' b = some o) (hx : Ex h' H₀) (hf : ¬ frm env I) (hE : gat ent I = none) :
    StOk w base ent h' env H₀ own m σ := by
  have IH : Hot env (fun b => H₀ b ∨ b = I) own I := .inl (.inr rfl)
  have k2 : ∀ b o, ¬ Hot env (fun b => H₀ b ∨ b = I) own b → gat h b = some o → gat h' b = some o := fun b o hn e => hk b o (fun q => hn (q ▸ IH)) e
  have ownk : ∀ x a, own x = some a → ∃ o, gat h' a = some o := fun x a e => by
    obtain ⟨o, ho⟩ := S.ownx x a e
    exact ⟨o, hk a o (fun q => (S.own1 x a e).2.1 (.inr q)) ho⟩
  have R : EnvRep h' env m := S.rep.keepsAt fun b o hb e => hk b o (fun q => hf (q ▸ hb)) e
  refine ⟨R, fun x d e => ?_, fun x d e => ?_, ⟨fun b o e => k2 b o (S.hot.off b o e) (S.hot.keep b o e), fun b q => ?_, fun b o e q => S.hot.off b o e (hot_sub q)⟩, fun b o e => hk b o (fun q => by rw [q, hE] at e; cases e) (S.keep b o e), S.frE, fun x a e => ?_, S.inj, ownk⟩
  · obtain ⟨v, h1, h2⟩ := S.plain x d e
    exact ⟨v, h1, h2.mono k2 fun _ _ _ q => hot_sub q⟩
  · obtain ⟨a, h1, h2, h4⟩ := S.owned x d e
    exact ⟨a, h1, h2, h4.mono (fun o e => hk _ o (fun q => (S.own1 x a h1).2.1 (.inr q)) e) k2 fun b o e q => .inl (hot_sub q)⟩
  · rcases q with q | q | q | ⟨y, q⟩
    · exact hx b q
    · obtain ⟨o, ho⟩ := frame_ex R (.inl q); exact ⟨b, o, Nat.le_refl _, ho⟩
    · obtain ⟨o, ho⟩ := frame_ex R (.inr q); exact ⟨b, o, Nat.le_refl _, ho⟩
    · obtain ⟨o, ho⟩ := ownk y b q; exact ⟨b, o, Nat.le_refl _, ho⟩
  · obtain ⟨g1, g2, g3⟩ := S.own1 x a e
    exact ⟨g1, fun q => g2 (.inl q), g3⟩

theorem fin_none {C : Prop} {α : Type} {x : α} (h : Option.none = some x) : C := by cases h
theorem xi_ret {e : ME} {r : Fl × St} {C : Prop} (h : exS cf (.ret e) σ = some r) (kv : ∀ x d, e = .var x → σ.lookup x = some (true, d) → r = (.ret true d, σ) → C) (k : ∀ d fr, evF cf (vis σ) e = some (d, fr) → r = (.ret fr d, σ) → C) : C := by
  rw [xs_ret] at h
  split at h
  · rename_i x
    split at h
    · rename_i fr d hd
      cases h
      cases fr with
      | true => exact kv x d rfl hd rfl
      | false => exact k d false (by show (evE cf (vis σ) (.var x)).map _ = _; rw [ev_var, lookup_vis, hd]; rfl) rfl
    · exact fin_none h
  · split at h
    · cases h; exact k _ _ ‹_› rfl
    · exact fin_none h
theorem ss_ret (Z : Cx prog w A base mg mb cf) (e : ME) : SS prog w A base cf (.ret e) := by
  intro s env st H₀ ent own m σ r E hc S hev
  replace hc := inv_ret hc
  obtain @⟨v, pos, hc⟩ := hc
  refine xi_ret hev (fun x d q hd e => ?_) fun d fr hd e => ?_
  · subst e q
    replace hc := inv_var hc
    obtain ⟨hv⟩ := hc
    refine (S.owned x d hd).elim fun a q => wpAny_Return_some (load_snd S.rep hv q.2.1 ?_)
    have q5 : OwnD w.params s.heap H₀ a d := q.2.2.mono (fun _ e => e) (fun _ _ _ e => e) fun _ _ _ q => .inl (.inl q)
    have g := S.own1 x a q.1
    exact SPost.rt (tk := s.toks) (dw := s.drawn) (.of (fun _ _ e => e) fun _ _ e => nomatch e) ⟨q5.rep g.2.1, S.keep, fun _ => ⟨a, rfl, g.1, q5⟩⟩
  · subst e
    exact wpAny_Return_some (run_F Z S hc hd fun u h₁ tk₁ dw₁ hk rv hfr => SPost.rt (.of hk fun _ _ e => nomatch e) ⟨rv.sub fun _ q => .inl q, fun b o e => hk b o (S.keep b o e), fun hf =>
      (hfr hf).elim fun a q => ⟨a, q.1, none_of (fun o q => ⟨o, S.keep a o q⟩) q.2.1, q.2.2.mono (fun _ e => e) (fun _ _ _ e => e) fun _ _ _ q => .inl (.inl q)⟩⟩)
theorem tr_turn {s : Heap} {own own₁ : Own} {x : String} {L : Addr} {h₁ h₂ : Heap} (ho : ∀ x a, own₁ x = some a → own x = some a) (hk : KH s h₁) (hx : own₁ x = some L) (hs : ∀ b, b ≠ L → ∀ {o}, gat h₁ b = some o → gat h₂ b = some o) (hL : ∃ o, gat h₂ L = some o) : Tr s env own h₂ own₁ :=
  ⟨fun b o e _ hn => hs b (fun q => hn x (ho x b (q ▸ hx))) (hk b o e), fun b o e => by
    by_cases q : b = L
    · exact q ▸ hL
    · exact ⟨o, hs b q (hk b o e)⟩, fun y a e => .inl (ho y a e)⟩
theorem isVar_of {k : KD} {x : Str} (h : isStore k x = true) : isVar k x = true := and2 h fun _ h => h
theorem xi_append {x : String} {e : ME} {r : Fl × St} {C : Prop} (h : exS cf (.append x e) σ = some r) (k : ∀ d ds, evE cf (vis σ) e = some d → (Mine.settle d e.names σ).lookup x = some (true, .list ds) → ds.length < big → r = (.next, setv (Mine.settle d e.names σ) x (true, .list (ds ++ [d]))) → C) : C := by
  rw [xs_append] at h
  split at h
  · split at h
    · split at h
      · cases h; exact k _ _ ‹_› ‹_› ‹_› rfl
      · exact fin_none h
    · exact fin_none h
  · exact fin_none h
theorem ss_append (Z : Cx prog w A base mg mb cf) (x : String) (e : ME) : SS prog w A base cf (.append x e) := by
  intro s env st H₀ ent own m σ r E hc S hev
  refine xi_append hev fun d ds hd hds hlen q => ?_
  subst q
  clear hev
  replace hc := inv_append hc
  obtain @⟨yp, ap, a, p, pos, hst, hline, hc⟩ := hc
  have S' := S.settle d e.names
  refine (S'.owned x _ hds).elim fun L q => ?_
  have hown := q.1
  obtain ⟨vs, n, q4, q5, q6⟩ := q.2.2
  have hstar : starEach [a] env = [(false, eval a env)] := star_cons hc
  refine wpAny_Expr (wpAny_Call_append rfl (by rw [hstar]; rfl) (by simpa using hline) (by rw [hstar]; rfl) (load_snd S.rep (isVar_of hst) q.2.1 ⟨L, vs, rfl, ⟨_, n, q4, rfl, rfl, rfl⟩, ?_⟩)) (by unfold interactive; rw [S.rep.kind]; rfl) rfl
  refine run_E Z S hc hd fun u h₁ tk₁ dw₁ hk rv => ?_
  have e1 := q6.length
  rw [Array.length_toList] at e1
  have q4' := Heap.of_gt (hk _ _ (Heap.gt_of q4))
  refine wpAny_list_append_plain (items := vs) ⟨n, q4'⟩ (fun h₂ hl₂ hs₂ => ?_) (by rw [e1]; exact q5)
  have hl₂' : ∃ n', h₂.get? L = some (lstO (vs.push u) n') := hl₂
  have nt : ∀ o, h₁.get? L = some o → isTab o = false := notTab_at q4'
  have S₂ := (S'.keeps hk).append (x := x) (d := d) (v := u) hds hown q4' (q6.keeps hk) (rep_settle0 rv) (by rw [List.length_append]; exact hlen) hs₂ hl₂'
  exact SPost.nx (tr_turn (fun _ _ e => ownS_sub e) hk hown (fun b hb _ e => g1 hs₂ nt b hb e) (hl₂'.elim fun n' e' => ⟨_, Heap.gt_of e'⟩)) S₂
theorem Hot.mono {env : Env} {H₀ : Addr → Prop} {own own' : Own} (hs : ∀ x a, own' x = some a → own x = some a) {b : Addr} (h : Hot env H₀ own' b) : Hot env H₀ own b :=
  h.imp id fun h => h.imp id fun h => h.imp id fun ⟨x, h⟩ => ⟨x, hs x b h⟩
theorem xi_setk {x : String} {ke e : ME} {r : Fl × St} {C : Prop} (h : exS cf (.setk x ke e) σ = some r) (k : ∀ d dk ks vs, evE cf (vis σ) e = some d → evE cf (vis σ) ke = some dk → (Mine.settle dk ke.names (Mine.settle d e.names σ)).lookup x = some (true, .dict ks vs) → keyOk dk ks = true → ks.length < big →
    r = (.next, setv (Mine.settle dk ke.names (Mine.settle d e.names σ)) x (true, .dict (dput ks vs dk d).1 (dput ks vs dk d).2)) → C) : C := by
  rw [xs_setk] at h
  split at h
  · split at h
    · split at h
      · split at h
        · rename_i hc
          exact and2 hc fun h1 h2 => by cases h; exact k _ _ _ _ ‹_› ‹_› ‹_› h1 (of_decide_eq_true h2) rfl
        · exact fin_none h
      · exact fin_none h
    · exact fin_none h
  · exact fin_none h
theorem less_less {own : Own} {d : D} {ns ms : List String} : ∀ x a, (ownS own d ns).less ms x = some a → own.less ms x = some a := fun x a e => by
  unfold Own.less at e ⊢; split at e <;> first | cases e | (rename_i hx; rw [if_neg hx]; exact ownS_sub e)
theorem ss_setk (Z : Cx prog w A base mg mb cf) (x : String) (ke e : ME) : SS prog w A base cf (.setk x ke e) := by
  intro s env st H₀ ent own m σ r E hc S hev
  refine xi_setk hev fun d dk ks vs hd hdk hds hc1 hc2 q => ?_
  subst q
  clear hev
  replace hc := inv_setk hc
  obtain @⟨yp, i, p, v, pos, hst, hci, hcv⟩ := hc
  have S' := (S.settle d e.names).settle dk ke.names
  refine (S'.owned x _ hds).elim fun L q => ?_
  have hown := q.1
  refine wpAny_Assign_Subscript (run_E Z S hcv hd fun u h₁ tk₁ dw₁ hk rv => ?_) (by cases v <;> rfl)
  refine load_snd (s := { s with heap := h₁, toks := tk₁, drawn := dw₁ }) (S.rep.keeps hk) (isVar_of hst) q.2.1 ?_
  have Sk : StOk w base ent ({ s with heap := h₁, toks := tk₁, drawn := dw₁ } : Shared).heap env H₀ own m σ := S.keeps hk
  refine run_E Z Sk hci hdk fun kv h₂ tk₂ dw₂ hk2 rk => ?_
  have k02 : KH s.heap h₂ := fun b o e => hk2 b o (hk b o e)
  have LHot : ∀ b, Hot env H₀ (ownS (ownS own d e.names) dk ke.names) b ∨ b = L → Hot env H₀ (ownS (ownS own d e.names) dk ke.names) b := fun b q => q.elim id fun q => q ▸ .inr (.inr (.inr ⟨x, hown⟩))
  have rv' : Rep w.params h₂ (fun b => Hot env H₀ (ownS (ownS own d e.names) dk ke.names) b ∨ b = L) u d := (rep_settle0 rv).mono (fun b o _ e => hk2 b o e) fun b o _ q => (LHot b q).mono fun _ _ => ownS_sub
  have rk' : Rep w.params h₂ (fun b => Hot env H₀ (ownS (ownS own d e.names) dk ke.names) b ∨ b = L) kv dk := (rep_settle0 (rk.sub fun _ q => q.mono less_less)).sub LHot
  have So := (S'.keeps k02).ownM hds hown
  refine setItem_own (s := { s with heap := h₂, toks := tk₂, drawn := dw₂ }) Z.hu.u1 So rk' rv' hc1 hc2 fun h' tk dw hs own2 => ?_
  have nt : ∀ o, h₂.get? L = some o → isTab o = false := OwnD.notTab (d := .dict _ _) So
  exact SPost.nx (tr_turn (fun _ a e => ownS_sub (ownS_sub e)) k02 hown (fun b hb _ e => g1 hs nt b hb e) (own2.elim fun _ q => q.elim fun _ q => ⟨_, Heap.gt_of q.1⟩)) ((S'.keeps k02).turn hds hown hs (d := .dict _ _) own2)
theorem wp_S {M : Model} {s : Shared} {r : Fl × St} {E : Value → Shared → Prop} {c : Sem Flow} {Q : Flow → Shared → Prop} (hq : wpAny M A c (SPost w base ent env H₀ s own r) E s)
    (hn : ∀ h tk dw own' m, r.1 = .next → Tr s.heap env own h own' → StOk w base ent h env H₀ own' m r.2 → Q .next { s with heap := h, toks := tk, drawn := dw })
    (hr : ∀ h tk dw fr d v, r.1 = .ret fr d → Tr s.heap env own h noOwn → RetOk w ent h H₀ v fr d → Q (.ret v) { s with heap := h, toks := tk, drawn := dw }) : wpAny M A c Q E s :=
  wpAny_mono hq (fun f s' q => q Q hn hr) fun _ _ e => e
theorem sss_nil : SSs prog w A base cf [] := by
  intro s env ss H₀ ent own m σ r E hc S hev
  cases ss with
  | nil => cases hev; exact wpAny_execs_nil (SPost.nx (tk := s.toks) (dw := s.drawn) (.keeps fun _ _ e => e) S)
  | cons _ _ => cases hc
theorem xi_cons {a : MS} {l : List MS} {r : Fl × St} {C : Prop} (h : exSs cf (a :: l) σ = some r) (k1 : ∀ σ₁, exS cf a σ = some (.next, σ₁) → exSs cf l σ₁ = some r → C) (k2 : ∀ fr d, exS cf a σ = some r → r.1 = .ret fr d → C) : C := by
  rw [xss_cons] at h
  split at h
  · exact k1 _ ‹_› h
  · rename_i hne
    obtain ⟨fl, σ₁⟩ := r
    cases fl with
    | next => exact absurd h (hne σ₁)
    | ret fr d => exact k2 fr d h rfl
theorem sss_cons {a : MS} {l : List MS} (ha : SS prog w A base cf a) (hl : SSs prog w A base cf l) : SSs prog w A base cf (a :: l) := by
  intro s env ss H₀ ent own m σ r E hc S hev
  cases ss with
  | nil => cases hc
  | cons st ss' =>
    rw [css_cons] at hc
    refine and2 hc fun hc1 hc2 => xi_cons hev (fun σ₁ h1 h2 => ?_) fun fr d h1 h2 => ?_
    · exact wpAny_execs_cons (wp_S (ha s env st H₀ ent own m σ _ E hc1 S h1) (fun h tk dw own' m' _ t S' => wpAny_mono (hl _ env ss' H₀ ent own' m' σ₁ r E hc2 S' h2) (fun f s₂ q => q.trans t) fun _ _ e => e) fun _ _ _ _ _ _ e _ _ => nomatch e)
    · exact wpAny_execs_cons (wp_S (ha s env st H₀ ent own m σ r E hc1 S h1) (fun _ _ _ _ _ e _ _ => nomatch h2.symm.trans e) fun h tk dw fr d v e t R Q _ hr => hr h tk dw fr d v e t R)
theorem xi_ite {c : ME} {t f : List MS} {r : Fl × St} {C : Prop} (h : exS cf (.ite c t f) σ = some r) (k : ∀ d b, evE cf (vis σ) c = some d → truth d = some b → exSs cf (if b then t else f) σ = some r → C) : C := by
  rw [xs_ite] at h
  split at h
  · split at h
    · exact k _ true ‹_› ‹_› h
    · exact k _ false ‹_› ‹_› h
    · exact fin_none h
  · exact fin_none h
theorem ss_ite (Z : Cx prog w A base mg mb cf) {c : ME} {t f : List MS} (ht : SSs prog w A base cf t) (hf : SSs prog w A base cf f) : SS prog w A base cf (.ite c t f) := by
  intro s env st H₀ ent own m σ r E hc S hev
  replace hc := inv_ite hc
  obtain @⟨v, b, o, p, hc, h1, h2⟩ := hc
  refine xi_ite hev fun d b hd hb he => wpAny_If (run_T Z S hc hd hb fun h₁ tk₁ dw₁ hk => ?_)
  cases b with
  | true => exact wpAny_mono (ht _ env _ H₀ ent own m σ r E h1 (S.keeps hk) he) (fun f s₂ q => q.trans (.keeps hk)) fun _ _ e => e
  | false => exact wpAny_mono (hf _ env _ H₀ ent own m σ r E h2 (S.keeps hk) he) (fun f s₂ q => q.trans (.keeps hk)) fun _ _ e => e
/-- the iterator's walk over the items -/
structure Wlk (prog : Program) (w : World) (A : Around) (h1 : Heap) (H : Addr → Prop) (its : List D) (I : Addr) (fp : List Addr) (P : Nat → Value → Prop) (Stt : Nat → Heap → Prop) : Prop where
  W : Walks prog w A I fp [I] its.length P Stt
  fpo : ∀ b ∈ fp, b = I ∨ (¬ H b ∧ ∃ o, gat h1 b = some o)
  item : ∀ i v, i < its.length → P i v → ∃ d, its[i]? = some d ∧ Rep w.params h1 H v d
  live : ∀ i h, Stt i h → ∃ o, gat h I = some o
  tab : ∀ b ∈ fp, ∀ i h o, Stt i h → h.get? b = some o → isTab o = false
  new : gat h1 I = none
/-- what holds ahead of each turn of a loop; h1 is the heap ahead of the iterator -/
inductive ForI (w : World) (base ent h1 : Heap) (env : Env) (H₀ : Addr → Prop) (I : Addr) (own : Own) (its : List D) (Stt : Nat → Heap → Prop) (bf : D → St → Option (Fl × St)) (r : Fl × St) (s : Shared) (k : Nat) : Shared → Prop
  | mk {h tk dw done rest own' m' σ'} (dr : its = done ++ rest) (st : Stt done.length h) (S : StOk w base ent h env (fun b => H₀ b ∨ b = I) own' m' σ') (t : Tr h1 env own h own') (fr : forD bf rest σ' = some r) (kn : k = rest.length + 1) :
    ForI w base ent h1 env H₀ I own its Stt bf r s k { s with heap := h, toks := tk, drawn := dw }
section
variable {h1 hh1 : Heap} {own₀ own' : Own} {its done rest : List D} {fp : List Addr} {P : Nat → Value → Prop} {Stt : Nat → Heap → Prop}
theorem hot_tr (t : Tr h1 env own₀ h own') (hn : gat h1 I = none) {b : Addr} {o : Obj} (e : gat h1 b = some o) (q : Hot env (fun b => H₀ b ∨ b = I) own' b) : Hot env H₀ own₀ b :=
  (hot_add q).elim (fun q => q.imp id fun q => q.imp id fun q => q.imp id fun ⟨z, q⟩ => (t.o z b q).elim (fun q => ⟨z, q⟩) fun q => no_sn e q) fun q => no_sn e (q ▸ hn)
theorem kk_tr (t : Tr h1 env own₀ h own') (hk : ∀ b o, b ≠ I → gat h b = some o → gat h' b = some o) (hn : gat h1 I = none) {b : Addr} {o : Obj} (hh : ¬ Hot env H₀ own₀ b) (e : gat h1 b = some o) : gat h' b = some o :=
  hk b o (fun q => no_sn e (q ▸ hn)) (t.k b o e (fun q => hh (.inr (q.imp id .inl))) fun z q => hh (.inr (.inr (.inr ⟨z, q⟩))))
theorem tr_I (t : Tr h1 env own₀ h own') (hk : ∀ b o, b ≠ I → gat h b = some o → gat h' b = some o) (hn : gat h1 I = none) : Tr h1 env own₀ h' own' :=
  ⟨fun b o e hf ho => hk b o (fun q => no_sn e (q ▸ hn)) (t.k b o e hf ho), fun b o e => (t.x b o e).elim fun o' e' => ⟨o', hk b o' (fun q => no_sn e (q ▸ hn)) e'⟩, t.o⟩
/-- the walk stands as long as its footprint does -/
theorem Wlk.stay (W : Wlk prog w A h1 (Hot env H₀ own₀) its I fp P Stt) {i : Nat} (st : Stt i h) (t : Tr h1 env own₀ h own') (u : Tr h env own' h' own₁) (nI : ¬ frm env I) (nO : ∀ z, own' z ≠ some I) : Stt i h' :=
  walks_frame W.W W.tab i h h' st fun b hb o e => (W.fpo b hb).elim (fun q => q ▸ (u.k I o (q ▸ e) nI nO)) fun q => u.k b o e (fun z => q.1 (.inr (z.imp id .inl))) fun z y => q.2.elim fun o' e' => (t.o z b y).elim (fun y => q.1 (.inr (.inr (.inr ⟨z, y⟩)))) fun y => no_sn e' y
end
theorem fbody_inv {bf : D → St → Option (Fl × St)} {dv : D} {rest : List D} {σ : St} {r : Fl × St} (h : forD bf (dv :: rest) σ = some r) : ∃ rb, bf dv σ = some rb ∧ (rb.1 = .next → forD bf rest rb.2 = some r) ∧ ∀ fr d, rb.1 = .ret fr d → r = (.ret fr d, rb.2) := by
  simp only [forD] at h
  cases e : bf dv σ with
  | none => rw [e] at h; cases h
  | some rb =>
    rw [e] at h
    obtain ⟨fl, σ₁⟩ := rb
    cases fl with
    | next => exact ⟨_, rfl, fun _ => h, fun _ _ e => nomatch e⟩
    | ret fr d => cases h; exact ⟨_, rfl, fun e => (nomatch e), fun fr d e => by cases e; rfl⟩
theorem for_turn {x : String} {yp : Pos} {b : List Stmt} {its done rest : List D} {body : List MS} (hb : SSs prog w A base cf body)
    {s : Shared} {own own₀ own' : Own} {m' : Str → Option Value} {σ' : St} {r : Fl × St} {h1 : Heap} {tk : Nat} {dw : Drawn} {k : Nat} {fp : List Addr} {P : Nat → Value → Prop} {Stt : Nat → Heap → Prop}
    (hst : isStore env.kindOf (Str.ofString x) = true) (hcb : chkSs env.kindOf b body = true) (Wl : Wlk prog w A h1 (Hot env H₀ own₀) its I fp P Stt) (nIf : ¬ frm env I) (nIe : gat ent I = none) (hX : Ex h1 (Hot env H₀ own₀)) (tS : Tr s.heap env own h1 own₀)
    (dr : its = done ++ rest) (st : Stt done.length h) (S' : StOk w base ent h env (fun b => H₀ b ∨ b = I) own' m' σ') (t : Tr h1 env own₀ h own') (hfor : forD (fun it σ => exSs cf body (setv σ x (false, it))) rest σ' = some r) (kn : k = rest.length + 1)
    {NE : Value → Shared → Prop} :
    wpAny (model prog w) A (pyNext (.ref I)) (fun o s₁ => match o with
      | none => wpAny (model prog w) A (execs [] env) (fun f s₃ => SPost w base ent env H₀ s own r f s₃) NE s₁
      | some v => wpAny (model prog w) A (assign (.Name (Str.ofString x) yp) env v) (fun _ s₂ => wpAny (model prog w) A (execs b env) (fun f s₃ => match f with
          | .next | .cont => ∃ m, m < k ∧ ForI w base ent h1 env H₀ I own₀ its Stt (fun it σ => exSs cf body (setv σ x (false, it))) r s m s₃
          | .brk => SPost w base ent env H₀ s own r .next s₃
          | .ret v => SPost w base ent env H₀ s own r (.ret v) s₃) NE s₂) NE s₁) NE { s with heap := h, toks := tk, drawn := dw } := by
  cases rest with
  | nil =>
    cases hfor
    rw [List.append_nil] at dr
    subst dr
    refine Wl.W.done _ _ _ st fun h' tk' hk' => ?_
    have hk'' : ∀ b o, b ≠ I → gat h b = some o → gat h' b = some o := fun b o hb e => walk_lift Wl.W Wl.tab st hk' b o (by simpa using hb) e
    have t' := tr_I t hk'' Wl.new
    exact wpAny_execs_nil (SPost.nx (dw := dw) (tS.trans t') (S'.leave hk'' (fun c hc => (hX c (.inl hc)).elim fun b' q => q.elim fun o q => (t'.x b' o q.2).elim fun o' e' => ⟨b', o', q.1, e'⟩) nIf nIe))
  | cons dv rest' =>
    have hlt : done.length < its.length := by rw [dr]; simp
    refine Wl.W.item done.length _ _ _ hlt st fun v h₁ tk₁ hPv st₁ hk₁ => ?_
    have hk₁' : ∀ b o, b ≠ I → gat h b = some o → gat h₁ b = some o := fun b o hb e => walk_lift Wl.W Wl.tab st hk₁ b o (by simpa using hb) e
    refine Classical.byContradiction fun hG => ?_
    refine (Wl.item _ v hlt hPv).elim fun dv' q => ?_
    have e1 : dv = dv' := by
      have e1 := q.1
      rw [dr] at e1
      simpa using e1
    have SI := S'.turnI hk₁' (Wl.live _ _ st₁) nIf nIe
    have rv' : Rep w.params h₁ (Hot env (fun b => H₀ b ∨ b = I) own') v dv := e1 ▸ q.2.mono (fun b o hn e => kk_tr t hk₁' Wl.new hn e) fun b o e q => hot_tr t Wl.new e q
    have t₁ := tr_I t hk₁' Wl.new
    refine hG (wpAny_assign_Name (store_snd (s := { s with heap := h₁, toks := tk₁, drawn := dw }) SI.rep (isStore_kind hst) fun h₂ tk₂ dw₂ a R₂ ha hs => ?_))
    have q3 := store_core (s := { s with heap := h₁, toks := tk₁, drawn := dw }) (x := x) (ns := []) (d := dv) (fr := false) (v := v) (h₁ := h₁) (h₂ := h₂) (a := a) (X := fun _ => False) SI (fun _ _ e => e)
      (by rw [less_nil]; exact rv'.sub fun _ q => q.elim id False.elim) (fun e => nomatch e) R₂ (ha.imp id fun e => ⟨_, e⟩) (fun _ q => q.elim) fun b hb _ _ e => (hs.g b hb).trans e
    rw [settle_nil] at q3
    have hbd := fbody_inv hfor
    have nO : ∀ z, own' z ≠ some I := fun z q => (S'.own1 z I q).2.1 (.inr rfl)
    have st₂ := Wl.stay st₁ t₁ q3.2 nIf nO
    have t₂ := t₁.trans q3.2
    refine hbd.elim fun rb hrb => wp_S (hb { s with heap := h₂, toks := tk₂, drawn := dw₂ } env b _ ent _ _ _ rb _ hcb q3.1 hrb.1) (fun h₃ tk₃ dw₃ own₃ m₃ e u S₃ => ?_) fun h₃ tk₃ dw₃ fr d v e u R => ?_
    · exact ⟨rest'.length + 1, by rw [kn]; exact Nat.lt_succ_self _, .mk (done := done ++ [dv]) (rest := rest') (by rw [dr]; simp) (by rw [List.length_append]; exact Wl.stay st₂ t₂ u nIf fun z q => (q3.1.own1 z I q).2.1 (.inr rfl)) S₃ (t₂.trans u) (hrb.2.1 e) rfl⟩
    · have er := hrb.2.2 fr d e
      show SPost _ _ _ _ _ _ _ r _ _
      rw [er]
      exact SPost.rt (tS.trans (t₂.trans u)) ⟨R.rep.sub fun _ q => .inl q, R.keep, fun hf => (R.fr hf).elim fun a q => ⟨a, q.1, q.2.1, q.2.2.mono (fun _ e => e) (fun _ _ _ e => e) fun _ _ _ q => .inl (.inl q)⟩⟩
theorem for_core (hh : A.handled = none) {x : String} {yp pos : Pos} {it : Expr} {b : List Stmt} {ns : List String} {its : List D} {body : List MS} (hb : SSs prog w A base cf body)
    {s : Shared} {env : Env} {H₀ : Addr → Prop} {ent : Heap} {own : Own} {m : Str → Option Value} {σ : St} {r : Fl × St} {E : Value → Shared → Prop} (S : StOk w base ent s.heap env H₀ own m σ) (hst : isStore env.kindOf (Str.ofString x) = true) (hset : notSet it = true) (hcb : chkSs env.kindOf b body = true)
    (hsrc : wpAny (model prog w) A (eval it env) (fun xv s₁ => wpAny (model prog w) A (pyIter xv) (fun itv s₂ => ∃ s₁ I, Keeps s s₁ ∧ itv = .ref I ∧ IterAt prog w A s₁ (Hot env H₀ (own.less ns)) its I s₂) E s₁) E s)
    (hev : forD (fun it σ => exSs cf body (setv σ x (false, it))) its (freeze ns σ) = some r) : wpAny (model prog w) A (exec (.For (.Name (Str.ofString x) yp) it b [] pos) env) (SPost w base ent env H₀ s own r) E s := by
  refine wpAny_For (wpAny_mono hsrc (fun xv s₁ q₁ => wpAny_mono q₁ (fun itv s₂ q₂ => ?_) fun _ _ e => e) fun _ _ e => e) (notSet_folded hset)
  clear hsrc hset
  obtain ⟨s₁, I, k01, rfl, IA⟩ := q₂
  obtain ⟨h2, tk2, dw2, rfl, k12⟩ := IA.keeps
  obtain ⟨h1, tk1, dw1, rfl, k01⟩ := k01
  have S0 := (S.freeze ns).keeps k01
  have S2 := S0.addH (I := I) k12 IA.fresh IA.ex
  have nIf : ¬ frm env I := fun q => (frame_ex S0.rep q).elim fun o e => no_sn e IA.fresh
  have nIe : gat ent I = none := none_of (fun o q => ⟨o, k01 I o (S.keep I o q)⟩) IA.fresh
  refine IA.walk.elim fun fp q => q.elim fun P q => q.elim fun Stt q => ?_
  have Wl : Wlk prog w A h1 (Hot env H₀ (own.less ns)) its I fp P Stt := ⟨q.1, q.2.2.1, q.2.2.2.1, q.2.2.2.2.1, q.2.2.2.2.2, IA.fresh⟩
  refine codeAny_forLoop (ForI w base ent h1 env H₀ I (own.less ns) its Stt (fun it σ => exSs cf body (setv σ x (false, it))) r s) (fun k s' q => ?_) (its.length + 1) (.mk (done := []) (rest := its) rfl q.2.1 S2 (.keeps k12) hev rfl)
  have tS : Tr s.heap env own h1 (own.less ns) := .of k01 fun _ _ => less_sub
  obtain @⟨h, tk, dw, done, rest, own', m', σ', dr, st, S', t, hfor, kn⟩ := q
  exact for_turn hb hst hcb Wl nIf nIe S0.hot.ex tS dr st S' t hfor kn
theorem xi_for {x : String} {src : ME} {body : List MS} {r : Fl × St} {C : Prop} (h : exS cf (.for_ x src body) σ = some r) (k : ∀ d its, evE cf (vis σ) src = some d → d.items = some its → forD (fun it σ => exSs cf body (setv σ x (false, it))) its (freeze src.names σ) = some r → C) : C := by
  rw [xs_for_] at h
  split at h
  · split at h
    · exact k _ _ ‹_› ‹_› h
    · exact fin_none h
  · exact fin_none h
theorem ss_for (Z : Cx prog w A base mg mb cf) {x : String} {src : ME} {body : List MS} (hb : SSs prog w A base cf body) : SS prog w A base cf (.for_ x src body) := by
  intro s env st H₀ ent own m σ r E hc S hev
  replace hc := inv_for hc
  obtain @⟨yp, it, b, p, hst, hset, hcs, hcb⟩ := hc
  refine xi_for hev fun d its hd hits he => for_core Z.hh hb S hst hset hcb (run_E Z S hcs hd fun u h₁ tk₁ dw₁ hk rv => ?_) he
  exact wpAny_mono (iter_snd (s := { s with heap := h₁, toks := tk₁, drawn := dw₁ }) rv Z.hh hits) (fun itv s₂ q₂ => q₂.elim fun I q => ⟨_, I, ⟨h₁, tk₁, dw₁, rfl, hk⟩, q.1, q.2⟩) fun _ _ e => e
theorem scal_post {P : Params} {h : Heap} {H : Addr → Prop} {v : Value} {d : D} {X : Prop} (r : Rep P h H v d) (hs : d.scalar = true) (x : X) : match (generalizing := false) v with | .ref _ => False | _ => X := by
  cases r <;> first | exact x | cases hs
theorem xi_expr {e : ME} {r : Fl × St} {C : Prop} (h : exS cf (.expr e) σ = some r) (k : ∀ d, evE cf (vis σ) e = some d → d.scalar = true → r = (.next, σ) → C) : C := by
  rw [xs_expr] at h
  split at h
  · split at h
    · cases h; exact k _ ‹_› ‹_› rfl
    · exact fin_none h
  · exact fin_none h
theorem swaps_none {v : Expr} (h : notComp v = true) {l : Nat} {env : Env} : swapsWith v none l env = pure false := by cases v <;> first | rfl | cases h
theorem ss_expr (Z : Cx prog w A base mg mb cf) (e : ME) : SS prog w A base cf (.expr e) := by
  intro s env st H₀ ent own m σ r E hc S hev
  refine xi_expr hev fun d hd hs q => ?_
  subst q
  clear hev
  replace hc := inv_expr hc
  obtain @⟨v, p, hn, hc⟩ := hc
  exact wpAny_Expr (run_E Z S hc hd fun u h₁ tk₁ dw₁ hk rv => scal_post rv hs (SPost.nx (.keeps hk) (S.keeps hk))) (by unfold interactive; rw [S.rep.kind]; rfl) (swaps_none hn)
/-- what holds ahead of each turn of a while loop -/
inductive WhI (w : World) (base ent : Heap) (env : Env) (H₀ : Addr → Prop) (own : Own) (cd : St → Option Bool) (bf : St → Option (Fl × St)) (r : Fl × St) (s : Shared) (k : Nat) : Shared → Prop
  | mk {h tk dw own' m' σ'} (t : Tr s.heap env own h own') (S : StOk w base ent h env H₀ own' m' σ') (wh : whileD cd bf k σ' = some r) : WhI w base ent env H₀ own cd bf r s k { s with heap := h, toks := tk, drawn := dw }
/-- a while loop, turned once -/
inductive WhT (cd : St → Option Bool) (bf : St → Option (Fl × St)) (r : Fl × St) (σ : St) : Nat → Prop
  | done {n} (hc : cd σ = some false) (hr : r = (.next, σ)) : WhT cd bf r σ (n + 1)
  | next {n σ₁} (hc : cd σ = some true) (hb : bf σ = some (.next, σ₁)) (hw : whileD cd bf n σ₁ = some r) : WhT cd bf r σ (n + 1)
  | ret {n fr d σ₁} (hc : cd σ = some true) (hb : bf σ = some (.ret fr d, σ₁)) (hr : r = (.ret fr d, σ₁)) : WhT cd bf r σ (n + 1)
theorem wh_inv {cd : St → Option Bool} {bf : St → Option (Fl × St)} {r : Fl × St} {σ : St} {n : Nat} (h : whileD cd bf n σ = some r) : WhT cd bf r σ n := by
  cases n with
  | zero => cases h
  | succ n =>
    rw [whileD] at h
    cases hc : cd σ with
    | none => rw [hc] at h; cases h
    | some b =>
      rw [hc] at h
      cases b with
      | false => cases h; exact .done hc rfl
      | true =>
        dsimp only at h
        cases hb : bf σ with
        | none => rw [hb] at h; cases h
        | some rb =>
          obtain ⟨fl, σ₁⟩ := rb
          rw [hb] at h
          cases fl with
          | next => exact .next hc hb h
          | ret fr d => cases h; exact .ret hc hb rfl
theorem cond_inv {c : ME} {b : Bool} {C : Prop} (h : condF cf c σ = some b) (k : ∀ d, evE cf (vis σ) c = some d → truth d = some b → C) : C := by
  unfold condF at h
  split at h
  · exact k _ ‹_› h
  · exact fin_none h
theorem ss_while (Z : Cx prog w A base mg mb cf) {c : ME} {body : List MS} (hb : SSs prog w A base cf body) : SS prog w A base cf (.while_ c body) := by
  intro s env st H₀ ent own m σ r E hc S hev
  replace hc := inv_while hc
  obtain @⟨v, b, p, hc1, hc2⟩ := hc
  rw [xs_while] at hev
  refine wpAny_While (codeAny_whileLoop (WhI w base ent env H₀ own (condF cf c) (fun σ => exSs cf body σ) r s) (fun k s' q => ?_) wlim (.mk (tk := s.toks) (dw := s.drawn) (.keeps fun _ _ e => e) S hev))
  obtain @⟨h₁, tk₁, dw₁, own', m', σ', t, S', wh⟩ := q
  have S1 : StOk w base ent ({ s with heap := h₁, toks := tk₁, drawn := dw₁ } : Shared).heap env H₀ own' m' σ' := S'
  cases wh_inv wh with
  | done hc hr => exact cond_inv hc fun d hd ht => run_T Z S1 hc1 hd ht fun h₂ tk₂ dw₂ hk => wpAny_execs_nil (hr.symm ▸ SPost.nx (t.trans (.keeps hk)) (S1.keeps hk))
  | next hc hbd hw =>
    refine cond_inv hc fun d hd ht => run_T Z S1 hc1 hd ht fun h₂ tk₂ dw₂ hk => ?_
    exact wp_S (hb { s with heap := h₂, toks := tk₂, drawn := dw₂ } env _ H₀ ent own' m' σ' _ _ hc2 (S1.keeps hk) hbd) (fun h₃ tk₃ dw₃ own₃ m₃ _ u S₃ => ⟨_, Nat.lt_succ_self _, .mk ((t.trans (.keeps hk)).trans u) S₃ hw⟩) fun _ _ _ _ _ _ e _ _ => nomatch e
  | ret hc hbd hr =>
    refine cond_inv hc fun d hd ht => run_T Z S1 hc1 hd ht fun h₂ tk₂ dw₂ hk => ?_
    exact wp_S (hb { s with heap := h₂, toks := tk₂, drawn := dw₂ } env _ H₀ ent own' m' σ' _ _ hc2 (S1.keeps hk) hbd) (fun _ _ _ _ _ e _ _ => nomatch e) fun h₃ tk₃ dw₃ fr d v e u R => by cases e; exact hr.symm ▸ SPost.rt ((t.trans (.keeps hk)).trans u) R
end
end Mine
namespace Mine
open PySem PySem.SeqAt
section
variable {prog : Program} {w : World} {A : Around} {base : Heap} {mg mb : Str → Option Value} {cf : CF}
mutual
theorem all_S (Z : Cx prog w A base mg mb cf) (ms : MS) : SS prog w A base cf ms := by
  match ms with
  | .assign x e => exact ss_assign Z x e
  | .append x e => exact ss_append Z x e
  | .setk x k e => exact ss_setk Z x k e
  | .bad => exact fun s env st H₀ ent own m σ r E hc S hev => by rw [xs_bad] at hev; cases hev
  | .ite c t f => exact ss_ite Z (all_Ss Z t) (all_Ss Z f)
  | .for_ x src body => exact ss_for Z (all_Ss Z body)
  | .expr e => exact ss_expr Z e
  | .while_ c body => exact ss_while Z (all_Ss Z body)
  | .ret e => exact ss_ret Z e
termination_by structural ms
theorem all_Ss (Z : Cx prog w A base mg mb cf) (ms : List MS) : SSs prog w A base cf ms := by
  match ms with
  | [] => exact sss_nil
  | a :: r => exact sss_cons (all_S Z a) (all_Ss Z r)
termination_by structural ms
end
end
end Mine
namespace Mine
open PySem PySem.SeqAt

noncomputable def CodeR (h : Heap) (cd : Value) (q : Str) : Prop := ∃ c o vs t, cd = .ref c ∧ gat h c = some o ∧ o.cls = .type "code" ∧ o.data = .fields vs ∧ vs[1]? = some (.str q t)
theorem CodeR.rec {h : Heap} {cd : Value} {q : Str} (x : CodeR h cd q) : h.CodeRec cd q := let ⟨c, o, vs, t, h1, h2, hc, h3, h4⟩ := x; ⟨c, o, vs, t, h1, Heap.of_gt' h2 (by rw [hc]; nofun), h3, h4⟩
theorem CodeR.keeps {h h' : Heap} {cd : Value} {q : Str} (x : CodeR h cd q) (hk : KH h h') : CodeR h' cd q :=
  let ⟨c, o, vs, t, h1, h2, r⟩ := x; ⟨c, o, vs, t, h1, hk _ _ h2, r⟩
/-- a def of the text, and its mini form -/
structure FnAt (base : Heap) (mg : Str → Option Value) (f : String) (fn : Fn) (a : Addr) (o : Obj) (fd : FuncData) (body : List Stmt) : Prop where
  f1 : mg (Str.ofString f) = some (.ref a)
  f2 : gat base a = some o
  f3 : o.data = .func fd
  f4 : fd.body = .stmts body
  f5 : fd.closure = []
  f6 : fd.globals = mainGlobals
  f7 : fd.builtins = builtinsNs
  f8 : CodeR base fd.code fd.qualname
  f9 : fd.params.posonlyargs = []
  f10 : fd.params.kwonlyargs = []
  f11 : fd.params.vararg = none
  f12 : fd.params.kwarg = none
  f13 : fd.defaults = .none
  f14 : fd.params.args.map (·.arg) = fn.params.map Str.ofString
  f15 : fn.params.Nodup
  f16 : fd.scope.kind = .function
  f17 : fd.scope.isCoroutine = false
  f18 : fd.scope.isGenerator = false
  f19 : (fd.scope.names.map (·.1)).Nodup
  f20 : (∀ p ∈ fd.scope.names, p.2 ≠ .free)
  f21 : (∀ x ∈ fn.params, fd.scope.names.lookup (Str.ofString x) = some .local ∨ fd.scope.names.lookup (Str.ofString x) = some .cell)
  f22 : chkSs (fun x => fd.scope.names.lookup x) body fn.body = true
  f23 : (ordK (fun x => fd.scope.names.lookup x) = true → fd.code = .ref oc ∧ fd.qualname = lamN)
structure FnOk (base : Heap) (mg : Str → Option Value) (f : String) (fn : Fn) : Prop where
  ok : ∃ a o fd body, FnAt base mg f fn a o fd body

theorem bindL_eq {k : KD} : ∀ (binds : List (Str × Value)) (m : Str → Option Value) (x : Str), (binds.map (·.1)).Nodup → k x = some .local → bindL k binds m x = (binds.lookup x).or (m x)
  | [], m, x, _, _ => by simp [bindL]
  | (n, v) :: r, m, x, hn, hk => by
    unfold bindL
    simp only [List.map_cons, List.nodup_cons] at hn
    rw [bindL_eq r _ x hn.2 hk, lookup_cons']
    by_cases h : x = n
    · subst h
      have : r.lookup x = none := by
        cases q : r.lookup x with
        | none => rfl
        | some c => exact absurd (List.mem_map_of_mem (f := (·.1)) (mem_of_lookup q)) hn.1
      rw [this, if_pos rfl, if_pos hk]
      simp
    · rw [if_neg h]
      split
      · simp [h]
      · rfl
theorem bindC_eq {k : KD} : ∀ (binds : List (Str × Value)) (m : Str → Option Value) (x : Str), (binds.map (·.1)).Nodup → k x ≠ some .local → bindC k binds m x = (binds.lookup x).or (m x)
  | [], m, x, _, _ => by simp [bindC]
  | (n, v) :: r, m, x, hn, hk => by
    unfold bindC
    simp only [List.map_cons, List.nodup_cons] at hn
    rw [bindC_eq r _ x hn.2 hk, lookup_cons']
    by_cases h : x = n
    · subst h
      have : r.lookup x = none := by
        cases q : r.lookup x with
        | none => rfl
        | some c => exact absurd (List.mem_map_of_mem (f := (·.1)) (mem_of_lookup q)) hn.1
      rw [this, if_pos rfl, if_neg hk]
      simp
    · rw [if_neg h]
      split
      · rfl
      · simp [h]

theorem lookup_zip_map {h : Heap} {P : Params} {H : Addr → Prop} : ∀ (ns : List String) (vs : List Value) (ds : List D) (x : String) (d : D), RepAll P h H vs ds → (ns.zip ds).lookup x = some d → ∃ v, ((ns.map Str.ofString).zip vs).lookup (Str.ofString x) = some v ∧ Rep P h H v d
  | [], _, _, x, d, _, e => by simp at e
  | n :: ns, _, _, x, d, .nil, e => by simp at e
  | n :: ns, _, _, x, d, .cons hv hr, e => by
    rw [List.zip_cons_cons, List.lookup_cons] at e
    rw [List.map_cons, List.zip_cons_cons, lookup_cons']
    by_cases h : x = n
    · subst h
      simp only [beq_self_eq_true] at e
      cases e
      exact ⟨_, if_pos rfl, hv⟩
    · have hb : (x == n) = false := by simpa using h
      rw [hb] at e
      rw [if_neg (fun q => h (ofString_inj q))]
      exact lookup_zip_map ns _ _ x d hr e

theorem lookup_start (x : String) : ∀ (ns : List String) (ds : List D), ((ns.zip ds).map fun p => (p.1, (false, p.2))).lookup x = ((ns.zip ds).lookup x).map fun d => (false, d)
  | [], _ => rfl
  | _ :: _, [] => rfl
  | n :: ns, d :: ds => by
    have ih := lookup_start x ns ds
    rw [List.zip_cons_cons, List.map_cons, List.lookup_cons, List.lookup_cons]
    by_cases h : x = n
    · subst h; simp
    · have hb : (x == n) = false := by simpa using h
      simp only [hb]
      exact ih

section
variable {prog : Program} {w : World} {base : Heap} {mg mb : Str → Option Value} {P : List (String × Fn)} {X : CF}

theorem call_fn (G : GOk mg mb base) {A₀ : Around} {cf : CF} (hh : A₀.handled = none) (hd : A₀.depth + 10 < recursionLimit) (hu : A₀.units + 40 < cLine) (C : ∀ A, Near A₀ A → ∀ env, CSound prog w base mg cf (A.deeper env)) {f : String} {fn : Fn} (F : FnOk base mg f fn) {ds : List D} (hl : ds.length = fn.params.length)
    {r : Fl × St} (hev : exSs cf fn.body ((fn.params.zip ds).map fun p => (p.1, (false, p.2))) = some r) {d : D} {fr : Bool} (hr : (∃ σ, r = (.ret fr d, σ)) ∨ (∃ σ, r = (.next, σ) ∧ d = .none ∧ fr = false)) :
    ∃ a o fd, mg (Str.ofString f) = some (.ref a) ∧ gat base a = some o ∧ o.data = .func fd ∧
    ∀ A, Near A₀ A → ∀ (s : Shared) (H : Addr → Prop) (vs : List Value) (E : Value → Shared → Prop), HOk base s.heap H → RepAll w.params s.heap H vs ds → wpAny (model prog w) A (PySem.call (.ref a) vs) (PostF w s H d fr) E s := by
  obtain ⟨a, o, fd, body, f1, f2, f3, f4, f5, f6, f7, f8, f9, f10, f11, f12, f13, f14, f15, f16, f17, f18, f19, f20, f21, f22, f23⟩ := F.ok
  refine ⟨a, o, fd, f1, f2, f3, fun A hN s H vs E hw hvs => ?_⟩
  replace hh : A.handled = none := hN.handled.trans hh
  have hrm : Room (A.deeper default) := ⟨by have := hN.units; show A.units + 3 + 20 < cLine; omega, by have := hN.depth; show A.depth + 1 + 2 < recursionLimit; omega⟩
  replace hd : A.depth < recursionLimit := by have := hN.depth; omega
  have hnames : (fd.params.args.map (·.arg)).Nodup := by
    rw [f14]
    exact List.pairwise_map.mpr (f15.imp fun hne e => hne (ofString_inj e))
  have hlen : (fd.params.args.map (·.arg)).length = vs.length := by rw [f14, List.length_map, hvs.length, hl]
  have hb := bindArgs_plain (vals := vs) f9 f10 f11 f12 f13 hnames hlen
  have hbn : ((((fd.params.args.map (·.arg)).zip vs)).map (·.1)) = fd.params.args.map (·.arg) := by
    rw [List.map_fst_zip (by omega)]
  refine wpAny_call (codeAny_call_cells (binds := (fd.params.args.map (·.arg)).zip vs) hd (Heap.of_gt (hw.keep _ _ f2) (notTab_of (by rw [f3]; nofun))) f3 (NoLimit.keepG G.lim hw.keep) (f8.keeps hw.keep).rec f4 hb f5 ?_ ?_ f17 f18 f16)
  · intro x hx
    have hx' : x.1 ∈ fn.params.map Str.ofString := by rw [← f14, ← hbn]; exact List.mem_map_of_mem hx
    obtain ⟨z, hz, e⟩ := List.mem_map.mp hx'
    rcases f21 z hz with q | q
    · exact .inl (by rw [← e]; exact q)
    · refine .inr ⟨by rw [← e]; exact q, ?_⟩
      obtain ⟨c, hc⟩ := cellsFrom_has fd.scope.names (s.heap.objs.size + 1) (Str.ofString z) (mem_of_lookup q)
      obtain ⟨c', hc'⟩ := lookup_some_of_mem hc
      rw [← e, hc']; rfl
  · intro s₁ ic
    obtain ⟨h₁, tk₁, rfl, hk⟩ := ic.toInCall.done
    replace hk := Heap.gt_up hk
    have Lsz : @Eq Nat (callEnvC fd s.heap.objs.size a).locals s.heap.objs.size := rfl
    have cge : ∀ x c, (callEnvC fd s.heap.objs.size a).cells.lookup x = some c → @LT.lt Nat _ s.heap.objs.size c := fun x c hc => ic.above x c (mem_of_lookup hc)
    have newN : ∀ c, @LE.le Nat _ s.heap.objs.size c → gat s.heap c = none := fun c hc => Heap.gt_none_of_le hc
    have kindEq : ∀ x, (callEnvC fd s.heap.objs.size a).kindOf x = fd.scope.names.lookup x := fun _ => rfl
    have R : EnvRep h₁ (callEnvC fd s.heap.objs.size a) (fun x => ((fd.params.args.map (·.arg)).zip vs).lookup x) := by
      refine ⟨f16, f6, f7, ⟨_, ic.toInCall.ns, fun x hx => ?_⟩, fun x hx => ?_, fun x y c h1 h2 => ?_, fun x c hc e => ?_, fun x c hc => ?_, fun ho => ?_⟩
      · rw [bindL_eq _ _ x (by rw [hbn]; exact hnames) hx]; simp
      · have hcell : fd.scope.names.lookup x = some .cell := by
          rcases hx with q | q
          · exact q
          · exact absurd rfl (f20 _ (mem_of_lookup q))
        obtain ⟨c, hc⟩ := cellsFrom_has fd.scope.names (s.heap.objs.size + 1) x (mem_of_lookup hcell)
        obtain ⟨c', hc'⟩ := lookup_some_of_mem hc
        refine ⟨c', hc', ?_⟩
        have := ic.cell x c' hc'
        rw [bindC_eq _ _ x (by rw [hbn]; exact hnames) (by rw [kindEq, hcell]; simp)] at this
        simpa using this
      · exact name_of_addr ic.apart (mem_of_lookup h1) (mem_of_lookup h2)
      · have := cge x c hc
        have e' : @Eq Nat c s.heap.objs.size := e
        omega
      · exact gt_cell (ic.cell x c hc)
      · obtain ⟨q1, q2⟩ := f23 ho
        exact ⟨q1, by show fd.qualname ++ _ = _; rw [q2]; rfl⟩
    have hot : ∀ b, Hot (callEnvC fd s.heap.objs.size a) H (fun _ => none) b → H b ∨ frm (callEnvC fd s.heap.objs.size a) b := by
      rintro b (q | q | q | ⟨x, q⟩)
      · exact .inl q
      · exact .inr (.inl q)
      · exact .inr (.inr q)
      · cases q
    have frn : ∀ b, frm (callEnvC fd s.heap.objs.size a) b → gat s.heap b = none := by
      rintro b (q | ⟨x, q⟩)
      · exact newN b (by rw [q]; exact Nat.le_refl _)
      · exact newN b (Nat.le_of_lt (cge x b q))
    have S : StOk w base s.heap h₁ (callEnvC fd s.heap.objs.size a) H (fun _ => none) (fun x => ((fd.params.args.map (·.arg)).zip vs).lookup x) ((fn.params.zip ds).map fun p => (p.1, (false, p.2))) := by
      refine ⟨R, fun x d' e => ?_, fun x d' e => ?_, ⟨fun b o' e => hk b o' (hw.keep b o' e), fun b q => ?_, fun b o' e q => ?_⟩, hk, ⟨frn _ (.inl rfl), fun x c hc => frn c (.inr ⟨x, hc⟩)⟩, fun x c e => (by cases e), fun x y c e => (by cases e), fun x c e => (by cases e)⟩
      · rw [lookup_start] at e
        simp only [Option.map_eq_some_iff, Prod.mk.injEq] at e
        obtain ⟨d'', e1, _, e2⟩ := e
        subst e2
        obtain ⟨v, e3, e4⟩ := lookup_zip_map fn.params vs ds x d'' hvs e1
        refine ⟨v, by rw [f14]; exact e3, e4.mono (fun b o' _ e => hk b o' e) fun b o' e q => ?_⟩
        rcases hot b q with q | q
        · exact q
        · rw [frn b q] at e; cases e
      · rw [lookup_start] at e
        simp only [Option.map_eq_some_iff, Prod.mk.injEq] at e
        obtain ⟨_, _, e1, _⟩ := e
        cases e1
      · rcases hot b q with q | q
        · obtain ⟨b', o', h1, h2⟩ := hw.ex b q
          exact ⟨b', o', h1, hk _ _ h2⟩
        · obtain ⟨o', ho'⟩ := frame_ex R q
          exact ⟨b, o', Nat.le_refl _, ho'⟩
      · rcases hot b q with q | q
        · exact hw.off b o' e q
        · have := frn b q
          rw [hw.keep b o' e] at this; cases this
    refine wp_S (all_Ss ⟨G, C A hN (callEnvC fd s.heap.objs.size a), hh, ⟨hrm.units, hrm.depth⟩⟩ (A := A.deeper (callEnvC fd s.heap.objs.size a)) fn.body { s with heap := h₁, toks := tk₁ } (callEnvC fd s.heap.objs.size a) body H s.heap (fun _ => none) _ _ r _ f22 S hev) (fun h' tk' dw' own' m' e _ S' => ?_) fun h' tk' dw' fr' d' v e _ R => ?_
    · rcases hr with ⟨σ, rfl⟩ | ⟨σ, rfl, rfl, rfl⟩
      · cases e
      · exact ⟨⟨h', tk', dw', rfl, S'.keep⟩, .none, fun e => nomatch e⟩
    · rcases hr with ⟨σ, rfl⟩ | ⟨σ, rfl, rfl, rfl⟩
      · cases e; exact ⟨⟨h', tk', dw', rfl, R.keep⟩, R.rep, R.fr⟩
      · cases e

/-- all calls, to the depth n -/
theorem callN_sound (G : GOk mg mb base) (HF : ∀ f fn, P.lookup f = some fn → FnOk base mg f fn) (HX : ∀ A, AOk A 0 → CSound prog w base mg X A) : ∀ (n : Nat) (A : Around), AOk A n → CSound prog w base mg (callN P X n) A
  | 0, A, hA => ⟨fun f ds d fr h => (by simp only [callN] at h; exact nomatch h), (HX A hA).glob⟩
  | n + 1, A, hA => by
    have hA0 : AOk A 0 := ⟨hA.handled, by have := hA.depth; omega, by have := hA.units; omega⟩
    refine ⟨fun f ds d fr h => ?_, (HX A hA0).glob⟩
    simp only [callN] at h
    split at h
    · exact (HX A hA0).call f ds d fr h
    · rename_i fn hfn
      split at h
      · rename_i hl
        have C : ∀ A', Near A A' → ∀ env, CSound prog w base mg (callN P X n) (A'.deeper env) := fun A' hN env => callN_sound G HF HX n (A'.deeper env) ⟨hN.handled.trans hA.handled, by
          have := hA.depth
          have := hN.depth
          show A'.depth + 1 + 2 * n + 20 < recursionLimit
          omega, by
          have := hA.units
          have := hN.units
          show A'.units + 3 + 13 * n + 100 < cLine
          omega⟩
        have hd : A.depth + 10 < recursionLimit := by have := hA.depth; omega
        have hu : A.units + 40 < cLine := by have := hA.units; omega
        split at h
        · rename_i fr' d' σ hev
          cases h
          exact call_fn G hA.handled hd hu C (HF f fn hfn) hl hev (.inl ⟨σ, rfl⟩)
        · rename_i σ hev
          cases h
          exact call_fn G hA.handled hd hu C (HF f fn hfn) hl hev (.inr ⟨σ, rfl, rfl, rfl⟩)
        · cases h
      · cases h
end
end Mine
namespace Mine
open PySem PySem.SeqAt PySem.W PyProof.Rows

noncomputable def chkFn (d : DefRec) (fn : Fn) : Bool :=
  d.params.posonlyargs.isEmpty && d.params.kwonlyargs.isEmpty && d.params.vararg.isNone && d.params.kwarg.isNone && d.params.args.map (·.arg) == fn.params.map Str.ofString && decide fn.params.Nodup &&
  d.scope.kind == .function && !d.scope.isCoroutine && !d.scope.isGenerator && decide (d.scope.names.map (·.1)).Nodup && d.scope.names.all (fun p => p.2 != .free) &&
  fn.params.all (fun x => d.scope.names.lookup (Str.ofString x) == some .local || d.scope.names.lookup (Str.ofString x) == some .cell) && chkSs (fun x => d.scope.names.lookup x) d.body fn.body && (!ordK (fun x => d.scope.names.lookup x) || d.name == lamN)
noncomputable def chkProg (recs : List DefRec) (P : List (String × Fn)) : Bool := P.all fun q => match recs.find? (fun d => d.name == Str.ofString q.1) with
  | some d => chkFn d q.2
  | none => false
noncomputable def bltFree (p : Program) (loose : List Str) : Bool := ((recsOf p).map (·.name)).contains lamN && bltNames.all fun f => !startupNames.contains (Str.ofString f) && !loose.contains (Str.ofString f) && !((recsOf p).map (·.name)).contains (Str.ofString f) && !((litsOf p).map (·.1)).contains (Str.ofString f) && !((clssOf p loose).map (·.name)).contains (Str.ofString f)

theorem mem_of_lookupS {α : Type} : ∀ {l : List (String × α)} {x : String} {c : α}, l.lookup x = some c → (x, c) ∈ l
  | (y, d) :: r, x, c, h => by
    rw [List.lookup_cons] at h
    by_cases e : x = y
    · subst e
      simp only [beq_self_eq_true] at h
      cases h
      exact .head _
    · have hb : (x == y) = false := by simpa using e
      rw [hb] at h
      exact .tail _ (mem_of_lookupS h)

/-- the def that makes lambdas, its code and its table -/
noncomputable def TbOk (mg : Str → Option Value) (h : Heap) : Prop := ∃ a o fd c vs, mg lamN = some (.ref a) ∧ h.get? a = some o ∧ o.data = .func fd ∧ fd.code = .ref oc ∧ h.get? oc = some c ∧ c.data = .fields vs ∧ vs[11]? = some (.ref tb)
theorem TbOk.keeps {mg : Str → Option Value} {h h' : Heap} (x : TbOk mg h) (hk : ∀ b o, h.get? b = some o → h'.get? b = some o) : TbOk mg h' :=
  let ⟨a, o, fd, c, vs, h1, h2, h3, h4, h5, r⟩ := x; ⟨a, o, fd, c, vs, h1, hk _ _ h2, h3, h4, hk _ _ h5, r⟩
theorem tb_of (s : Shared) (e : tbAt s = true) : TbOk (s.heap.nsMap mainGlobals) s.heap := by
  unfold tbAt at e
  split at e
  · rename_i a ha
    split at e
    · rename_i o ho
      split at e
      · rename_i fd hfd
        rw [Bool.and_eq_true] at e
        obtain ⟨e1, e⟩ := e
        split at e
        · rename_i c hc
          split at e
          · rename_i vs hd
            exact ⟨a, o, fd, c, vs, ha, ho, hfd, eq_of_beq e1, hc, hd, eq_of_beq e⟩
          · cases e
        · cases e
      · cases e
    · cases e
  · cases e
theorem lam_of {p : Program} {loose : List Str} {mean : ExcName → Option Value} {mg mb : Str → Option Value} {h : Heap} (T : Top p loose mean mg mb h) (hB : bltFree p loose = true) (hT : TbOk mg h) : h.IsCode oc tb #[] ∧ h.TableAt oc tb #[] ∧ h.BuiltinsAt mg tb := by
  unfold bltFree at hB
  rw [Bool.and_eq_true] at hB
  obtain ⟨d, hd, hn⟩ := List.mem_map.mp (List.contains_iff_mem.mp hB.1)
  obtain ⟨a', o', fd', c, Pl, g1, g2, g3, g4, g5, g6⟩ := T.tab d hd
  obtain ⟨a, o, fd, oc', vs, q1, q2, q3, q4, q5, q6, q7⟩ := hT
  rw [hn, q1] at g1; cases g1
  rw [q2] at g2; cases g2
  rw [q3] at g3; cases g3
  have e1 : oc = c := by
    have q6 : Value.ref oc = Value.ref c := q4.symm.trans g4
    cases q6; rfl
  subst e1
  have e2 : Pl = tb := by
    obtain ⟨⟨o1, v1, r1, _, r2, r3⟩, _⟩ := g6
    rw [q5] at r1; cases r1
    rw [q6] at r2; cases r2
    rw [q7] at r3; cases r3; rfl
  subst e2
  refine ⟨g5, g6, ?_⟩
  obtain ⟨bm, ob, b1, b2, b3, b4, b5, b6⟩ := T.bmain
  refine ⟨bm, ob, b1, b2, fun q => ?_, fun q => ?_, b3, b4, b5, b6⟩
  · obtain ⟨o, es, ep, e, hd, _⟩ := T.g
    rw [q, e] at b3; cases b3; rw [hd] at b6; cases b6
  · rw [q, g6.2] at b3; cases b3; cases b4

theorem fnOk_of {p : Program} {loose : List Str} {mean : ExcName → Option Value} {mg mb : Str → Option Value} {h : Heap} (T : Top p loose mean mg mb h) (htb : TbOk mg h) (htt : h.TableAt oc tb #[]) {P : List (String × Fn)} (hP : chkProg (recsOf p) P = true) {f : String} {fn : Fn} (hf : P.lookup f = some fn) : FnOk h mg f fn := by
  unfold chkProg at hP
  have := List.all_eq_true.mp hP _ (mem_of_lookupS hf)
  dsimp only at this
  cases hd : (recsOf p).find? (fun d => d.name == Str.ofString f) with
  | none => rw [hd] at this; cases this
  | some d =>
    rw [hd] at this
    have hn : d.name = Str.ofString f := by simpa using List.find?_some hd
    obtain ⟨a, o, pm, code, doc, h1, h2, h3, h4⟩ := T.fn d (List.mem_of_find?_eq_some hd)
    simp only [chkFn, Bool.and_eq_true, decide_eq_true_eq, beq_iff_eq, List.isEmpty_iff, Option.isNone_iff_eq_none, Bool.not_eq_true', List.all_eq_true, bne_iff_ne, Bool.or_eq_true] at this
    obtain ⟨⟨⟨⟨⟨⟨⟨⟨⟨⟨⟨⟨⟨c1, c2⟩, c3⟩, c4⟩, c5⟩, c6⟩, c7⟩, c8⟩, c9⟩, c10⟩, c11⟩, c12⟩, c13⟩, c14⟩ := this
    have h5 : CodeR h code d.name := by
      obtain ⟨a', o', fd', c, Pl, g1, g2, g3, g4, _, ⟨oc, vc, g5, g6, _⟩, _⟩ := T.tab d (List.mem_of_find?_eq_some hd)
      rw [h1] at g1; cases g1
      rw [h2] at g2; cases g2
      rw [h3] at g3; cases g3
      obtain ⟨c', o'', vs, t, q1, q2, q3, q4⟩ := h4
      have q5 : c' = c := by
        have q6 : Value.ref c' = Value.ref c := q1.symm.trans g4
        cases q6; rfl
      subst q5
      rw [q2] at g5; cases g5
      have hne : c' ≠ tb := fun q => by
        rw [q, htt.2] at q2
        rw [← Option.some.inj q2] at g6; cases g6
      exact ⟨c', _, vs, t, q1, by rw [Heap.gt_ne hne]; exact q2, g6, q3, q4⟩
    refine ⟨a, o, _, d.body, hn ▸ h1, Heap.gt_of h2 (notTab_of (by rw [h3]; nofun)), h3, rfl, rfl, rfl, rfl, h5, c1, c2, c3, c4, rfl, c5, c6, c7, c8, c9, c10, c11, c12, c13, fun ho => ?_⟩
    have hl : d.name = lamN := by
      rcases c14 with q | q
      · rw [show ordK (fun x => d.scope.names.lookup x) = true from ho] at q; cases q
      · exact q
    obtain ⟨a', o', fd', _, _, q1, q2, q3, q4, _⟩ := htb
    rw [hl, q1] at h1; cases h1
    rw [q2] at h2; cases h2
    rw [q3] at h3; cases h3
    exact ⟨q4, hl⟩

theorem gOk_of {p : Program} {loose : List Str} {mean : ExcName → Option Value} {mg mb : Str → Option Value} {h : Heap} (T : Top p loose mean mg mb h) (hB : bltFree p loose = true) (hT : TbOk mg h) : GOk mg mb h := by
  refine ⟨T.g, T.b, T.nolimit, fun f hf => ⟨?_, ?_⟩, lam_of T hB hT⟩
  · unfold bltFree at hB
    replace hB := (Bool.and_eq_true_iff.mp hB).2
    have := List.all_eq_true.mp hB f hf
    simp only [Bool.and_eq_true, Bool.not_eq_true', List.contains_eq_mem, decide_eq_false_iff_not] at this
    obtain ⟨⟨⟨⟨c1, c2⟩, c3⟩, c4⟩, c5⟩ := this
    exact T.free _ c1 c2 c3 c4 c5
  · rw [T.builtins]
    · have : (bltNames.all fun f => bootBuiltins (Str.ofString f) == some (bltVal f)) = true := by decide +kernel
      simpa using List.all_eq_true.mp this f hf
    · have : (bltNames.all fun f => Str.ofString f != Str.ofString "__name__") = true := by decide +kernel
      simpa using List.all_eq_true.mp this f hf

/-- what was there is there, but for the table -/
theorem oldK_of {h h' : Heap} (htb : ∃ c, h.TableAt c tb #[]) (hk : KH h h') : OldK h h' := by
  obtain ⟨c, ht⟩ := htb
  have one : ∀ b o, h.get? b = some o → h'.get? b = some o ∨ b = tb ∧ o = tabE ∧ ∃ xs, h'.get? b = some { cls := .none, data := .fields xs } := fun b o e => by
    by_cases hb : b = tb
    · subst hb
      have eo : o = tabE := Option.some.inj (e.symm.trans ht.2)
      obtain ⟨o', e', ⟨_, q⟩ | ⟨_, _, xs, q, _⟩⟩ := Heap.gt_some (hk _ _ (Heap.gt_good ht.2 GoodT.empty))
      · cases q rfl
      · exact .inr ⟨rfl, eo, xs, q ▸ e'⟩
    · have q := hk b o (by rw [Heap.gt_ne hb]; exact e)
      rw [Heap.gt_ne hb] at q
      exact .inl q
  refine ⟨fun b o e => ?_, fun b o e => ?_⟩
  · rcases one b o e with q | ⟨rfl, rfl, xs, q⟩
    · exact .inl q
    · exact .inr (.inl ⟨ht.isCodeTable, rfl, #[], xs, rfl, by rw [q, Array.empty_append]⟩)
  · rcases one b o e with q | ⟨_, _, xs, q⟩
    · exact ⟨_, q⟩
    · exact ⟨_, q⟩
theorem wellInts {P : Params} {h : Heap} {H : Addr → Prop} : ∀ {vs : List Value} {ns : List Int}, WellAll P h vs (ofPys (ns.map PyData.int)) → RepAll P h H vs (ns.map .int)
  | vs, [], hw => by cases hw; exact .nil
  | vs, n :: ns, hw => by
    cases hw with
    | cons h1 h2 =>
      cases h1
      exact .cons (.int _ _) (wellInts h2)

theorem law_fin {l : OpenLaw} {w : World} {s₀ s₁ : Shared} {mg mb : Str → Option Value} {p : Program} {loose : List Str} {mean mean' : ExcName → Option Value} {P : List (String × Fn)} {X : CF} (N : Nat) (T : Top p loose mean mg mb s₁.heap)
    (hP : chkProg (recsOf p) P = true) (hB : bltFree p loose = true) (hN : N ≤ 300) (HX : ∀ A, AOk A 0 → CSound l.prog w s₁.heap mg X A) (htb : TbOk mg s₁.heap)
    {fa a : Addr} {ns : List Int} (hmg : mg (Str.ofString "law") = some (.ref fa)) (hg : s₁.gens = #[]) (hw : Well w.params s₁.heap (.ref a) (ofPy (PyData.list (ns.map PyData.int)))) (hlen : ¬ ((63 : Nat) : Int) < (ns.length : Int))
    (hpure : ∃ fr, (callN P X N).call "law" [.list (ns.map .int)] = some (.bool true, fr)) :
    wpAny (model l.row.toRowW.prog w) callerA (call (.ref fa) [.ref a]) (fun v s' => GoodWG l.row.toRowW.claim (classAt s₀.heap) mean' [ofPy (PyData.list (ns.map PyData.int))] s₁ (.ok (.ret v)) s')
      (fun e s' => GoodWG l.row.toRowW.claim (classAt s₀.heap) mean' [ofPy (PyData.list (ns.map PyData.int))] s₁ (.error e) s') s₁ := by
  obtain ⟨fr, hp⟩ := hpure
  have G := gOk_of T hB htb
  have hA : AOk callerA N := ⟨rfl, by
    show 1 + claimMargin + 2 * N + 20 < recursionLimit
    have e1 : claimMargin = 300 := rfl
    have e2 : recursionLimit = 1000 := rfl
    omega, by
    show 4 + 13 * N + 100 < cLine
    have e2 : cLine = 9900 := rfl
    omega⟩
  have C := callN_sound (prog := l.prog) (w := w) G (fun f fn hf => fnOk_of T htb G.lam.2.1 hP hf) HX N callerA hA
  obtain ⟨a', o, fd, h1, h2, h3, h4⟩ := C.call "law" _ _ fr hp
  rw [hmg] at h1
  cases h1
  have hrep : Rep w.params s₁.heap (fun _ => False) (.ref a) (.list (ns.map .int)) := by
    cases hw with
    | list ho hr =>
      refine .list ho (fun q => q) ?_ (wellInts (by simpa using hr))
      simp only [List.length_map]
      have : ns.length ≤ 63 := by omega
      exact Nat.le_trans this (by decide)
  refine wpAny_mono (h4 callerA (.refl _) s₁ (fun _ => False) [.ref a] _ ⟨fun _ _ e => e, fun _ q => q.elim, fun _ _ _ q => q⟩ (.cons hrep .nil)) (fun v s' q => ?_) fun _ _ e => e
  obtain ⟨⟨h', tk, dw, rfl, hk⟩, rv, _⟩ := q
  cases rv
  exact ⟨.inl ⟨.bool true, .bool true, [], rfl, fun _ => rfl, .bool true, postW_of (r := l.row.toRowW) rfl (w_eq_bool (w_res rfl) w_lit) rfl, fun _ => ⟨.nil, fun _ h => nomatch h⟩⟩, oldK_of ⟨_, G.lam.2.1⟩ hk, rfl, .of_eq hg⟩
end Mine
namespace Mine
open PySem
/-! rules of the evaluator -/
noncomputable def Run (cf : CF) (ss : List MS) (σ : St) (d : D) (fr : Bool) : Prop := fin (exSs cf ss σ) = some (d, fr)
/-- one step of a run -/
structure Stp (cf : CF) (s : MS) (σ σ' : St) : Prop where
  go : ∀ r, exSs cf (s :: r) σ = exSs cf r σ'
section
variable {cf : CF} {ρ : List (String × D)} {σ σ' : St} {a b c e : ME} {d x y : D} {i j : Int} {fr : Bool} {r t f body : List MS} {z : String}
theorem v_map (h : evE cf ρ e = some d) (hc : isCallE e = none) (hf : frF e d = fr) : evF cf ρ e = some (d, fr) := by
  unfold evF; rw [hc, h]; show some (d, frF e d) = _; rw [hf]
theorem v_call {g : String} {as : List ME} {ds : List D} (h : evEs cf ρ as = some ds) (hc : cf.call g ds = some (d, fr)) : evF cf ρ (.call g as) = some (d, fr) := by
  rw [evF_call, h]; exact hc
theorem v_callE {g : String} {as : List ME} {ds : List D} (h : evEs cf ρ as = some ds) (hc : cf.call g ds = some (d, fr)) : evE cf ρ (.call g as) = some d := by
  rw [e_call, h]; show (cf.call g ds).map _ = _; rw [hc]; rfl
theorem v_cons {es : List ME} {ds : List D} (h : evE cf ρ e = some d) (hs : evEs cf ρ es = some ds) : evEs cf ρ (e :: es) = some (d :: ds) := by
  rw [es_cons, h, hs]; rfl
theorem v_bin {op : Operator} (ha : evE cf ρ a = some x) (hb : evE cf ρ b = some y) (h : binD op x y = some d) : evE cf ρ (.bin op a b) = some d := by
  rw [e_bin, ha, hb]; exact h
theorem b_mul (h : -lim < j ∧ j < lim) : binD .Mult (.int i) (.int j) = some (.int (i * j)) := if_pos (.inr h)
theorem b_mulL (h : -lim < i ∧ i < lim) : binD .Mult (.int i) (.int j) = some (.int (i * j)) := if_pos (.inl h)
theorem b_div (h : 0 < j ∧ j < lim) : binD .FloorDiv (.int i) (.int j) = some (.int (i / j)) := if_pos h
theorem b_mod (h : 0 < j) : binD .Mod (.int i) (.int j) = some (.int (i % j)) := if_pos h
theorem b_pow (h : -powLim < i ∧ i < powLim ∧ 0 ≤ j ∧ j ≤ 100) : binD .Pow (.int i) (.int j) = some (.int (i ^ j.toNat)) := if_pos h
theorem b_add : binD .Add (.int i) (.int j) = some (.int (i + j)) := rfl
theorem b_sb : binD .Sub (.int i) (.int j) = some (.int (i - j)) := rfl
theorem v_cmp {op : CmpOp} (ha : evE cf ρ a = some x) (hb : evE cf ρ b = some y) (h : cmpD op x y = some d) : evE cf ρ (.cmp op a b) = some d := by
  rw [e_cmp, ha, hb]; exact h
theorem v_sub (ha : evE cf ρ a = some x) (hb : evE cf ρ b = some y) (h : subD x y = some d) : evE cf ρ (.sub a b) = some d := by
  rw [e_sub, ha, hb]; exact h
theorem v_sl {l h : ME} {u v : D} (ha : evE cf ρ a = some x) (hl : evE cf ρ l = some u) (hh : evE cf ρ h = some v) (hd : slD x u v = some d) : evE cf ρ (.sl a l h) = some d := by
  rw [e_sl, ha, hl, hh]; exact hd
theorem v_not {k : Bool} (ha : evE cf ρ a = some x) (h : truth x = some k) : evE cf ρ (.not a) = some (.bool (!k)) := by
  rw [e_not, ha]; show (truth x).map _ = _; rw [h]; rfl
theorem v_isi {T : String} {k : Bool} (ha : evE cf ρ a = some x) (h : isiD x T = some k) : evE cf ρ (.isi a T) = some (.bool k) := by
  rw [e_isi, ha]; show (isiD x T).map _ = _; rw [h]; rfl
theorem v_blt {g : String} {as : List ME} {ds : List D} (ha : evEs cf ρ as = some ds) (h : bltD g ds = some d) : evE cf ρ (.blt g as) = some d := by
  rw [e_blt, ha]; exact h
theorem v_tup {as : List ME} {ds : List D} (ha : evEs cf ρ as = some ds) (h : ds.length ≤ big) : evE cf ρ (.tup as) = some (.tup ds) := by
  rw [e_tup, ha]; exact if_pos h
theorem v_lst {as : List ME} {ds : List D} (ha : evEs cf ρ as = some ds) (h : ds.length ≤ big) : evE cf ρ (.lst as) = some (.list ds) := by
  rw [e_lst, ha]; exact if_pos h
theorem v_sset (ha : evE cf ρ a = some x) (h : ssetD x = some d) : evE cf ρ (.sset a) = some d := by rw [e_sset, ha]; exact h
theorem v_lcp {ds : List D} (ha : evE cf ρ a = some x) (h : lstD x = some ds) : evE cf ρ (.lcp a) = some (.list ds) := by
  rw [e_lcp, ha]; show (lstD x).map _ = _; rw [h]; rfl
theorem v_comp {elt src : ME} {cs : List ME} {its ds : List D} (ha : evE cf ρ src = some x) (hi : x.items = some its) (hl : its.length ≤ big) (h : compM (compF cf ρ elt z cs) its = some ds) : evE cf ρ (.comp elt z src cs) = some (.list ds) := by
  rw [e_comp, ha]; show (match x.items with | some its => _ | none => _) = _; rw [hi]; show (if its.length ≤ big then _ else _) = _; rw [if_pos hl, h]; rfl

theorem v_cc {o1 o2 : CmpOp} {g : ME} {w' : D} (ha : evE cf ρ a = some x) (hb : evE cf ρ b = some y) (h1 : cmpD o1 x y = some (.bool true)) (hc : evE cf ρ g = some w') (h2 : cmpD o2 y w' = some d) : evE cf ρ (.cc o1 o2 a b g) = some d := by
  rw [ev_cc, ha]; dsimp only; rw [hb]; dsimp only; rw [h1]; dsimp only; rw [if_pos rfl, hc]; exact h2
theorem v_and {k l : Bool} {r' : List ME} (ha : evE cf ρ a = some (.bool k)) (hb : k = true → evE cf ρ (.bop .And (b :: r')) = some (.bool l)) : evE cf ρ (.bop .And (a :: b :: r')) = some (.bool (k && l)) := by
  rw [e_bop, b_and, ha, oB_bool]
  cases k with
  | false => rfl
  | true => exact hb rfl
theorem v_or {k l : Bool} {r' : List ME} (ha : evE cf ρ a = some (.bool k)) (hb : k = false → evE cf ρ (.bop .Or (b :: r')) = some (.bool l)) : evE cf ρ (.bop .Or (a :: b :: r')) = some (.bool (k || l)) := by
  rw [e_bop, b_or, ha, oB_bool]
  cases k with
  | true => rfl
  | false => exact hb rfl
theorem v_bop1 {op : BoolOp} (ha : evE cf ρ a = some d) : evE cf ρ (.bop op [a]) = some d := ha
/-! statements -/
theorem p_assign (h : evF cf (vis σ) e = some (d, fr)) : Stp cf (.assign z e) σ (setv (settle d e.names σ) z (fr, d)) := ⟨fun r => x_go (by rw [xs_assign, h])⟩
theorem p_append {ds : List D} (h : evE cf (vis σ) e = some d) (hl : (settle d e.names σ).lookup z = some (true, .list ds)) (hb : ds.length < big) : Stp cf (.append z e) σ (setv (settle d e.names σ) z (true, .list (ds ++ [d]))) := ⟨fun r => x_go (by rw [xs_append, h]; dsimp only; rw [hl]; exact if_pos hb)⟩
theorem p_setk {k : ME} {dk : D} {ks vs : List D} (h : evE cf (vis σ) e = some d) (hk : evE cf (vis σ) k = some dk) (hl : (settle dk k.names (settle d e.names σ)).lookup z = some (true, .dict ks vs)) (hb : (keyOk dk ks && decide (ks.length < big)) = true) :
    Stp cf (.setk z k e) σ (setv (settle dk k.names (settle d e.names σ)) z (true, .dict (dput ks vs dk d).1 (dput ks vs dk d).2)) := ⟨fun r => x_go (by rw [xs_setk, h]; dsimp only; rw [hk]; dsimp only; rw [hl]; exact if_pos hb)⟩
theorem r_step {s : MS} (h : Stp cf s σ σ') (k : Run cf r σ' d fr) : Run cf (s :: r) σ d fr := by unfold Run; rw [h.go]; exact k
theorem r_if {k : Bool} (h : evE cf (vis σ) c = some x) (hx : truth x = some k) (ht : k = true → Run cf (t ++ r) σ d fr) (hf : k = false → Run cf (f ++ r) σ d fr) : Run cf (.ite c t f :: r) σ d fr := by
  unfold Run; rw [x_iteb h hx]
  cases k with
  | true => exact ht rfl
  | false => exact hf rfl
theorem r_ret (h : evF cf (vis σ) e = some (d, fr)) (hv : e.isVar = false) : Run cf (.ret e :: r) σ d fr := by unfold Run; rw [x_end (x_rv hv h)]; rfl
theorem r_retv (h : σ.lookup z = some (fr, d)) : Run cf (.ret (.var z) :: r) σ d fr := by unfold Run; rw [x_end (x_rx h)]; rfl
theorem r_for {src : ME} {its : List D} (hs : evE cf (vis σ) src = some x) (hi : x.items = some its) (h : forD (bodyF cf body z) its (freeze src.names σ) = some (.next, σ')) (k : Run cf r σ' d fr) : Run cf (.for_ z src body :: r) σ d fr := by
  unfold Run; rw [x_for hs hi, h]; exact k
theorem r_forR {src : ME} {its : List D} (hs : evE cf (vis σ) src = some x) (hi : x.items = some its) (h : forD (bodyF cf body z) its (freeze src.names σ) = some (.ret fr d, σ')) : Run cf (.for_ z src body :: r) σ d fr := by
  unfold Run; rw [x_for hs hi, h]; rfl
theorem p_expr (h : evE cf (vis σ) e = some d) (hd : d.scalar = true) : Stp cf (.expr e) σ σ := ⟨fun r => x_go (by rw [xs_expr, h]; exact if_pos hd)⟩
theorem r_while (h : whileD (condF cf c) (fun σ => exSs cf body σ) wlim σ = some (.next, σ')) (k : Run cf r σ' d fr) : Run cf (.while_ c body :: r) σ d fr := by
  unfold Run; rw [x_while, h, thenS_next]; exact k
theorem run_call {P : List (String × Fn)} {X : CF} {g : String} {ps : List String} {bd : List MS} {n : Nat} {args : List D} (h : P.lookup g = some ⟨ps, bd⟩) (hl : args.length = ps.length) (k : Run (callN P X n) bd ((ps.zip args).map fun p => (p.1, (false, p.2))) d fr) :
    (callN P X (n + 1)).call g args = some (d, fr) := by rw [call_eq n args h hl]; exact k
theorem no_tf {k : Bool} {α : Prop} (h : k = true) (h' : k = false) : α := by rw [h] at h'; cases h'
theorem bin_ss {u v : Str} (h : u.length + v.length ≤ big) : binD .Add (.str u) (.str v) = some (.str (u ++ v)) := if_pos h
theorem bin_tt {u v : List D} (h : u.length + v.length ≤ big) : binD .Add (.tup u) (.tup v) = some (.tup (u ++ v)) := if_pos h
theorem bin_ll {u v : List D} (h : u.length + v.length ≤ big) : binD .Add (.list u) (.list v) = some (.list (u ++ v)) := if_pos h
theorem bin_sm {u : Str} {k : Int} (h : 0 ≤ k ∧ k ≤ 1000 ∧ u.length ≤ 1000) : binD .Mult (.str u) (.int k) = some (.str (Txt.mul u k)) := if_pos h
theorem sub_s {u : Str} {k : Int} (h : 0 ≤ k ∧ k < u.length ∧ u.length ≤ big) : subD (.str u) (.int k) = some (.str (charAt u k.toNat)) := if_pos h
theorem sub_l {u : List D} {k : Nat} (h : k < u.length) (he : u[k]? = some d) : subD (.list u) (.int k) = some d := by
  show (idx k u.length).bind _ = _
  have : idx (k : Int) u.length = some k := by unfold idx; have : (k : Int) < u.length := by omega
                                               simp [this]
  rw [this]; exact he
theorem sub_t {u : List D} {k : Nat} (h : k < u.length) (he : u[k]? = some d) : subD (.tup u) (.int k) = some d := sub_l h he
theorem blt_rng {k : Nat} (h : k ≤ big) : bltD "range" [.int k] = some (.rng 0 k) := by
  show (if _ then _ else _) = _
  exact if_pos (by omega)
theorem len_s {u : Str} (h : u.length ≤ big) : bltD "len" [.str u] = some (.int u.length) := if_pos h
/-! runs that end in one of many answers -/
noncomputable def Rex (cf : CF) (ss : List MS) (σ : St) (Q : D → Bool → Prop) : Prop := ∃ d fr, Q d fr ∧ Run cf ss σ d fr
variable {Q : D → Bool → Prop}
theorem q_step {s : MS} (h : Stp cf s σ σ') (k : Rex cf r σ' Q) : Rex cf (s :: r) σ Q := let ⟨d, fr, q, k⟩ := k; ⟨d, fr, q, r_step h k⟩
theorem q_if {k : Bool} (h : evE cf (vis σ) c = some x) (hx : truth x = some k) (ht : k = true → Rex cf (t ++ r) σ Q) (hf : k = false → Rex cf (f ++ r) σ Q) : Rex cf (.ite c t f :: r) σ Q := by
  cases k with
  | true => obtain ⟨d, fr, q, k⟩ := ht rfl; exact ⟨d, fr, q, r_if h hx (fun _ => k) nofun⟩
  | false => obtain ⟨d, fr, q, k⟩ := hf rfl; exact ⟨d, fr, q, r_if h hx nofun fun _ => k⟩
theorem q_ret (h : evF cf (vis σ) e = some (d, fr)) (hv : e.isVar = false) (q : Q d fr) : Rex cf (.ret e :: r) σ Q := ⟨d, fr, q, r_ret h hv⟩
theorem q_retv (h : σ.lookup z = some (fr, d)) (q : Q d fr) : Rex cf (.ret (.var z) :: r) σ Q := ⟨d, fr, q, r_retv h⟩
theorem q_norm (h : σ = σ') (k : Rex cf r σ' Q) : Rex cf r σ Q := h ▸ k
theorem q_for {src : ME} {its : List D} (hs : evE cf (vis σ) src = some x) (hi : x.items = some its) (h : forD (bodyF cf body z) its (freeze src.names σ) = some (.next, σ')) (k : Rex cf r σ' Q) : Rex cf (.for_ z src body :: r) σ Q :=
  let ⟨d, fr, q, k⟩ := k; ⟨d, fr, q, r_for hs hi h k⟩
theorem q_forR {src : ME} {its : List D} (hs : evE cf (vis σ) src = some x) (hi : x.items = some its) (h : forD (bodyF cf body z) its (freeze src.names σ) = some (.ret fr d, σ')) (q : Q d fr) : Rex cf (.for_ z src body :: r) σ Q := ⟨d, fr, q, r_forR hs hi h⟩
theorem rex_call {P : List (String × Fn)} {X : CF} {g : String} {ps : List String} {bd : List MS} {n : Nat} {args : List D} (h : P.lookup g = some ⟨ps, bd⟩) (hl : args.length = ps.length) (k : Rex (callN P X n) bd ((ps.zip args).map fun p => (p.1, (false, p.2))) Q) :
    ∃ d fr, Q d fr ∧ (callN P X (n + 1)).call g args = some (d, fr) := let ⟨d, fr, q, k⟩ := k; ⟨d, fr, q, run_call h hl k⟩
theorem v_rows {elt src : ME} {k : Nat} (hk : k ≤ 1000) (R : D → Prop) (hs : evE cf ρ src = some (.int k)) (h : ∀ i : Nat, i < k → ∃ d, R d ∧ evE cf ((z, .int i) :: ρ) elt = some d) :
    ∃ ds : List D, ds.length = k ∧ (∀ d ∈ ds, R d) ∧ evE cf ρ (.blt "tuple" [.comp elt z (.blt "range" [src]) []]) = some (.tup ds) := by
  obtain ⟨ds, e, hl, hq⟩ := compM_ok (compF cf ρ elt z []) (fun _ d => R d) ((List.range k).map fun (i : Nat) => D.int (i : Int)) (by
    intro it hit
    obtain ⟨i, hi, rfl⟩ := List.mem_map.mp hit
    obtain ⟨d, q, e⟩ := h i (List.mem_range.mp hi)
    exact ⟨d, q, compF_nil e⟩)
  have hb : k ≤ big := Nat.le_trans hk (by decide)
  have hl' : ((List.range k).map fun (i : Nat) => D.int (i : Int)).length = k := by simp
  refine ⟨ds, hl.trans hl', fun d hd => let ⟨_, _, q⟩ := hq d hd; q, ?_⟩
  exact v_blt (v_cons (v_comp (v_blt (v_cons hs (es_nil _ _)) (blt_rng hb)) (items_rng k) (Nat.le_trans (Nat.le_of_eq hl') hb) e) (es_nil _ _)) rfl
/-! a block's outcome -/
noncomputable def Out (cf : CF) (ss : List MS) (σ : St) (R : Fl → St → Prop) : Prop := ∃ fl σ', R fl σ' ∧ exSs cf ss σ = some (fl, σ')
variable {R : Fl → St → Prop}
theorem o_step {s : MS} (h : Stp cf s σ σ') (k : Out cf r σ' R) : Out cf (s :: r) σ R := let ⟨fl, s', q, k⟩ := k; ⟨fl, s', q, (h.go r).trans k⟩
theorem o_if {k : Bool} (h : evE cf (vis σ) c = some x) (hx : truth x = some k) (ht : k = true → Out cf (t ++ r) σ R) (hf : k = false → Out cf (f ++ r) σ R) : Out cf (.ite c t f :: r) σ R := by
  unfold Out; rw [x_iteb h hx]
  cases k with
  | true => exact ht rfl
  | false => exact hf rfl
theorem o_ret (h : evF cf (vis σ) e = some (d, fr)) (hv : e.isVar = false) (q : R (.ret fr d) σ) : Out cf (.ret e :: r) σ R := ⟨_, _, q, x_end (x_rv hv h)⟩
theorem o_nil (q : R .next σ) : Out cf [] σ R := ⟨_, _, q, x_nil cf σ⟩
theorem p_cell (h : evF cf (vis σ) e = some (d, fr)) (hc : d.isCell = true) : Stp cf (.assign z e) σ (setv σ z (fr, d)) := by
  have := p_assign (z := z) h
  unfold settle at this
  rwa [if_pos (by cases d <;> first | rfl | cases hc)] at this
theorem loop_inv (I : List D → St → Prop) : ∀ (its pre : List D) (σ : St), I pre σ → (∀ a it b σ, pre ++ its = a ++ it :: b → I a σ → Out cf body (setv σ z (false, it)) fun fl σ' => fl = .next ∧ I (a ++ [it]) σ') →
    ∃ σ', I (pre ++ its) σ' ∧ forD (bodyF cf body z) its σ = some (.next, σ')
  | [], pre, σ, h, _ => ⟨σ, by simpa using h, rfl⟩
  | it :: r, pre, σ, h, hs => by
    obtain ⟨fl, σ₁, ⟨rfl, i1⟩, e⟩ := hs pre it r σ rfl h
    obtain ⟨σ₂, i2, e2⟩ := loop_inv I r (pre ++ [it]) σ₁ i1 fun a i b s h => hs a i b s (by simpa using h)
    exact ⟨σ₂, by simpa using i2, by rw [forB_cons, e]; exact e2⟩
end

/-! states known by what they hold -/
noncomputable def HasR (ρ : List (String × D)) (x : String) (d : D) : Prop := ρ.lookup x = some d
noncomputable def Has (σ : St) (x : String) (d : D) : Prop := ∃ fr, σ.lookup x = some (fr, d)
noncomputable def OwnV (σ : St) (x : String) (d : D) : Prop := σ.lookup x = some (true, d)
section
variable {cf : CF} {ρ : List (String × D)} {σ : St} {x y : String} {d e : D} {v : Bool × D} {ns : List String} {fr : Bool}
theorem hr_eq : HasR ((x, d) :: ρ) x d := by unfold HasR; rw [List.lookup_cons, beq_self_eq_true]
theorem hr_ne (h : (x == y) = false) (k : HasR ρ x d) : HasR ((y, e) :: ρ) x d := by unfold HasR; rw [List.lookup_cons, h]; exact k
theorem hr_vis (h : Has σ x d) : HasR (vis σ) x d := by obtain ⟨fr, h⟩ := h; unfold HasR; rw [lookup_vis, h]; rfl
theorem h_eq : Has (setv σ x (fr, d)) x d := ⟨fr, by rw [lookup_setv, if_pos rfl]⟩
theorem h_ne (h : (x == y) = false) (k : Has σ x d) : Has (setv σ y v) x d := let ⟨fr, k⟩ := k; ⟨fr, by rw [lookup_setv, if_neg (by rintro rfl; rw [beq_self_eq_true] at h; cases h)]; exact k⟩
theorem h_fr (k : Has σ x d) : Has (freeze ns σ) x d := let ⟨fr, k⟩ := k; ⟨_, by rw [lookup_freeze, k]; rfl⟩
theorem h_st (k : Has σ x d) : Has (settle e ns σ) x d := by unfold settle; split; exact k; exact h_fr k
theorem h_cons : Has ((x, (fr, d)) :: σ) x d := ⟨fr, by rw [List.lookup_cons, beq_self_eq_true]⟩
theorem h_consn (h : (x == y) = false) (k : Has σ x d) : Has ((y, v) :: σ) x d := let ⟨fr, k⟩ := k; ⟨fr, by rw [List.lookup_cons, h]; exact k⟩
theorem h_own (k : OwnV σ x d) : Has σ x d := ⟨true, k⟩
theorem w_eq : OwnV (setv σ x (true, d)) x d := by unfold OwnV; rw [lookup_setv, if_pos rfl]
theorem w_ne (h : (x == y) = false) (k : OwnV σ x d) : OwnV (setv σ y v) x d := by unfold OwnV; rw [lookup_setv, if_neg (by rintro rfl; rw [beq_self_eq_true] at h; cases h)]; exact k
theorem w_fr (h : ns.contains x = false) (k : OwnV σ x d) : OwnV (freeze ns σ) x d := by unfold OwnV; rw [lookup_freeze, k]; show some (true && !ns.contains x, d) = _; rw [h]; rfl
theorem w_st (h : ns.contains x = false) (k : OwnV σ x d) : OwnV (settle e ns σ) x d := by unfold settle; split; exact k; exact w_fr h k
theorem o_for {src : ME} {z : String} {body r : List MS} {its : List D} {σ' : St} {R : Fl → St → Prop} (hs : evE cf (vis σ) src = some d) (hi : d.items = some its) (h : forD (bodyF cf body z) its (freeze src.names σ) = some (.next, σ')) (k : Out cf r σ' R) : Out cf (.for_ z src body :: r) σ R := by
  unfold Out; rw [x_for hs hi, h]; exact k
theorem v_neg1 : evE cf ρ (.neg (.int 1)) = some (.int (-1)) := rfl
theorem v_var (h : HasR ρ x d) : evE cf ρ (.var x) = some d := h
end

set_option maxRecDepth 100000
set_option maxHeartbeats 4000000
noncomputable def fn_before : Fn := ⟨["one", "other"], [
    .ite (.cmp .NotEq (.isi (.var "one") "str") (.isi (.var "other") "str")) [.ret (.isi (.var "other") "str")] [],
    .ret (.cmp .Lt (.var "one") (.var "other"))]⟩
noncomputable def fn_law_before : Fn := ⟨["_law_one", "_law_other"], [
    .ite (.bop .And [.isi (.var "_law_one") "str", .isi (.var "_law_other") "str"]) [.ret (.cmp .Lt (.var "_law_one") (.var "_law_other"))] [],
    .ite (.bop .Or [.isi (.var "_law_one") "str", .isi (.var "_law_other") "str"]) [.ret (.isi (.var "_law_other") "str")] [],
    .ret (.cmp .Lt (.var "_law_one") (.var "_law_other"))]⟩
noncomputable def fn_law_alike : Fn := ⟨["_law_one", "_law_other"], [
    .ite (.bop .Or [.isi (.var "_law_one") "str", .isi (.var "_law_other") "str"]) [.ret (.bop .And [.isi (.var "_law_one") "str", .isi (.var "_law_other") "str", .cmp .Eq (.var "_law_one") (.var "_law_other")])] [],
    .ret (.cmp .Eq (.var "_law_one") (.var "_law_other"))]⟩
noncomputable def fn_law_sign_by : Fn := ⟨["_law_cell"], [
    .assign "_law_some" (.str " !\"#$&'()*+,-./0123456789:;<=>?@ABCDEFGHIJKLMNOPQRSTUVWXYZ[\\]^_`"),
    .assign "_law_some" (.bin .Add (.var "_law_some") (.str "abcdefghijklmnopqrstuvwxyz{|}~")),
    .ret (.sub (.var "_law_some") (.bin .Mod (.var "_law_cell") (.int 94)))]⟩
noncomputable def fn_law_cell_at : Fn := ⟨["_law_script", "_law_k"], [
    .ite (.cmp .Lt (.var "_law_k") (.blt "len" [.var "_law_script"])) [.ret (.sub (.var "_law_script") (.var "_law_k"))] [],
    .ret (.int 0)]⟩
noncomputable def fn_law_thing_by : Fn := ⟨["_law_cell"], [
    .assign "_law_way" (.bin .Mod (.var "_law_cell") (.int 9)),
    .assign "_law_rest" (.bin .FloorDiv (.var "_law_cell") (.int 9)),
    .ite (.cmp .Lt (.var "_law_way") (.int 4)) [.ret (.bin .Sub (.bin .Mod (.var "_law_rest") (.int 4)) (.int 1))] [],
    .ite (.cmp .Eq (.var "_law_way") (.int 4)) [.ret (.bin .Sub (.bin .Mod (.var "_law_rest") (.int 2000001)) (.int 1000000))] [],
    .ite (.cmp .Eq (.var "_law_way") (.int 5)) [.ret (.sub (.lst [.str "a", .str "b", .str "1", .str "0", .str "-1", .str "col", .str "is", .str "count"]) (.bin .Mod (.var "_law_rest") (.int 8)))] [],
    .ite (.cmp .Eq (.var "_law_way") (.int 6)) [.ret (.bin .Mult (.call "_law_sign_by" [.var "_law_rest"]) (.bin .Mod (.bin .FloorDiv (.var "_law_rest") (.int 94)) (.int 100)))] [],
    .ite (.cmp .Eq (.var "_law_way") (.int 7)) [.ret (.bin .Add (.bin .Sub (.bin .Mod (.bin .Pow (.bin .Add (.bin .Mod (.var "_law_rest") (.bin .Pow (.int 10) (.int 60))) (.int 3)) (.int 9)) (.bin .Sub (.bin .Mult (.int 2) (.bin .Pow (.int 10) (.int 60))) (.int 1))) (.bin .Pow (.int 10) (.int 60))) (.int 1))] [],
    .assign "_law_word" (.sl (.str "any word") .none (.bin .Mod (.var "_law_rest") (.int 9))),
    .assign "_law_at" (.bin .Mod (.bin .FloorDiv (.var "_law_rest") (.int 9)) (.bin .Add (.blt "len" [.var "_law_word"]) (.int 1))),
    .ret (.bin .Add (.bin .Add (.sl (.var "_law_word") .none (.var "_law_at")) (.call "_law_sign_by" [.bin .FloorDiv (.var "_law_rest") (.int 81)])) (.sl (.var "_law_word") (.var "_law_at") .none))]⟩
noncomputable def fn_law_mixed : Fn := ⟨["_law_cell", "_law_k"], [
    .ret (.bin .Mod (.bin .Pow (.bin .Mod (.bin .Add (.bin .Mult (.var "_law_cell") (.int 48271)) (.bin .Mult (.bin .Add (.var "_law_k") (.int 1)) (.int 1299721))) (.int 2147483647)) (.int 5)) (.int 2147483647))]⟩
structure BG (P : List (String × Fn)) : Prop where
  sign : P.lookup "_law_sign_by" = some fn_law_sign_by
  cell : P.lookup "_law_cell_at" = some fn_law_cell_at
  thing : P.lookup "_law_thing_by" = some fn_law_thing_by
  mixed : P.lookup "_law_mixed" = some fn_law_mixed
structure BC (P : List (String × Fn)) : Prop where
  before : P.lookup "before" = some fn_before
  lalike : P.lookup "_law_alike" = some fn_law_alike
  lbefore : P.lookup "_law_before" = some fn_law_before
noncomputable def signs : Str := Str.ofString " !\"#$&'()*+,-./0123456789:;<=>?@ABCDEFGHIJKLMNOPQRSTUVWXYZ[\\]^_`" ++ Str.ofString "abcdefghijklmnopqrstuvwxyz{|}~"
theorem signs_len : signs.length = 94 := by decide +kernel
theorem emod_nat (c : Int) {k : Nat} (h : 0 < k) : ∃ m : Nat, c % (k : Int) = m ∧ m < k := ⟨(c % k).toNat, (Int.toNat_of_nonneg (Int.emod_nonneg _ (by omega))).symm, by have := Int.emod_nonneg c (b := (k : Int)) (by omega); have := Int.emod_lt_of_pos c (b := (k : Int)) (by omega); omega⟩
section
variable {P : List (String × Fn)} {X : CF}
theorem sign_at (B : BG P) (n : Nat) (c : Int) : (callN P X (n + 1)).call "_law_sign_by" [.int c] = some (.str (charAt signs (c % 94).toNat), false) := by
  have h1 : (Str.ofString " !\"#$&'()*+,-./0123456789:;<=>?@ABCDEFGHIJKLMNOPQRSTUVWXYZ[\\]^_`").length + (Str.ofString "abcdefghijklmnopqrstuvwxyz{|}~").length ≤ big := by decide +kernel
  have h2 : 0 ≤ c % 94 ∧ c % 94 < (signs.length : Int) ∧ signs.length ≤ big := by rw [signs_len]; refine ⟨by omega, by omega, by decide⟩
  refine run_call B.sign rfl ?_
  have q : binD .Add (.str (Str.ofString " !\"#$&'()*+,-./0123456789:;<=>?@ABCDEFGHIJKLMNOPQRSTUVWXYZ[\\]^_`")) (.str (Str.ofString "abcdefghijklmnopqrstuvwxyz{|}~")) = some (.str signs) := bin_ss h1
  have q2 := sub_s h2
  (repeat' (first | ((first | apply r_step | apply q_step | apply o_step); (focus ((first | ((with_reducible apply p_cell); (focus ((repeat' (first | (with_reducible (first | assumption | apply e_int | apply e_str | apply e_bool | apply e_none | apply es_nil)) | ((with_reducible apply v_var); (focus ((repeat' (first | (with_reducible (first | assumption | exact h_eq | exact hr_eq | exact w_eq | exact h_cons | apply h_own; assumption)) | ((with_reducible (first | apply h_ne | apply hr_ne | apply w_ne | apply h_consn | apply w_st | apply w_fr)); (focus (exact rfl))) | (with_reducible (first | apply hr_vis | apply h_st | apply h_fr)))); done))) | ((with_reducible apply v_var); exact rfl) | ((with_reducible refine (e_glob _ _ _).trans ?_); (with_reducible assumption)) | (with_reducible (first | exact v_neg1 | apply v_cons | apply v_bin | exact b_add | exact b_sb | apply b_mod | apply b_div)) | ((with_reducible apply b_mulL); (focus decide)) | (with_reducible (first | apply b_mul | apply v_cmp | apply v_sub | apply v_sl | apply v_not | apply v_isi | apply v_blt | apply v_tup | apply v_lst | apply v_lcp | apply v_callE | apply v_call | apply v_bop1)) | ((with_reducible (first | apply v_and | apply v_or)); rotate_left; intro _; rotate_right) | (with_reducible apply v_map) | ((with_reducible (first | show cmpD _ _ _ = _ | show truth _ = _ | show isiD _ _ = _ | show frF _ _ = _ | show isCallE _ = _ | show bltD _ _ = _ | show lstD _ = _ | show subD _ _ = _)); exact rfl) | decide | exact Nat.le_of_ble_eq_true rfl)); done)); (with_reducible assumption)) | ((with_reducible apply p_assign); (repeat' (first | (with_reducible (first | assumption | apply e_int | apply e_str | apply e_bool | apply e_none | apply es_nil)) | ((with_reducible apply v_var); (focus ((repeat' (first | (with_reducible (first | assumption | exact h_eq | exact hr_eq | exact w_eq | exact h_cons | apply h_own; assumption)) | ((with_reducible (first | apply h_ne | apply hr_ne | apply w_ne | apply h_consn | apply w_st | apply w_fr)); (focus (exact rfl))) | (with_reducible (first | apply hr_vis | apply h_st | apply h_fr)))); done))) | ((with_reducible apply v_var); exact rfl) | ((with_reducible refine (e_glob _ _ _).trans ?_); (with_reducible assumption)) | (with_reducible (first | exact v_neg1 | apply v_cons | apply v_bin | exact b_add | exact b_sb | apply b_mod | apply b_div)) | ((with_reducible apply b_mulL); (focus decide)) | (with_reducible (first | apply b_mul | apply v_cmp | apply v_sub | apply v_sl | apply v_not | apply v_isi | apply v_blt | apply v_tup | apply v_lst | apply v_lcp | apply v_callE | apply v_call | apply v_bop1)) | ((with_reducible (first | apply v_and | apply v_or)); rotate_left; intro _; rotate_right) | (with_reducible apply v_map) | ((with_reducible (first | show cmpD _ _ _ = _ | show truth _ = _ | show isiD _ _ = _ | show frF _ _ = _ | show isCallE _ = _ | show bltD _ _ = _ | show lstD _ = _ | show subD _ _ = _)); exact rfl) | decide | exact Nat.le_of_ble_eq_true rfl)); done))))) | ((first | apply r_if | apply q_if | apply o_if); (((focus ((repeat' (first | (with_reducible (first | assumption | apply e_int | apply e_str | apply e_bool | apply e_none | apply es_nil)) | ((with_reducible apply v_var); (focus ((repeat' (first | (with_reducible (first | assumption | exact h_eq | exact hr_eq | exact w_eq | exact h_cons | apply h_own; assumption)) | ((with_reducible (first | apply h_ne | apply hr_ne | apply w_ne | apply h_consn | apply w_st | apply w_fr)); (focus (exact rfl))) | (with_reducible (first | apply hr_vis | apply h_st | apply h_fr)))); done))) | ((with_reducible apply v_var); exact rfl) | ((with_reducible refine (e_glob _ _ _).trans ?_); (with_reducible assumption)) | (with_reducible (first | exact v_neg1 | apply v_cons | apply v_bin | exact b_add | exact b_sb | apply b_mod | apply b_div)) | ((with_reducible apply b_mulL); (focus decide)) | (with_reducible (first | apply b_mul | apply v_cmp | apply v_sub | apply v_sl | apply v_not | apply v_isi | apply v_blt | apply v_tup | apply v_lst | apply v_lcp | apply v_callE | apply v_call | apply v_bop1)) | ((with_reducible (first | apply v_and | apply v_or)); rotate_left; intro _; rotate_right) | (with_reducible apply v_map) | ((with_reducible (first | show cmpD _ _ _ = _ | show truth _ = _ | show isiD _ _ = _ | show frF _ _ = _ | show isCallE _ = _ | show bltD _ _ = _ | show lstD _ = _ | show subD _ _ = _)); exact rfl) | decide | exact Nat.le_of_ble_eq_true rfl)); done)); (focus (exact rfl)); (focus (intro hh; first | exact no_tf hh (by assumption) | exact absurd hh (by decide) | skip)); rotate_left; (focus (intro hh; first | exact no_tf (by assumption) hh | exact absurd hh (by decide) | skip))))) | ((first | apply r_retv | apply q_retv); (focus (exact rfl))) | ((first | apply r_ret | apply q_ret | apply o_ret); (focus ((repeat' (first | (with_reducible (first | assumption | apply e_int | apply e_str | apply e_bool | apply e_none | apply es_nil)) | ((with_reducible apply v_var); (focus ((repeat' (first | (with_reducible (first | assumption | exact h_eq | exact hr_eq | exact w_eq | exact h_cons | apply h_own; assumption)) | ((with_reducible (first | apply h_ne | apply hr_ne | apply w_ne | apply h_consn | apply w_st | apply w_fr)); (focus (exact rfl))) | (with_reducible (first | apply hr_vis | apply h_st | apply h_fr)))); done))) | ((with_reducible apply v_var); exact rfl) | ((with_reducible refine (e_glob _ _ _).trans ?_); (with_reducible assumption)) | (with_reducible (first | exact v_neg1 | apply v_cons | apply v_bin | exact b_add | exact b_sb | apply b_mod | apply b_div)) | ((with_reducible apply b_mulL); (focus decide)) | (with_reducible (first | apply b_mul | apply v_cmp | apply v_sub | apply v_sl | apply v_not | apply v_isi | apply v_blt | apply v_tup | apply v_lst | apply v_lcp | apply v_callE | apply v_call | apply v_bop1)) | ((with_reducible (first | apply v_and | apply v_or)); rotate_left; intro _; rotate_right) | (with_reducible apply v_map) | ((with_reducible (first | show cmpD _ _ _ = _ | show truth _ = _ | show isiD _ _ = _ | show frF _ _ = _ | show isCallE _ = _ | show bltD _ _ = _ | show lstD _ = _ | show subD _ _ = _)); exact rfl) | decide | exact Nat.le_of_ble_eq_true rfl)); done)); (focus (exact rfl))) | apply o_nil))
theorem sign_by (B : BG P) (n : Nat) (c : Int) : ∃ x : Str, x.length = 1 ∧ (callN P X (n + 1)).call "_law_sign_by" [.int c] = some (.str x, false) := ⟨charAt signs (c % 94).toNat, rfl, sign_at B n c⟩
theorem cell_at (B : BG P) (n : Nat) (ns : List Int) (k : Nat) : (callN P X (n + 1)).call "_law_cell_at" [.list (ns.map .int), .int k] = some (.int (ns.getD k 0), false) := by
  have hl : (ns.map D.int).length = ns.length := List.length_map ..
  refine run_call B.cell rfl ?_
  by_cases h : k < ns.length
  · have h1 : decide ((k : Int) < (ns.map D.int).length) = true := decide_eq_true (by omega)
    have h2 : subD (.list (ns.map .int)) (.int k) = some (.int (ns.getD k 0)) := sub_l (by omega) (by simp [h])
    (repeat' (first | ((first | apply r_step | apply q_step | apply o_step); (focus ((first | ((with_reducible apply p_cell); (focus ((repeat' (first | (with_reducible (first | assumption | apply e_int | apply e_str | apply e_bool | apply e_none | apply es_nil)) | ((with_reducible apply v_var); (focus ((repeat' (first | (with_reducible (first | assumption | exact h_eq | exact hr_eq | exact w_eq | exact h_cons | apply h_own; assumption)) | ((with_reducible (first | apply h_ne | apply hr_ne | apply w_ne | apply h_consn | apply w_st | apply w_fr)); (focus (exact rfl))) | (with_reducible (first | apply hr_vis | apply h_st | apply h_fr)))); done))) | ((with_reducible apply v_var); exact rfl) | ((with_reducible refine (e_glob _ _ _).trans ?_); (with_reducible assumption)) | (with_reducible (first | exact v_neg1 | apply v_cons | apply v_bin | exact b_add | exact b_sb | apply b_mod | apply b_div)) | ((with_reducible apply b_mulL); (focus decide)) | (with_reducible (first | apply b_mul | apply v_cmp | apply v_sub | apply v_sl | apply v_not | apply v_isi | apply v_blt | apply v_tup | apply v_lst | apply v_lcp | apply v_callE | apply v_call | apply v_bop1)) | ((with_reducible (first | apply v_and | apply v_or)); rotate_left; intro _; rotate_right) | (with_reducible apply v_map) | ((with_reducible (first | show cmpD _ _ _ = _ | show truth _ = _ | show isiD _ _ = _ | show frF _ _ = _ | show isCallE _ = _ | show bltD _ _ = _ | show lstD _ = _ | show subD _ _ = _)); exact rfl) | decide | exact Nat.le_of_ble_eq_true rfl)); done)); (with_reducible assumption)) | ((with_reducible apply p_assign); (repeat' (first | (with_reducible (first | assumption | apply e_int | apply e_str | apply e_bool | apply e_none | apply es_nil)) | ((with_reducible apply v_var); (focus ((repeat' (first | (with_reducible (first | assumption | exact h_eq | exact hr_eq | exact w_eq | exact h_cons | apply h_own; assumption)) | ((with_reducible (first | apply h_ne | apply hr_ne | apply w_ne | apply h_consn | apply w_st | apply w_fr)); (focus (exact rfl))) | (with_reducible (first | apply hr_vis | apply h_st | apply h_fr)))); done))) | ((with_reducible apply v_var); exact rfl) | ((with_reducible refine (e_glob _ _ _).trans ?_); (with_reducible assumption)) | (with_reducible (first | exact v_neg1 | apply v_cons | apply v_bin | exact b_add | exact b_sb | apply b_mod | apply b_div)) | ((with_reducible apply b_mulL); (focus decide)) | (with_reducible (first | apply b_mul | apply v_cmp | apply v_sub | apply v_sl | apply v_not | apply v_isi | apply v_blt | apply v_tup | apply v_lst | apply v_lcp | apply v_callE | apply v_call | apply v_bop1)) | ((with_reducible (first | apply v_and | apply v_or)); rotate_left; intro _; rotate_right) | (with_reducible apply v_map) | ((with_reducible (first | show cmpD _ _ _ = _ | show truth _ = _ | show isiD _ _ = _ | show frF _ _ = _ | show isCallE _ = _ | show bltD _ _ = _ | show lstD _ = _ | show subD _ _ = _)); exact rfl) | decide | exact Nat.le_of_ble_eq_true rfl)); done))))) | ((first | apply r_if | apply q_if | apply o_if); (((focus ((repeat' (first | (with_reducible (first | assumption | apply e_int | apply e_str | apply e_bool | apply e_none | apply es_nil)) | ((with_reducible apply v_var); (focus ((repeat' (first | (with_reducible (first | assumption | exact h_eq | exact hr_eq | exact w_eq | exact h_cons | apply h_own; assumption)) | ((with_reducible (first | apply h_ne | apply hr_ne | apply w_ne | apply h_consn | apply w_st | apply w_fr)); (focus (exact rfl))) | (with_reducible (first | apply hr_vis | apply h_st | apply h_fr)))); done))) | ((with_reducible apply v_var); exact rfl) | ((with_reducible refine (e_glob _ _ _).trans ?_); (with_reducible assumption)) | (with_reducible (first | exact v_neg1 | apply v_cons | apply v_bin | exact b_add | exact b_sb | apply b_mod | apply b_div)) | ((with_reducible apply b_mulL); (focus decide)) | (with_reducible (first | apply b_mul | apply v_cmp | apply v_sub | apply v_sl | apply v_not | apply v_isi | apply v_blt | apply v_tup | apply v_lst | apply v_lcp | apply v_callE | apply v_call | apply v_bop1)) | ((with_reducible (first | apply v_and | apply v_or)); rotate_left; intro _; rotate_right) | (with_reducible apply v_map) | ((with_reducible (first | show cmpD _ _ _ = _ | show truth _ = _ | show isiD _ _ = _ | show frF _ _ = _ | show isCallE _ = _ | show bltD _ _ = _ | show lstD _ = _ | show subD _ _ = _)); exact rfl) | decide | exact Nat.le_of_ble_eq_true rfl)); done)); (focus (exact rfl)); (focus (intro hh; first | exact no_tf hh (by assumption) | exact absurd hh (by decide) | skip)); rotate_left; (focus (intro hh; first | exact no_tf (by assumption) hh | exact absurd hh (by decide) | skip))))) | ((first | apply r_retv | apply q_retv); (focus (exact rfl))) | ((first | apply r_ret | apply q_ret | apply o_ret); (focus ((repeat' (first | (with_reducible (first | assumption | apply e_int | apply e_str | apply e_bool | apply e_none | apply es_nil)) | ((with_reducible apply v_var); (focus ((repeat' (first | (with_reducible (first | assumption | exact h_eq | exact hr_eq | exact w_eq | exact h_cons | apply h_own; assumption)) | ((with_reducible (first | apply h_ne | apply hr_ne | apply w_ne | apply h_consn | apply w_st | apply w_fr)); (focus (exact rfl))) | (with_reducible (first | apply hr_vis | apply h_st | apply h_fr)))); done))) | ((with_reducible apply v_var); exact rfl) | ((with_reducible refine (e_glob _ _ _).trans ?_); (with_reducible assumption)) | (with_reducible (first | exact v_neg1 | apply v_cons | apply v_bin | exact b_add | exact b_sb | apply b_mod | apply b_div)) | ((with_reducible apply b_mulL); (focus decide)) | (with_reducible (first | apply b_mul | apply v_cmp | apply v_sub | apply v_sl | apply v_not | apply v_isi | apply v_blt | apply v_tup | apply v_lst | apply v_lcp | apply v_callE | apply v_call | apply v_bop1)) | ((with_reducible (first | apply v_and | apply v_or)); rotate_left; intro _; rotate_right) | (with_reducible apply v_map) | ((with_reducible (first | show cmpD _ _ _ = _ | show truth _ = _ | show isiD _ _ = _ | show frF _ _ = _ | show isCallE _ = _ | show bltD _ _ = _ | show lstD _ = _ | show subD _ _ = _)); exact rfl) | decide | exact Nat.le_of_ble_eq_true rfl)); done)); (focus (exact rfl))) | apply o_nil))
  · have h1 : decide ((k : Int) < (ns.map D.int).length) = false := decide_eq_false (by omega)
    have h2 : ns.getD k 0 = 0 := by simp [h]
    rw [h2]
    (repeat' (first | ((first | apply r_step | apply q_step | apply o_step); (focus ((first | ((with_reducible apply p_cell); (focus ((repeat' (first | (with_reducible (first | assumption | apply e_int | apply e_str | apply e_bool | apply e_none | apply es_nil)) | ((with_reducible apply v_var); (focus ((repeat' (first | (with_reducible (first | assumption | exact h_eq | exact hr_eq | exact w_eq | exact h_cons | apply h_own; assumption)) | ((with_reducible (first | apply h_ne | apply hr_ne | apply w_ne | apply h_consn | apply w_st | apply w_fr)); (focus (exact rfl))) | (with_reducible (first | apply hr_vis | apply h_st | apply h_fr)))); done))) | ((with_reducible apply v_var); exact rfl) | ((with_reducible refine (e_glob _ _ _).trans ?_); (with_reducible assumption)) | (with_reducible (first | exact v_neg1 | apply v_cons | apply v_bin | exact b_add | exact b_sb | apply b_mod | apply b_div)) | ((with_reducible apply b_mulL); (focus decide)) | (with_reducible (first | apply b_mul | apply v_cmp | apply v_sub | apply v_sl | apply v_not | apply v_isi | apply v_blt | apply v_tup | apply v_lst | apply v_lcp | apply v_callE | apply v_call | apply v_bop1)) | ((with_reducible (first | apply v_and | apply v_or)); rotate_left; intro _; rotate_right) | (with_reducible apply v_map) | ((with_reducible (first | show cmpD _ _ _ = _ | show truth _ = _ | show isiD _ _ = _ | show frF _ _ = _ | show isCallE _ = _ | show bltD _ _ = _ | show lstD _ = _ | show subD _ _ = _)); exact rfl) | decide | exact Nat.le_of_ble_eq_true rfl)); done)); (with_reducible assumption)) | ((with_reducible apply p_assign); (repeat' (first | (with_reducible (first | assumption | apply e_int | apply e_str | apply e_bool | apply e_none | apply es_nil)) | ((with_reducible apply v_var); (focus ((repeat' (first | (with_reducible (first | assumption | exact h_eq | exact hr_eq | exact w_eq | exact h_cons | apply h_own; assumption)) | ((with_reducible (first | apply h_ne | apply hr_ne | apply w_ne | apply h_consn | apply w_st | apply w_fr)); (focus (exact rfl))) | (with_reducible (first | apply hr_vis | apply h_st | apply h_fr)))); done))) | ((with_reducible apply v_var); exact rfl) | ((with_reducible refine (e_glob _ _ _).trans ?_); (with_reducible assumption)) | (with_reducible (first | exact v_neg1 | apply v_cons | apply v_bin | exact b_add | exact b_sb | apply b_mod | apply b_div)) | ((with_reducible apply b_mulL); (focus decide)) | (with_reducible (first | apply b_mul | apply v_cmp | apply v_sub | apply v_sl | apply v_not | apply v_isi | apply v_blt | apply v_tup | apply v_lst | apply v_lcp | apply v_callE | apply v_call | apply v_bop1)) | ((with_reducible (first | apply v_and | apply v_or)); rotate_left; intro _; rotate_right) | (with_reducible apply v_map) | ((with_reducible (first | show cmpD _ _ _ = _ | show truth _ = _ | show isiD _ _ = _ | show frF _ _ = _ | show isCallE _ = _ | show bltD _ _ = _ | show lstD _ = _ | show subD _ _ = _)); exact rfl) | decide | exact Nat.le_of_ble_eq_true rfl)); done))))) | ((first | apply r_if | apply q_if | apply o_if); (((focus ((repeat' (first | (with_reducible (first | assumption | apply e_int | apply e_str | apply e_bool | apply e_none | apply es_nil)) | ((with_reducible apply v_var); (focus ((repeat' (first | (with_reducible (first | assumption | exact h_eq | exact hr_eq | exact w_eq | exact h_cons | apply h_own; assumption)) | ((with_reducible (first | apply h_ne | apply hr_ne | apply w_ne | apply h_consn | apply w_st | apply w_fr)); (focus (exact rfl))) | (with_reducible (first | apply hr_vis | apply h_st | apply h_fr)))); done))) | ((with_reducible apply v_var); exact rfl) | ((with_reducible refine (e_glob _ _ _).trans ?_); (with_reducible assumption)) | (with_reducible (first | exact v_neg1 | apply v_cons | apply v_bin | exact b_add | exact b_sb | apply b_mod | apply b_div)) | ((with_reducible apply b_mulL); (focus decide)) | (with_reducible (first | apply b_mul | apply v_cmp | apply v_sub | apply v_sl | apply v_not | apply v_isi | apply v_blt | apply v_tup | apply v_lst | apply v_lcp | apply v_callE | apply v_call | apply v_bop1)) | ((with_reducible (first | apply v_and | apply v_or)); rotate_left; intro _; rotate_right) | (with_reducible apply v_map) | ((with_reducible (first | show cmpD _ _ _ = _ | show truth _ = _ | show isiD _ _ = _ | show frF _ _ = _ | show isCallE _ = _ | show bltD _ _ = _ | show lstD _ = _ | show subD _ _ = _)); exact rfl) | decide | exact Nat.le_of_ble_eq_true rfl)); done)); (focus (exact rfl)); (focus (intro hh; first | exact no_tf hh (by assumption) | exact absurd hh (by decide) | skip)); rotate_left; (focus (intro hh; first | exact no_tf (by assumption) hh | exact absurd hh (by decide) | skip))))) | ((first | apply r_retv | apply q_retv); (focus (exact rfl))) | ((first | apply r_ret | apply q_ret | apply o_ret); (focus ((repeat' (first | (with_reducible (first | assumption | apply e_int | apply e_str | apply e_bool | apply e_none | apply es_nil)) | ((with_reducible apply v_var); (focus ((repeat' (first | (with_reducible (first | assumption | exact h_eq | exact hr_eq | exact w_eq | exact h_cons | apply h_own; assumption)) | ((with_reducible (first | apply h_ne | apply hr_ne | apply w_ne | apply h_consn | apply w_st | apply w_fr)); (focus (exact rfl))) | (with_reducible (first | apply hr_vis | apply h_st | apply h_fr)))); done))) | ((with_reducible apply v_var); exact rfl) | ((with_reducible refine (e_glob _ _ _).trans ?_); (with_reducible assumption)) | (with_reducible (first | exact v_neg1 | apply v_cons | apply v_bin | exact b_add | exact b_sb | apply b_mod | apply b_div)) | ((with_reducible apply b_mulL); (focus decide)) | (with_reducible (first | apply b_mul | apply v_cmp | apply v_sub | apply v_sl | apply v_not | apply v_isi | apply v_blt | apply v_tup | apply v_lst | apply v_lcp | apply v_callE | apply v_call | apply v_bop1)) | ((with_reducible (first | apply v_and | apply v_or)); rotate_left; intro _; rotate_right) | (with_reducible apply v_map) | ((with_reducible (first | show cmpD _ _ _ = _ | show truth _ = _ | show isiD _ _ = _ | show frF _ _ = _ | show isCallE _ = _ | show bltD _ _ = _ | show lstD _ = _ | show subD _ _ = _)); exact rfl) | decide | exact Nat.le_of_ble_eq_true rfl)); done)); (focus (exact rfl))) | apply o_nil))
theorem mixed (B : BG P) (n : Nat) (c k : Int) : ∃ r : Int, 0 ≤ r ∧ (callN P X (n + 1)).call "_law_mixed" [.int c, .int k] = some (.int r, false) := by
  have hp : -powLim < (c * 48271 + (k + 1) * 1299721) % 2147483647 ∧ (c * 48271 + (k + 1) * 1299721) % 2147483647 < powLim ∧ (0 : Int) ≤ 5 ∧ (5 : Int) ≤ 100 := by
    have h1 : (2147483647 : Int) < powLim := by decide +kernel
    generalize powLim = pl at *
    generalize c * 48271 + (k + 1) * 1299721 = z
    omega
  have q := b_pow hp
  refine ⟨((c * 48271 + (k + 1) * 1299721) % 2147483647) ^ (5 : Int).toNat % 2147483647, Int.emod_nonneg _ (by decide), run_call B.mixed rfl ?_⟩
  (repeat' (first | ((first | apply r_step | apply q_step | apply o_step); (focus ((first | ((with_reducible apply p_cell); (focus ((repeat' (first | (with_reducible (first | assumption | apply e_int | apply e_str | apply e_bool | apply e_none | apply es_nil)) | ((with_reducible apply v_var); (focus ((repeat' (first | (with_reducible (first | assumption | exact h_eq | exact hr_eq | exact w_eq | exact h_cons | apply h_own; assumption)) | ((with_reducible (first | apply h_ne | apply hr_ne | apply w_ne | apply h_consn | apply w_st | apply w_fr)); (focus (exact rfl))) | (with_reducible (first | apply hr_vis | apply h_st | apply h_fr)))); done))) | ((with_reducible apply v_var); exact rfl) | ((with_reducible refine (e_glob _ _ _).trans ?_); (with_reducible assumption)) | (with_reducible (first | exact v_neg1 | apply v_cons | apply v_bin | exact b_add | exact b_sb | apply b_mod | apply b_div)) | ((with_reducible apply b_mulL); (focus decide)) | (with_reducible (first | apply b_mul | apply v_cmp | apply v_sub | apply v_sl | apply v_not | apply v_isi | apply v_blt | apply v_tup | apply v_lst | apply v_lcp | apply v_callE | apply v_call | apply v_bop1)) | ((with_reducible (first | apply v_and | apply v_or)); rotate_left; intro _; rotate_right) | (with_reducible apply v_map) | ((with_reducible (first | show cmpD _ _ _ = _ | show truth _ = _ | show isiD _ _ = _ | show frF _ _ = _ | show isCallE _ = _ | show bltD _ _ = _ | show lstD _ = _ | show subD _ _ = _)); exact rfl) | decide | exact Nat.le_of_ble_eq_true rfl)); done)); (with_reducible assumption)) | ((with_reducible apply p_assign); (repeat' (first | (with_reducible (first | assumption | apply e_int | apply e_str | apply e_bool | apply e_none | apply es_nil)) | ((with_reducible apply v_var); (focus ((repeat' (first | (with_reducible (first | assumption | exact h_eq | exact hr_eq | exact w_eq | exact h_cons | apply h_own; assumption)) | ((with_reducible (first | apply h_ne | apply hr_ne | apply w_ne | apply h_consn | apply w_st | apply w_fr)); (focus (exact rfl))) | (with_reducible (first | apply hr_vis | apply h_st | apply h_fr)))); done))) | ((with_reducible apply v_var); exact rfl) | ((with_reducible refine (e_glob _ _ _).trans ?_); (with_reducible assumption)) | (with_reducible (first | exact v_neg1 | apply v_cons | apply v_bin | exact b_add | exact b_sb | apply b_mod | apply b_div)) | ((with_reducible apply b_mulL); (focus decide)) | (with_reducible (first | apply b_mul | apply v_cmp | apply v_sub | apply v_sl | apply v_not | apply v_isi | apply v_blt | apply v_tup | apply v_lst | apply v_lcp | apply v_callE | apply v_call | apply v_bop1)) | ((with_reducible (first | apply v_and | apply v_or)); rotate_left; intro _; rotate_right) | (with_reducible apply v_map) | ((with_reducible (first | show cmpD _ _ _ = _ | show truth _ = _ | show isiD _ _ = _ | show frF _ _ = _ | show isCallE _ = _ | show bltD _ _ = _ | show lstD _ = _ | show subD _ _ = _)); exact rfl) | decide | exact Nat.le_of_ble_eq_true rfl)); done))))) | ((first | apply r_if | apply q_if | apply o_if); (((focus ((repeat' (first | (with_reducible (first | assumption | apply e_int | apply e_str | apply e_bool | apply e_none | apply es_nil)) | ((with_reducible apply v_var); (focus ((repeat' (first | (with_reducible (first | assumption | exact h_eq | exact hr_eq | exact w_eq | exact h_cons | apply h_own; assumption)) | ((with_reducible (first | apply h_ne | apply hr_ne | apply w_ne | apply h_consn | apply w_st | apply w_fr)); (focus (exact rfl))) | (with_reducible (first | apply hr_vis | apply h_st | apply h_fr)))); done))) | ((with_reducible apply v_var); exact rfl) | ((with_reducible refine (e_glob _ _ _).trans ?_); (with_reducible assumption)) | (with_reducible (first | exact v_neg1 | apply v_cons | apply v_bin | exact b_add | exact b_sb | apply b_mod | apply b_div)) | ((with_reducible apply b_mulL); (focus decide)) | (with_reducible (first | apply b_mul | apply v_cmp | apply v_sub | apply v_sl | apply v_not | apply v_isi | apply v_blt | apply v_tup | apply v_lst | apply v_lcp | apply v_callE | apply v_call | apply v_bop1)) | ((with_reducible (first | apply v_and | apply v_or)); rotate_left; intro _; rotate_right) | (with_reducible apply v_map) | ((with_reducible (first | show cmpD _ _ _ = _ | show truth _ = _ | show isiD _ _ = _ | show frF _ _ = _ | show isCallE _ = _ | show bltD _ _ = _ | show lstD _ = _ | show subD _ _ = _)); exact rfl) | decide | exact Nat.le_of_ble_eq_true rfl)); done)); (focus (exact rfl)); (focus (intro hh; first | exact no_tf hh (by assumption) | exact absurd hh (by decide) | skip)); rotate_left; (focus (intro hh; first | exact no_tf (by assumption) hh | exact absurd hh (by decide) | skip))))) | ((first | apply r_retv | apply q_retv); (focus (exact rfl))) | ((first | apply r_ret | apply q_ret | apply o_ret); (focus ((repeat' (first | (with_reducible (first | assumption | apply e_int | apply e_str | apply e_bool | apply e_none | apply es_nil)) | ((with_reducible apply v_var); (focus ((repeat' (first | (with_reducible (first | assumption | exact h_eq | exact hr_eq | exact w_eq | exact h_cons | apply h_own; assumption)) | ((with_reducible (first | apply h_ne | apply hr_ne | apply w_ne | apply h_consn | apply w_st | apply w_fr)); (focus (exact rfl))) | (with_reducible (first | apply hr_vis | apply h_st | apply h_fr)))); done))) | ((with_reducible apply v_var); exact rfl) | ((with_reducible refine (e_glob _ _ _).trans ?_); (with_reducible assumption)) | (with_reducible (first | exact v_neg1 | apply v_cons | apply v_bin | exact b_add | exact b_sb | apply b_mod | apply b_div)) | ((with_reducible apply b_mulL); (focus decide)) | (with_reducible (first | apply b_mul | apply v_cmp | apply v_sub | apply v_sl | apply v_not | apply v_isi | apply v_blt | apply v_tup | apply v_lst | apply v_lcp | apply v_callE | apply v_call | apply v_bop1)) | ((with_reducible (first | apply v_and | apply v_or)); rotate_left; intro _; rotate_right) | (with_reducible apply v_map) | ((with_reducible (first | show cmpD _ _ _ = _ | show truth _ = _ | show isiD _ _ = _ | show frF _ _ = _ | show isCallE _ = _ | show bltD _ _ = _ | show lstD _ = _ | show subD _ _ = _)); exact rfl) | decide | exact Nat.le_of_ble_eq_true rfl)); done)); (focus (exact rfl))) | apply o_nil))
end
noncomputable def Good (d : D) : Prop := (∃ i : Int, d = .int i ∧ -(10 ^ 61) < i ∧ i < 10 ^ 61) ∨ ∃ x : Str, d = .str x ∧ x.length ≤ 200
theorem Good.cell {d : D} (h : Good d) : d.isCell = true := by rcases h with ⟨i, rfl, _⟩ | ⟨x, rfl, _⟩ <;> rfl

theorem len_append (x y : Str) : (x ++ y).length = x.length + y.length := by
  show (x.cps ++ y.cps).size = _
  simp [Str.length]
theorem mul_len {x : Str} (hx : x.length = 1) {n : Int} (h0 : 0 ≤ n) (h1 : n ≤ 100) : (Txt.mul x n).length ≤ 100 := by
  unfold Txt.mul
  split
  · decide
  · split
    · omega
    · show ((List.replicate n.toNat x.cps).foldl (· ++ ·) #[]).size ≤ 100
      have : ∀ (k : Nat) (a : Array Nat), ((List.replicate k x.cps).foldl (· ++ ·) a).size = a.size + k := by
        intro k
        induction k with
        | zero => intro a; simp
        | succ k ih =>
          intro a
          rw [List.replicate_succ, List.foldl_cons, ih]
          have : x.cps.size = 1 := hx
          simp; omega
      rw [this]; simp; omega

theorem slD_hi (x : Str) (j : Int) (h : x.length ≤ big) : ∃ W : Str, W.length ≤ x.length ∧ slD (.str x) .none (.int j) = some (.str W) := ⟨_, Txt.slice_le _ _ _, if_pos h⟩
theorem slD_lo (x : Str) (j : Int) (h : x.length ≤ big) : ∃ W : Str, W.length ≤ x.length ∧ slD (.str x) (.int j) .none = some (.str W) := ⟨_, Txt.slice_le _ _ _, if_pos h⟩
noncomputable def T60 : Int := 10 ^ 60
theorem list_pick {l : List D} (hn : 0 < l.length) (c : Int) {R : D → Prop} (h : ∀ d ∈ l, R d) : ∃ d, R d ∧ subD (.list l) (.int (c % (l.length : Int))) = some d := by
  obtain ⟨m, e, hm⟩ := emod_nat c hn
  rw [e]
  exact ⟨l[m], h _ (List.getElem_mem hm), sub_l hm (List.getElem?_eq_getElem hm)⟩
theorem thing_by {P : List (String × Fn)} {X : CF} (B : BG P) (n : Nat) (c : Int) : ∃ d, Good d ∧ (callN P X (n + 2)).call "_law_thing_by" [.int c] = some (d, false) := by
  obtain ⟨x, hx, hs⟩ := sign_by (X := X) B n (c / 9)
  obtain ⟨x', hx', hs'⟩ := sign_by (X := X) B n (c / 9 / 81)
  obtain ⟨y, ⟨y', rfl, hy⟩, q5⟩ := list_pick (l := [.str (Str.ofString "a"), .str (Str.ofString "b"), .str (Str.ofString "1"), .str (Str.ofString "0"), .str (Str.ofString "-1"), .str (Str.ofString "col"), .str (Str.ofString "is"), .str (Str.ofString "count")]) (by decide) (c / 9) (R := fun d => ∃ x : Str, d = .str x ∧ x.length ≤ 200) (by
    intro d hd
    simp only [List.mem_cons, List.not_mem_nil, or_false] at hd
    rcases hd with rfl | rfl | rfl | rfl | rfl | rfl | rfl | rfl <;> exact ⟨_, rfl, by decide +kernel⟩)
  have q5' : subD (.list [.str (Str.ofString "a"), .str (Str.ofString "b"), .str (Str.ofString "1"), .str (Str.ofString "0"), .str (Str.ofString "-1"), .str (Str.ofString "col"), .str (Str.ofString "is"), .str (Str.ofString "count")]) (.int (c / 9 % 8)) = some (.str y') := q5
  have hm : 0 ≤ c / 9 / 94 % 100 ∧ c / 9 / 94 % 100 ≤ 100 := by omega
  have q6 := bin_sm (u := x) (k := c / 9 / 94 % 100) ⟨hm.1, Int.le_trans hm.2 (by decide), by rw [hx]; decide⟩
  have p1 : binD .Pow (.int 10) (.int 60) = some (.int T60) := b_pow (i := 10) (j := 60) (by decide +kernel)
  have t0 : 0 < T60 := by decide +kernel
  have hz : 0 ≤ c / 9 % T60 ∧ c / 9 % T60 < T60 := ⟨Int.emod_nonneg _ (by decide +kernel), Int.emod_lt_of_pos _ t0⟩
  have p2 : binD .Pow (.int (c / 9 % T60 + 3)) (.int 9) = some (.int ((c / 9 % T60 + 3) ^ (9 : Int).toNat)) := b_pow (by
    have h2 : T60 + 3 < powLim := by decide +kernel
    generalize powLim = pl at *
    omega)
  have p3 : binD .Mult (.int 2) (.int T60) = some (.int (2 * T60)) := b_mulL (by decide)
  have t1 : 0 < 2 * T60 - 1 := by omega
  obtain ⟨W, hW, w1⟩ := slD_hi (Str.ofString "any word") (c / 9 % 9) (by decide +kernel)
  have hW8 : W.length ≤ 8 := Nat.le_trans hW (by decide +kernel)
  have hWb : W.length ≤ big := Nat.le_trans hW8 (by decide)
  have w2 := len_s hWb
  have w3 : (0 : Int) < (W.length : Int) + 1 := by omega
  obtain ⟨U, hU, w4⟩ := slD_hi W (c / 9 / 9 % ((W.length : Int) + 1)) hWb
  obtain ⟨V, hV, w5⟩ := slD_lo W (c / 9 / 9 % ((W.length : Int) + 1)) hWb
  have hb0 : (16 : Nat) + 1 ≤ big := by decide
  have w6 := bin_ss (u := U) (v := x') (by omega)
  have w7 := bin_ss (u := U ++ x') (v := V) (by rw [len_append]; omega)
  have g1 : -(10 : Int) ^ 61 < c / 9 % 4 - 1 ∧ c / 9 % 4 - 1 < 10 ^ 61 := by omega
  have g2 : -(10 : Int) ^ 61 < c / 9 % 2000001 - 1000000 ∧ c / 9 % 2000001 - 1000000 < 10 ^ 61 := by omega
  have g3 : -(10 : Int) ^ 61 < (c / 9 % T60 + 3) ^ (9 : Int).toNat % (2 * T60 - 1) - T60 + 1 ∧ (c / 9 % T60 + 3) ^ (9 : Int).toNat % (2 * T60 - 1) - T60 + 1 < 10 ^ 61 := by
    have h1 := Int.emod_nonneg ((c / 9 % T60 + 3) ^ (9 : Int).toNat) (b := 2 * T60 - 1) (by omega)
    have h2 := Int.emod_lt_of_pos ((c / 9 % T60 + 3) ^ (9 : Int).toNat) t1
    generalize (c / 9 % T60 + 3) ^ (9 : Int).toNat % (2 * T60 - 1) = v at *
    have e2 : (10 : Int) ^ 61 = 10 * T60 := by decide +kernel
    rw [e2]
    generalize T60 = tt at *
    omega
  have g4 : (U ++ x' ++ V).length ≤ 200 := by rw [len_append, len_append]; omega
  have g5 := Nat.le_trans (mul_len hx hm.1 hm.2) (show 100 ≤ 200 by decide)
  have key : Rex (callN P X (n + 1)) fn_law_thing_by.body [("_law_cell", (false, .int c))] fun d fr => Good d ∧ fr = false := by
    clear hm hz hW hW8 hWb hU hV hb0 hx hx' q5
    (repeat' (first | ((first | apply r_step | apply q_step | apply o_step); (focus ((first | ((with_reducible apply p_cell); (focus ((repeat' (first | (with_reducible (first | assumption | apply e_int | apply e_str | apply e_bool | apply e_none | apply es_nil)) | ((with_reducible apply v_var); (focus ((repeat' (first | (with_reducible (first | assumption | exact h_eq | exact hr_eq | exact w_eq | exact h_cons | apply h_own; assumption)) | ((with_reducible (first | apply h_ne | apply hr_ne | apply w_ne | apply h_consn | apply w_st | apply w_fr)); (focus (exact rfl))) | (with_reducible (first | apply hr_vis | apply h_st | apply h_fr)))); done))) | ((with_reducible apply v_var); exact rfl) | ((with_reducible refine (e_glob _ _ _).trans ?_); (with_reducible assumption)) | (with_reducible (first | exact v_neg1 | apply v_cons | apply v_bin | exact b_add | exact b_sb | apply b_mod | apply b_div)) | ((with_reducible apply b_mulL); (focus decide)) | (with_reducible (first | apply b_mul | apply v_cmp | apply v_sub | apply v_sl | apply v_not | apply v_isi | apply v_blt | apply v_tup | apply v_lst | apply v_lcp | apply v_callE | apply v_call | apply v_bop1)) | ((with_reducible (first | apply v_and | apply v_or)); rotate_left; intro _; rotate_right) | (with_reducible apply v_map) | ((with_reducible (first | show cmpD _ _ _ = _ | show truth _ = _ | show isiD _ _ = _ | show frF _ _ = _ | show isCallE _ = _ | show bltD _ _ = _ | show lstD _ = _ | show subD _ _ = _)); exact rfl) | decide | exact Nat.le_of_ble_eq_true rfl)); done)); (with_reducible assumption)) | ((with_reducible apply p_assign); (repeat' (first | (with_reducible (first | assumption | apply e_int | apply e_str | apply e_bool | apply e_none | apply es_nil)) | ((with_reducible apply v_var); (focus ((repeat' (first | (with_reducible (first | assumption | exact h_eq | exact hr_eq | exact w_eq | exact h_cons | apply h_own; assumption)) | ((with_reducible (first | apply h_ne | apply hr_ne | apply w_ne | apply h_consn | apply w_st | apply w_fr)); (focus (exact rfl))) | (with_reducible (first | apply hr_vis | apply h_st | apply h_fr)))); done))) | ((with_reducible apply v_var); exact rfl) | ((with_reducible refine (e_glob _ _ _).trans ?_); (with_reducible assumption)) | (with_reducible (first | exact v_neg1 | apply v_cons | apply v_bin | exact b_add | exact b_sb | apply b_mod | apply b_div)) | ((with_reducible apply b_mulL); (focus decide)) | (with_reducible (first | apply b_mul | apply v_cmp | apply v_sub | apply v_sl | apply v_not | apply v_isi | apply v_blt | apply v_tup | apply v_lst | apply v_lcp | apply v_callE | apply v_call | apply v_bop1)) | ((with_reducible (first | apply v_and | apply v_or)); rotate_left; intro _; rotate_right) | (with_reducible apply v_map) | ((with_reducible (first | show cmpD _ _ _ = _ | show truth _ = _ | show isiD _ _ = _ | show frF _ _ = _ | show isCallE _ = _ | show bltD _ _ = _ | show lstD _ = _ | show subD _ _ = _)); exact rfl) | decide | exact Nat.le_of_ble_eq_true rfl)); done))))) | ((first | apply r_if | apply q_if | apply o_if); (((focus ((repeat' (first | (with_reducible (first | assumption | apply e_int | apply e_str | apply e_bool | apply e_none | apply es_nil)) | ((with_reducible apply v_var); (focus ((repeat' (first | (with_reducible (first | assumption | exact h_eq | exact hr_eq | exact w_eq | exact h_cons | apply h_own; assumption)) | ((with_reducible (first | apply h_ne | apply hr_ne | apply w_ne | apply h_consn | apply w_st | apply w_fr)); (focus (exact rfl))) | (with_reducible (first | apply hr_vis | apply h_st | apply h_fr)))); done))) | ((with_reducible apply v_var); exact rfl) | ((with_reducible refine (e_glob _ _ _).trans ?_); (with_reducible assumption)) | (with_reducible (first | exact v_neg1 | apply v_cons | apply v_bin | exact b_add | exact b_sb | apply b_mod | apply b_div)) | ((with_reducible apply b_mulL); (focus decide)) | (with_reducible (first | apply b_mul | apply v_cmp | apply v_sub | apply v_sl | apply v_not | apply v_isi | apply v_blt | apply v_tup | apply v_lst | apply v_lcp | apply v_callE | apply v_call | apply v_bop1)) | ((with_reducible (first | apply v_and | apply v_or)); rotate_left; intro _; rotate_right) | (with_reducible apply v_map) | ((with_reducible (first | show cmpD _ _ _ = _ | show truth _ = _ | show isiD _ _ = _ | show frF _ _ = _ | show isCallE _ = _ | show bltD _ _ = _ | show lstD _ = _ | show subD _ _ = _)); exact rfl) | decide | exact Nat.le_of_ble_eq_true rfl)); done)); (focus (exact rfl)); (focus (intro hh; first | exact no_tf hh (by assumption) | exact absurd hh (by decide) | skip)); rotate_left; (focus (intro hh; first | exact no_tf (by assumption) hh | exact absurd hh (by decide) | skip))))) | ((first | apply r_retv | apply q_retv); (focus (exact rfl))) | ((first | apply r_ret | apply q_ret | apply o_ret); (focus ((repeat' (first | (with_reducible (first | assumption | apply e_int | apply e_str | apply e_bool | apply e_none | apply es_nil)) | ((with_reducible apply v_var); (focus ((repeat' (first | (with_reducible (first | assumption | exact h_eq | exact hr_eq | exact w_eq | exact h_cons | apply h_own; assumption)) | ((with_reducible (first | apply h_ne | apply hr_ne | apply w_ne | apply h_consn | apply w_st | apply w_fr)); (focus (exact rfl))) | (with_reducible (first | apply hr_vis | apply h_st | apply h_fr)))); done))) | ((with_reducible apply v_var); exact rfl) | ((with_reducible refine (e_glob _ _ _).trans ?_); (with_reducible assumption)) | (with_reducible (first | exact v_neg1 | apply v_cons | apply v_bin | exact b_add | exact b_sb | apply b_mod | apply b_div)) | ((with_reducible apply b_mulL); (focus decide)) | (with_reducible (first | apply b_mul | apply v_cmp | apply v_sub | apply v_sl | apply v_not | apply v_isi | apply v_blt | apply v_tup | apply v_lst | apply v_lcp | apply v_callE | apply v_call | apply v_bop1)) | ((with_reducible (first | apply v_and | apply v_or)); rotate_left; intro _; rotate_right) | (with_reducible apply v_map) | ((with_reducible (first | show cmpD _ _ _ = _ | show truth _ = _ | show isiD _ _ = _ | show frF _ _ = _ | show isCallE _ = _ | show bltD _ _ = _ | show lstD _ = _ | show subD _ _ = _)); exact rfl) | decide | exact Nat.le_of_ble_eq_true rfl)); done)); (focus (exact rfl))) | apply o_nil))
    all_goals first
      | exact ⟨.inl ⟨_, rfl, g1⟩, rfl⟩
      | exact ⟨.inl ⟨_, rfl, g2⟩, rfl⟩
      | exact ⟨.inr ⟨_, rfl, hy⟩, rfl⟩
      | exact ⟨.inr ⟨_, rfl, g5⟩, rfl⟩
      | exact ⟨.inl ⟨_, rfl, g3⟩, rfl⟩
      | exact ⟨.inr ⟨_, rfl, g4⟩, rfl⟩
  obtain ⟨d, fr, ⟨hd, rfl⟩, hr⟩ := rex_call (X := X) (n := n + 1) (args := [.int c]) B.thing rfl key
  exact ⟨d, hd, hr⟩
theorem r_norm {cf : CF} {r : List MS} {σ σ' : St} {d : D} {fr : Bool} (h : σ = σ') (k : Run cf r σ' d fr) : Run cf r σ d fr := h ▸ k

set_option maxRecDepth 100000
set_option maxHeartbeats 400000
noncomputable def fn_law_one_by : Fn := ⟨["_law_cell", "_law_many_here"], [
    .assign "_law_word" (.sub (.lst [.str "same", .str "unlike", .str "before", .str "upto", .str "behind", .str "from", .str "unlike", .str "upto", .str "from"]) (.bin .Mod (.var "_law_cell") (.int 9))),
    .assign "_law_place" (.bin .Mod (.bin .FloorDiv (.var "_law_cell") (.int 9)) (.var "_law_many_here")),
    .assign "_law_rest" (.bin .FloorDiv (.bin .FloorDiv (.var "_law_cell") (.int 9)) (.var "_law_many_here")),
    .ite (.cmp .Eq (.bin .Mod (.var "_law_rest") (.int 2)) (.int 0)) [.ret (.tup [.var "_law_word", .var "_law_place", .str "col", .bin .Mod (.bin .FloorDiv (.var "_law_rest") (.int 2)) (.var "_law_many_here")])] [],
    .ret (.tup [.var "_law_word", .var "_law_place", .str "is", .call "_law_thing_by" [.bin .FloorDiv (.var "_law_rest") (.int 2)]])]⟩
noncomputable def fn_law_clause_by : Fn := ⟨["_law_cell", "_law_many_here"], [
    .ite (.bop .Or [.cmp .Eq (.var "_law_many_here") (.int 0), .cmp .Eq (.bin .Mod (.var "_law_cell") (.int 32)) (.int 15)]) [.ret (.tup [])] [],
    .ite (.cmp .Eq (.bin .Mod (.var "_law_cell") (.int 16)) (.int 14)) [.ret (.tup [.tup [.str "same", .bin .Sub (.var "_law_many_here") (.int 1), .str "col", .int 0]])] [],
    .ite (.cmp .Eq (.bin .Mod (.var "_law_cell") (.int 16)) (.int 13)) [.ret (.tup [.tup [.str "same", .int 0, .str "col", .bin .Sub (.var "_law_many_here") (.int 1)]])] [],
    .assign "_law_count" (.bin .Add (.int 1) (.bin .Mod (.bin .FloorDiv (.var "_law_cell") (.int 16)) (.int 2))),
    .ite (.cmp .Eq (.bin .Mod (.bin .FloorDiv (.var "_law_cell") (.int 32)) (.int 11)) (.int 1)) [.assign "_law_count" (.bin .Mod (.bin .FloorDiv (.var "_law_cell") (.int 352)) (.int 13))] [],
    .ret (.blt "tuple" [.comp (.call "_law_one_by" [.call "_law_mixed" [.var "_law_cell", .bin .Add (.int 40) (.var "_law_k")], .var "_law_many_here"]) "_law_k" (.blt "range" [.var "_law_count"]) []])]⟩
structure BD (P : List (String × Fn)) : Prop extends BG P where
  one : P.lookup "_law_one_by" = some fn_law_one_by
  clause : P.lookup "_law_clause_by" = some fn_law_clause_by
noncomputable def words : List String := ["same", "unlike", "before", "upto", "behind", "from"]
noncomputable def tst (w : String) (p : Nat) (kd : String) (o : D) : D := .tup [.str (Str.ofString w), .int p, .str (Str.ofString kd), o]
/-- a test on a row of m cells -/
noncomputable def Tst (m : Nat) (d : D) : Prop := ∃ w p, w ∈ words ∧ p < m ∧ ((∃ q : Nat, q < m ∧ d = tst w p "col" (.int q)) ∨ ∃ o, Good o ∧ d = tst w p "is" o)
theorem word_at (c : Int) : ∃ w, w ∈ words ∧ subD (.list [.str (Str.ofString "same"), .str (Str.ofString "unlike"), .str (Str.ofString "before"), .str (Str.ofString "upto"), .str (Str.ofString "behind"), .str (Str.ofString "from"), .str (Str.ofString "unlike"), .str (Str.ofString "upto"), .str (Str.ofString "from")]) (.int (c % 9)) = some (.str (Str.ofString w)) := by
  obtain ⟨d, ⟨w, rfl, hw⟩, h⟩ := list_pick (l := ["same", "unlike", "before", "upto", "behind", "from", "unlike", "upto", "from"].map fun s => D.str (Str.ofString s)) (by decide) c (R := fun d => ∃ w, d = .str (Str.ofString w) ∧ w ∈ words) (by
    intro d hd
    obtain ⟨w, hw, rfl⟩ := List.mem_map.mp hd
    exact ⟨w, rfl, (by decide : ∀ w ∈ ["same", "unlike", "before", "upto", "behind", "from", "unlike", "upto", "from"], w ∈ words) w hw⟩)
  exact ⟨w, hw, h⟩
section
variable {P : List (String × Fn)} {X : CF}
theorem one_by (B : BD P) (n : Nat) (c : Int) (m : Nat) (h0 : 0 < m) (h1 : m ≤ 1000) : ∃ d, Tst m d ∧ (callN P X (n + 3)).call "_law_one_by" [.int c, .int m] = some (d, false) := by
  obtain ⟨w, hw, q1⟩ := word_at c
  have q2 : (0 : Int) < (m : Int) ∧ (m : Int) < lim := by unfold lim; omega
  have q3 := q2.1
  obtain ⟨p, hp, hpm⟩ := emod_nat (c / 9) h0
  obtain ⟨q, hq, hqm⟩ := emod_nat (c / 9 / m / 2) h0
  obtain ⟨d, gd, hd⟩ := thing_by (X := X) B.toBG n (c / 9 / m / 2)
  have key : Rex (callN P X (n + 2)) fn_law_one_by.body [("_law_cell", (false, .int c)), ("_law_many_here", (false, .int m))] fun d fr => Tst m d ∧ fr = false := by
    (repeat' (first | (apply q_step; (focus (first | ((with_reducible apply p_cell); (focus ((repeat' (first | (with_reducible assumption) | (with_reducible exact e_int _ _ _) | (with_reducible exact e_str _ _ _) | (with_reducible exact e_bool _ _ _) | (with_reducible exact e_none _ _) | (with_reducible exact es_nil _ _) | ((with_reducible refine (e_var _ _ _).trans ?_); exact rfl) | (with_reducible apply v_cons) | (with_reducible apply v_bin) | (with_reducible exact b_add) | (with_reducible exact b_sb) | (with_reducible apply b_mod) | (with_reducible apply b_div) | ((with_reducible apply b_mulL); (focus decide)) | (with_reducible apply b_mul) | (with_reducible apply v_cmp) | (with_reducible apply v_sub) | (with_reducible apply v_sl) | (with_reducible apply v_not) | (with_reducible apply v_isi) | (with_reducible apply v_blt) | (with_reducible apply v_tup) | (with_reducible apply v_lst) | (with_reducible apply v_lcp) | (with_reducible apply v_callE) | (with_reducible apply v_call) | (with_reducible apply v_bop1) | ((with_reducible apply v_and); rotate_left; intro _; rotate_right) | ((with_reducible apply v_or); rotate_left; intro _; rotate_right) | (with_reducible apply v_map) | ((with_reducible show cmpD _ _ _ = _); exact rfl) | ((with_reducible show truth _ = _); exact rfl) | ((with_reducible show isiD _ _ = _); exact rfl) | ((with_reducible show frF _ _ = _); exact rfl) | ((with_reducible show isCallE _ = _); exact rfl) | ((with_reducible show bltD _ _ = _); exact rfl) | ((with_reducible show lstD _ = _); exact rfl) | ((with_reducible show subD _ _ = _); exact rfl) | decide | exact Nat.le_of_ble_eq_true rfl)); done)); (with_reducible assumption)) | ((with_reducible apply p_assign); (repeat' (first | (with_reducible assumption) | (with_reducible exact e_int _ _ _) | (with_reducible exact e_str _ _ _) | (with_reducible exact e_bool _ _ _) | (with_reducible exact e_none _ _) | (with_reducible exact es_nil _ _) | ((with_reducible refine (e_var _ _ _).trans ?_); exact rfl) | (with_reducible apply v_cons) | (with_reducible apply v_bin) | (with_reducible exact b_add) | (with_reducible exact b_sb) | (with_reducible apply b_mod) | (with_reducible apply b_div) | ((with_reducible apply b_mulL); (focus decide)) | (with_reducible apply b_mul) | (with_reducible apply v_cmp) | (with_reducible apply v_sub) | (with_reducible apply v_sl) | (with_reducible apply v_not) | (with_reducible apply v_isi) | (with_reducible apply v_blt) | (with_reducible apply v_tup) | (with_reducible apply v_lst) | (with_reducible apply v_lcp) | (with_reducible apply v_callE) | (with_reducible apply v_call) | (with_reducible apply v_bop1) | ((with_reducible apply v_and); rotate_left; intro _; rotate_right) | ((with_reducible apply v_or); rotate_left; intro _; rotate_right) | (with_reducible apply v_map) | ((with_reducible show cmpD _ _ _ = _); exact rfl) | ((with_reducible show truth _ = _); exact rfl) | ((with_reducible show isiD _ _ = _); exact rfl) | ((with_reducible show frF _ _ = _); exact rfl) | ((with_reducible show isCallE _ = _); exact rfl) | ((with_reducible show bltD _ _ = _); exact rfl) | ((with_reducible show lstD _ = _); exact rfl) | ((with_reducible show subD _ _ = _); exact rfl) | decide | exact Nat.le_of_ble_eq_true rfl)); done)))) | (apply q_if; (focus ((repeat' (first | (with_reducible assumption) | (with_reducible exact e_int _ _ _) | (with_reducible exact e_str _ _ _) | (with_reducible exact e_bool _ _ _) | (with_reducible exact e_none _ _) | (with_reducible exact es_nil _ _) | ((with_reducible refine (e_var _ _ _).trans ?_); exact rfl) | (with_reducible apply v_cons) | (with_reducible apply v_bin) | (with_reducible exact b_add) | (with_reducible exact b_sb) | (with_reducible apply b_mod) | (with_reducible apply b_div) | ((with_reducible apply b_mulL); (focus decide)) | (with_reducible apply b_mul) | (with_reducible apply v_cmp) | (with_reducible apply v_sub) | (with_reducible apply v_sl) | (with_reducible apply v_not) | (with_reducible apply v_isi) | (with_reducible apply v_blt) | (with_reducible apply v_tup) | (with_reducible apply v_lst) | (with_reducible apply v_lcp) | (with_reducible apply v_callE) | (with_reducible apply v_call) | (with_reducible apply v_bop1) | ((with_reducible apply v_and); rotate_left; intro _; rotate_right) | ((with_reducible apply v_or); rotate_left; intro _; rotate_right) | (with_reducible apply v_map) | ((with_reducible show cmpD _ _ _ = _); exact rfl) | ((with_reducible show truth _ = _); exact rfl) | ((with_reducible show isiD _ _ = _); exact rfl) | ((with_reducible show frF _ _ = _); exact rfl) | ((with_reducible show isCallE _ = _); exact rfl) | ((with_reducible show bltD _ _ = _); exact rfl) | ((with_reducible show lstD _ = _); exact rfl) | ((with_reducible show subD _ _ = _); exact rfl) | decide | exact Nat.le_of_ble_eq_true rfl)); done)); (focus (exact rfl)); (focus (intro hh; first | exact no_tf hh (by assumption) | exact absurd hh (by decide) | skip)); rotate_left; (focus (intro hh; first | exact no_tf (by assumption) hh | exact absurd hh (by decide) | skip))) | (apply q_retv; (focus (exact rfl))) | (apply q_ret; (focus ((repeat' (first | (with_reducible assumption) | (with_reducible exact e_int _ _ _) | (with_reducible exact e_str _ _ _) | (with_reducible exact e_bool _ _ _) | (with_reducible exact e_none _ _) | (with_reducible exact es_nil _ _) | ((with_reducible refine (e_var _ _ _).trans ?_); exact rfl) | (with_reducible apply v_cons) | (with_reducible apply v_bin) | (with_reducible exact b_add) | (with_reducible exact b_sb) | (with_reducible apply b_mod) | (with_reducible apply b_div) | ((with_reducible apply b_mulL); (focus decide)) | (with_reducible apply b_mul) | (with_reducible apply v_cmp) | (with_reducible apply v_sub) | (with_reducible apply v_sl) | (with_reducible apply v_not) | (with_reducible apply v_isi) | (with_reducible apply v_blt) | (with_reducible apply v_tup) | (with_reducible apply v_lst) | (with_reducible apply v_lcp) | (with_reducible apply v_callE) | (with_reducible apply v_call) | (with_reducible apply v_bop1) | ((with_reducible apply v_and); rotate_left; intro _; rotate_right) | ((with_reducible apply v_or); rotate_left; intro _; rotate_right) | (with_reducible apply v_map) | ((with_reducible show cmpD _ _ _ = _); exact rfl) | ((with_reducible show truth _ = _); exact rfl) | ((with_reducible show isiD _ _ = _); exact rfl) | ((with_reducible show frF _ _ = _); exact rfl) | ((with_reducible show isCallE _ = _); exact rfl) | ((with_reducible show bltD _ _ = _); exact rfl) | ((with_reducible show lstD _ = _); exact rfl) | ((with_reducible show subD _ _ = _); exact rfl) | decide | exact Nat.le_of_ble_eq_true rfl)); done)); (focus (exact rfl)))))
    all_goals first
      | exact ⟨⟨w, p, hw, hpm, .inl ⟨q, hqm, by rw [hp, hq]; rfl⟩⟩, rfl⟩
      | exact ⟨⟨w, p, hw, hpm, .inr ⟨d, gd, by rw [hp]; rfl⟩⟩, rfl⟩
  obtain ⟨d, fr, ⟨hd, rfl⟩, hr⟩ := rex_call (X := X) (n := n + 2) (args := [.int c, .int m]) B.one rfl key
  exact ⟨d, hd, hr⟩
/-- a tuple of tests -/
noncomputable def Cls (m : Nat) (d : D) : Prop := ∃ ts, d = .tup ts ∧ (∀ t ∈ ts, Tst m t) ∧ ts.length ≤ 31
theorem clause_by (B : BD P) (n : Nat) (c : Int) (m : Nat) (h1 : m ≤ 1000) : ∃ d, Cls m d ∧ (callN P X (n + 4)).call "_law_clause_by" [.int c, .int m] = some (d, false) := by
  have key : Rex (callN P X (n + 3)) fn_law_clause_by.body [("_law_cell", (false, .int c)), ("_law_many_here", (false, .int m))] fun d fr => Cls m d ∧ fr = false := by
    have nilok : Cls m (.tup []) := ⟨[], rfl, (fun _ h => nomatch h), Nat.zero_le _⟩
    by_cases hm : m = 0
    · subst hm
      have hz : (((0 : Nat) : Int) == 0 || c % 32 == 15) = true := rfl
      (repeat' (first | (apply q_step; (focus (first | ((with_reducible apply p_cell); (focus ((repeat' (first | (with_reducible assumption) | (with_reducible exact e_int _ _ _) | (with_reducible exact e_str _ _ _) | (with_reducible exact e_bool _ _ _) | (with_reducible exact e_none _ _) | (with_reducible exact es_nil _ _) | ((with_reducible refine (e_var _ _ _).trans ?_); exact rfl) | (with_reducible apply v_cons) | (with_reducible apply v_bin) | (with_reducible exact b_add) | (with_reducible exact b_sb) | (with_reducible apply b_mod) | (with_reducible apply b_div) | ((with_reducible apply b_mulL); (focus decide)) | (with_reducible apply b_mul) | (with_reducible apply v_cmp) | (with_reducible apply v_sub) | (with_reducible apply v_sl) | (with_reducible apply v_not) | (with_reducible apply v_isi) | (with_reducible apply v_blt) | (with_reducible apply v_tup) | (with_reducible apply v_lst) | (with_reducible apply v_lcp) | (with_reducible apply v_callE) | (with_reducible apply v_call) | (with_reducible apply v_bop1) | ((with_reducible apply v_and); rotate_left; intro _; rotate_right) | ((with_reducible apply v_or); rotate_left; intro _; rotate_right) | (with_reducible apply v_map) | ((with_reducible show cmpD _ _ _ = _); exact rfl) | ((with_reducible show truth _ = _); exact rfl) | ((with_reducible show isiD _ _ = _); exact rfl) | ((with_reducible show frF _ _ = _); exact rfl) | ((with_reducible show isCallE _ = _); exact rfl) | ((with_reducible show bltD _ _ = _); exact rfl) | ((with_reducible show lstD _ = _); exact rfl) | ((with_reducible show subD _ _ = _); exact rfl) | decide | exact Nat.le_of_ble_eq_true rfl)); done)); (with_reducible assumption)) | ((with_reducible apply p_assign); (repeat' (first | (with_reducible assumption) | (with_reducible exact e_int _ _ _) | (with_reducible exact e_str _ _ _) | (with_reducible exact e_bool _ _ _) | (with_reducible exact e_none _ _) | (with_reducible exact es_nil _ _) | ((with_reducible refine (e_var _ _ _).trans ?_); exact rfl) | (with_reducible apply v_cons) | (with_reducible apply v_bin) | (with_reducible exact b_add) | (with_reducible exact b_sb) | (with_reducible apply b_mod) | (with_reducible apply b_div) | ((with_reducible apply b_mulL); (focus decide)) | (with_reducible apply b_mul) | (with_reducible apply v_cmp) | (with_reducible apply v_sub) | (with_reducible apply v_sl) | (with_reducible apply v_not) | (with_reducible apply v_isi) | (with_reducible apply v_blt) | (with_reducible apply v_tup) | (with_reducible apply v_lst) | (with_reducible apply v_lcp) | (with_reducible apply v_callE) | (with_reducible apply v_call) | (with_reducible apply v_bop1) | ((with_reducible apply v_and); rotate_left; intro _; rotate_right) | ((with_reducible apply v_or); rotate_left; intro _; rotate_right) | (with_reducible apply v_map) | ((with_reducible show cmpD _ _ _ = _); exact rfl) | ((with_reducible show truth _ = _); exact rfl) | ((with_reducible show isiD _ _ = _); exact rfl) | ((with_reducible show frF _ _ = _); exact rfl) | ((with_reducible show isCallE _ = _); exact rfl) | ((with_reducible show bltD _ _ = _); exact rfl) | ((with_reducible show lstD _ = _); exact rfl) | ((with_reducible show subD _ _ = _); exact rfl) | decide | exact Nat.le_of_ble_eq_true rfl)); done)))) | (apply q_if; (focus ((repeat' (first | (with_reducible assumption) | (with_reducible exact e_int _ _ _) | (with_reducible exact e_str _ _ _) | (with_reducible exact e_bool _ _ _) | (with_reducible exact e_none _ _) | (with_reducible exact es_nil _ _) | ((with_reducible refine (e_var _ _ _).trans ?_); exact rfl) | (with_reducible apply v_cons) | (with_reducible apply v_bin) | (with_reducible exact b_add) | (with_reducible exact b_sb) | (with_reducible apply b_mod) | (with_reducible apply b_div) | ((with_reducible apply b_mulL); (focus decide)) | (with_reducible apply b_mul) | (with_reducible apply v_cmp) | (with_reducible apply v_sub) | (with_reducible apply v_sl) | (with_reducible apply v_not) | (with_reducible apply v_isi) | (with_reducible apply v_blt) | (with_reducible apply v_tup) | (with_reducible apply v_lst) | (with_reducible apply v_lcp) | (with_reducible apply v_callE) | (with_reducible apply v_call) | (with_reducible apply v_bop1) | ((with_reducible apply v_and); rotate_left; intro _; rotate_right) | ((with_reducible apply v_or); rotate_left; intro _; rotate_right) | (with_reducible apply v_map) | ((with_reducible show cmpD _ _ _ = _); exact rfl) | ((with_reducible show truth _ = _); exact rfl) | ((with_reducible show isiD _ _ = _); exact rfl) | ((with_reducible show frF _ _ = _); exact rfl) | ((with_reducible show isCallE _ = _); exact rfl) | ((with_reducible show bltD _ _ = _); exact rfl) | ((with_reducible show lstD _ = _); exact rfl) | ((with_reducible show subD _ _ = _); exact rfl) | decide | exact Nat.le_of_ble_eq_true rfl)); done)); (focus (exact rfl)); (focus (intro hh; first | exact no_tf hh (by assumption) | exact absurd hh (by decide) | skip)); rotate_left; (focus (intro hh; first | exact no_tf (by assumption) hh | exact absurd hh (by decide) | skip))) | (apply q_retv; (focus (exact rfl))) | (apply q_ret; (focus ((repeat' (first | (with_reducible assumption) | (with_reducible exact e_int _ _ _) | (with_reducible exact e_str _ _ _) | (with_reducible exact e_bool _ _ _) | (with_reducible exact e_none _ _) | (with_reducible exact es_nil _ _) | ((with_reducible refine (e_var _ _ _).trans ?_); exact rfl) | (with_reducible apply v_cons) | (with_reducible apply v_bin) | (with_reducible exact b_add) | (with_reducible exact b_sb) | (with_reducible apply b_mod) | (with_reducible apply b_div) | ((with_reducible apply b_mulL); (focus decide)) | (with_reducible apply b_mul) | (with_reducible apply v_cmp) | (with_reducible apply v_sub) | (with_reducible apply v_sl) | (with_reducible apply v_not) | (with_reducible apply v_isi) | (with_reducible apply v_blt) | (with_reducible apply v_tup) | (with_reducible apply v_lst) | (with_reducible apply v_lcp) | (with_reducible apply v_callE) | (with_reducible apply v_call) | (with_reducible apply v_bop1) | ((with_reducible apply v_and); rotate_left; intro _; rotate_right) | ((with_reducible apply v_or); rotate_left; intro _; rotate_right) | (with_reducible apply v_map) | ((with_reducible show cmpD _ _ _ = _); exact rfl) | ((with_reducible show truth _ = _); exact rfl) | ((with_reducible show isiD _ _ = _); exact rfl) | ((with_reducible show frF _ _ = _); exact rfl) | ((with_reducible show isCallE _ = _); exact rfl) | ((with_reducible show bltD _ _ = _); exact rfl) | ((with_reducible show lstD _ = _); exact rfl) | ((with_reducible show subD _ _ = _); exact rfl) | decide | exact Nat.le_of_ble_eq_true rfl)); done)); (focus (exact rfl)))))
      exact ⟨nilok, rfl⟩
    have h0 : 0 < m := by omega
    have em : (m : Int) - 1 = ((m - 1 : Nat) : Int) := by omega
    have one : ∀ p q : Nat, p < m → q < m → Cls m (.tup [.tup [.str (Str.ofString "same"), .int p, .str (Str.ofString "col"), .int q]]) := fun p q hp hq => ⟨_, rfl, fun t ht => List.mem_singleton.mp ht ▸ ⟨"same", p, by decide, hp, .inl ⟨q, hq, rfl⟩⟩, Nat.le_of_ble_eq_true rfl⟩
    have s1 := one (m - 1) 0 (by omega) h0
    have s2 := one 0 (m - 1) h0 (by omega)
    rw [← em] at s1 s2
    have tail : ∀ k : Nat, k ≤ 13 → Rex (callN P X (n + 3)) (fn_law_clause_by.body.drop 5) [("_law_cell", (false, .int c)), ("_law_many_here", (false, .int m)), ("_law_count", (false, .int k))] fun d fr => Cls m d ∧ fr = false := by
      intro k hk
      obtain ⟨ds, q1, q2, q3⟩ := v_rows (cf := callN P X (n + 3)) (ρ := vis [("_law_cell", (false, .int c)), ("_law_many_here", (false, .int m)), ("_law_count", (false, .int k))]) (elt := .call "_law_one_by" [.call "_law_mixed" [.var "_law_cell", .bin .Add (.int 40) (.var "_law_k")], .var "_law_many_here"]) (z := "_law_k") (src := .var "_law_count") (Nat.le_trans hk (by decide)) (Tst m) rfl (by
        intro i _
        obtain ⟨r, _, hr⟩ := mixed (X := X) B.toBG (n + 2) c (40 + i)
        obtain ⟨d, td, hd⟩ := one_by (X := X) B n r m h0 h1
        exact ⟨d, td, (v_callE (v_cons (v_callE (v_cons (Eq.trans (e_var (callN P X (n + 3)) (("_law_k", D.int ↑i) :: vis [("_law_cell", false, D.int c), ("_law_many_here", false, D.int ↑m), ("_law_count", false, D.int ↑k)]) "_law_cell") rfl) (v_cons (v_bin (e_int _ _ _) (Eq.trans (e_var (callN P X (n + 3)) (("_law_k", D.int ↑i) :: vis [("_law_cell", false, D.int c), ("_law_many_here", false, D.int ↑m), ("_law_count", false, D.int ↑k)]) "_law_k") rfl) b_add) (es_nil _ _))) hr) (v_cons (Eq.trans (e_var (callN P X (n + 3)) (("_law_k", D.int ↑i) :: vis [("_law_cell", false, D.int c), ("_law_many_here", false, D.int ↑m), ("_law_count", false, D.int ↑k)]) "_law_many_here") rfl) (es_nil _ _))) hd)⟩)
      exact q_ret (v_map q3 rfl rfl) rfl ⟨⟨ds, rfl, q2, q1 ▸ Nat.le_trans hk (by decide)⟩, rfl⟩
    obtain ⟨k1, e1, l1⟩ : ∃ k : Nat, 1 + c / 16 % 2 = k ∧ k ≤ 13 := ⟨(1 + c / 16 % 2).toNat, by omega, by omega⟩
    obtain ⟨k2, e2, l2⟩ := emod_nat (c / 352) (k := 13) (by decide)
    have e2 : c / 352 % 13 = (k2 : Int) := e2
    (repeat' (first | (apply q_step; (focus (first | ((with_reducible apply p_cell); (focus ((repeat' (first | (with_reducible assumption) | (with_reducible exact e_int _ _ _) | (with_reducible exact e_str _ _ _) | (with_reducible exact e_bool _ _ _) | (with_reducible exact e_none _ _) | (with_reducible exact es_nil _ _) | ((with_reducible refine (e_var _ _ _).trans ?_); exact rfl) | (with_reducible apply v_cons) | (with_reducible apply v_bin) | (with_reducible exact b_add) | (with_reducible exact b_sb) | (with_reducible apply b_mod) | (with_reducible apply b_div) | ((with_reducible apply b_mulL); (focus decide)) | (with_reducible apply b_mul) | (with_reducible apply v_cmp) | (with_reducible apply v_sub) | (with_reducible apply v_sl) | (with_reducible apply v_not) | (with_reducible apply v_isi) | (with_reducible apply v_blt) | (with_reducible apply v_tup) | (with_reducible apply v_lst) | (with_reducible apply v_lcp) | (with_reducible apply v_callE) | (with_reducible apply v_call) | (with_reducible apply v_bop1) | ((with_reducible apply v_and); rotate_left; intro _; rotate_right) | ((with_reducible apply v_or); rotate_left; intro _; rotate_right) | (with_reducible apply v_map) | ((with_reducible show cmpD _ _ _ = _); exact rfl) | ((with_reducible show truth _ = _); exact rfl) | ((with_reducible show isiD _ _ = _); exact rfl) | ((with_reducible show frF _ _ = _); exact rfl) | ((with_reducible show isCallE _ = _); exact rfl) | ((with_reducible show bltD _ _ = _); exact rfl) | ((with_reducible show lstD _ = _); exact rfl) | ((with_reducible show subD _ _ = _); exact rfl) | decide | exact Nat.le_of_ble_eq_true rfl)); done)); (with_reducible assumption)) | ((with_reducible apply p_assign); (repeat' (first | (with_reducible assumption) | (with_reducible exact e_int _ _ _) | (with_reducible exact e_str _ _ _) | (with_reducible exact e_bool _ _ _) | (with_reducible exact e_none _ _) | (with_reducible exact es_nil _ _) | ((with_reducible refine (e_var _ _ _).trans ?_); exact rfl) | (with_reducible apply v_cons) | (with_reducible apply v_bin) | (with_reducible exact b_add) | (with_reducible exact b_sb) | (with_reducible apply b_mod) | (with_reducible apply b_div) | ((with_reducible apply b_mulL); (focus decide)) | (with_reducible apply b_mul) | (with_reducible apply v_cmp) | (with_reducible apply v_sub) | (with_reducible apply v_sl) | (with_reducible apply v_not) | (with_reducible apply v_isi) | (with_reducible apply v_blt) | (with_reducible apply v_tup) | (with_reducible apply v_lst) | (with_reducible apply v_lcp) | (with_reducible apply v_callE) | (with_reducible apply v_call) | (with_reducible apply v_bop1) | ((with_reducible apply v_and); rotate_left; intro _; rotate_right) | ((with_reducible apply v_or); rotate_left; intro _; rotate_right) | (with_reducible apply v_map) | ((with_reducible show cmpD _ _ _ = _); exact rfl) | ((with_reducible show truth _ = _); exact rfl) | ((with_reducible show isiD _ _ = _); exact rfl) | ((with_reducible show frF _ _ = _); exact rfl) | ((with_reducible show isCallE _ = _); exact rfl) | ((with_reducible show bltD _ _ = _); exact rfl) | ((with_reducible show lstD _ = _); exact rfl) | ((with_reducible show subD _ _ = _); exact rfl) | decide | exact Nat.le_of_ble_eq_true rfl)); done)))) | (apply q_if; (focus ((repeat' (first | (with_reducible assumption) | (with_reducible exact e_int _ _ _) | (with_reducible exact e_str _ _ _) | (with_reducible exact e_bool _ _ _) | (with_reducible exact e_none _ _) | (with_reducible exact es_nil _ _) | ((with_reducible refine (e_var _ _ _).trans ?_); exact rfl) | (with_reducible apply v_cons) | (with_reducible apply v_bin) | (with_reducible exact b_add) | (with_reducible exact b_sb) | (with_reducible apply b_mod) | (with_reducible apply b_div) | ((with_reducible apply b_mulL); (focus decide)) | (with_reducible apply b_mul) | (with_reducible apply v_cmp) | (with_reducible apply v_sub) | (with_reducible apply v_sl) | (with_reducible apply v_not) | (with_reducible apply v_isi) | (with_reducible apply v_blt) | (with_reducible apply v_tup) | (with_reducible apply v_lst) | (with_reducible apply v_lcp) | (with_reducible apply v_callE) | (with_reducible apply v_call) | (with_reducible apply v_bop1) | ((with_reducible apply v_and); rotate_left; intro _; rotate_right) | ((with_reducible apply v_or); rotate_left; intro _; rotate_right) | (with_reducible apply v_map) | ((with_reducible show cmpD _ _ _ = _); exact rfl) | ((with_reducible show truth _ = _); exact rfl) | ((with_reducible show isiD _ _ = _); exact rfl) | ((with_reducible show frF _ _ = _); exact rfl) | ((with_reducible show isCallE _ = _); exact rfl) | ((with_reducible show bltD _ _ = _); exact rfl) | ((with_reducible show lstD _ = _); exact rfl) | ((with_reducible show subD _ _ = _); exact rfl) | decide | exact Nat.le_of_ble_eq_true rfl)); done)); (focus (exact rfl)); (focus (intro hh; first | exact no_tf hh (by assumption) | exact absurd hh (by decide) | skip)); rotate_left; (focus (intro hh; first | exact no_tf (by assumption) hh | exact absurd hh (by decide) | skip))) | (apply q_retv; (focus (exact rfl))) | (apply q_ret; (focus ((repeat' (first | (with_reducible assumption) | (with_reducible exact e_int _ _ _) | (with_reducible exact e_str _ _ _) | (with_reducible exact e_bool _ _ _) | (with_reducible exact e_none _ _) | (with_reducible exact es_nil _ _) | ((with_reducible refine (e_var _ _ _).trans ?_); exact rfl) | (with_reducible apply v_cons) | (with_reducible apply v_bin) | (with_reducible exact b_add) | (with_reducible exact b_sb) | (with_reducible apply b_mod) | (with_reducible apply b_div) | ((with_reducible apply b_mulL); (focus decide)) | (with_reducible apply b_mul) | (with_reducible apply v_cmp) | (with_reducible apply v_sub) | (with_reducible apply v_sl) | (with_reducible apply v_not) | (with_reducible apply v_isi) | (with_reducible apply v_blt) | (with_reducible apply v_tup) | (with_reducible apply v_lst) | (with_reducible apply v_lcp) | (with_reducible apply v_callE) | (with_reducible apply v_call) | (with_reducible apply v_bop1) | ((with_reducible apply v_and); rotate_left; intro _; rotate_right) | ((with_reducible apply v_or); rotate_left; intro _; rotate_right) | (with_reducible apply v_map) | ((with_reducible show cmpD _ _ _ = _); exact rfl) | ((with_reducible show truth _ = _); exact rfl) | ((with_reducible show isiD _ _ = _); exact rfl) | ((with_reducible show frF _ _ = _); exact rfl) | ((with_reducible show isCallE _ = _); exact rfl) | ((with_reducible show bltD _ _ = _); exact rfl) | ((with_reducible show lstD _ = _); exact rfl) | ((with_reducible show subD _ _ = _); exact rfl) | decide | exact Nat.le_of_ble_eq_true rfl)); done)); (focus (exact rfl)))))
    all_goals first
      | exact ⟨nilok, rfl⟩
      | exact ⟨s1, rfl⟩
      | exact ⟨s2, rfl⟩
      | (refine q_norm ?_ (tail k1 l1); rw [← e1] <;> exact rfl)
      | (refine q_norm ?_ (tail k2 (Nat.le_of_lt l2)); rw [← e2] <;> exact rfl)
  obtain ⟨d, fr, ⟨hd, rfl⟩, hr⟩ := rex_call (X := X) (n := n + 3) (args := [.int c, .int m]) B.clause rfl key
  exact ⟨d, hd, hr⟩
end

/-! comprehensions -/
theorem compF_one {cf : CF} {ρ : List (String × D)} {elt c : ME} {x : String} {it y d : D} {k : Bool} (hc : evE cf ((x, it) :: ρ) c = some d) (ht : truth d = some k) (he : k = true → evE cf ((x, it) :: ρ) elt = some y) : compF cf ρ elt x [c] it = some (if k = true then some y else none) := by
  have e : evCs cf ((x, it) :: ρ) [c] = some k := by
    show (match evE cf ((x, it) :: ρ) c with | some d => (match truth d with | some t => if t then some true else some false | none => none) | none => none) = _
    rw [hc]; show (match truth d with | some t => _ | none => _) = _; rw [ht]; cases k <;> rfl
  unfold compF; rw [e]
  cases k with
  | true => show (match evE cf ((x, it) :: ρ) elt with | some y => _ | none => _) = _; rw [he rfl]; rfl
  | false => rfl
theorem compM_none (f : D → Option (Option D)) : ∀ (its : List D), (∀ it ∈ its, f it = some none) → compM f its = some []
  | [], _ => rfl
  | it :: r, h => by rw [compM, h it (.head _)]; show (match compM f r with | none => none | some ds => _) = _; rw [compM_none f r fun i hi => h i (.tail _ hi)]
theorem neq_self (i : Int) : cmpD .NotEq (.int i) (.int i) = some (.bool false) := by show some (D.bool (!(i == i))) = _; rw [beq_self_eq_true]; rfl
theorem compM_mm {α : Type} (f : D → Option (Option D)) (h g : α → D) : ∀ (l : List α), (∀ a ∈ l, f (h a) = some (some (g a))) → compM f (l.map h) = some (l.map g)
  | [], _ => rfl
  | a :: r, e => by
    rw [List.map_cons, compM, e a (.head _)]
    show (match compM f (r.map h) with | none => none | some ds => _) = _
    rw [compM_mm f h g r fun i hi => e i (.tail _ hi)]; rfl

set_option maxRecDepth 100000
set_option maxHeartbeats 400000
noncomputable def fn_places_of : Fn := ⟨["clause"], [
    .assign "found" (.lst []),
    .for_ "test" (.var "clause") [.append "found" (.sub (.var "test") (.int 1)), .ite (.cmp .Eq (.sub (.var "test") (.int 2)) (.str "col")) [.append "found" (.sub (.var "test") (.int 3))] []],
    .ret (.sset (.var "found"))]⟩
noncomputable def fn_need_columns : Fn := ⟨["places", "many"], [
    .for_ "place" (.var "places") [.ite (.bop .Or [.cmp .Lt (.var "place") (.int 0), .cmp .GtE (.var "place") (.var "many")]) [.bad] []]]⟩
noncomputable def fn_width_upon : Fn := ⟨["query", "within"], [
    .assign "word" (.sub (.var "query") (.int 0)),
    .ite (.cmp .Eq (.var "word") (.str "sieve")) [.for_ "clause" (.sub (.var "query") (.int 1)) [.expr (.call "need_columns" [.call "places_of" [.var "clause"], .var "within"])]] [],
    .ite (.cmp .Eq (.var "word") (.str "pick")) [.expr (.call "need_columns" [.sub (.var "query") (.int 1), .var "within"]), .ret (.blt "len" [.sub (.var "query") (.int 1)])] [],
    .ite (.cmp .Eq (.var "word") (.str "group")) [.expr (.call "need_columns" [.sub (.var "query") (.int 1), .var "within"]), .expr (.call "need_columns" [.comp (.sub (.var "one") (.int 1)) "one" (.sub (.var "query") (.int 2)) [], .var "within"]), .ret (.bin .Add (.blt "len" [.sub (.var "query") (.int 1)]) (.blt "len" [.sub (.var "query") (.int 2)]))] [],
    .ite (.cmp .Eq (.var "word") (.str "order")) [.expr (.call "need_columns" [.comp (.sub (.var "one") (.int 0)) "one" (.sub (.var "query") (.int 1)) [], .var "within"])] [],
    .ite (.bop .And [.cmp .Eq (.var "word") (.str "first"), .cmp .Lt (.sub (.var "query") (.int 1)) (.int 0)]) [.bad] [],
    .ret (.var "within")]⟩
noncomputable def fn_width_of_two : Fn := ⟨["query", "first", "second"], [
    .ite (.cmp .Eq (.sub (.var "query") (.int 0)) (.str "join")) [.expr (.call "need_columns" [.comp (.sub (.var "pair") (.int 0)) "pair" (.sub (.var "query") (.int 3)) [], .var "first"]), .expr (.call "need_columns" [.comp (.sub (.var "pair") (.int 1)) "pair" (.sub (.var "query") (.int 3)) [], .var "second"]), .ret (.bin .Add (.var "first") (.var "second"))] [],
    .ite (.cmp .NotEq (.var "first") (.var "second")) [.bad] [],
    .ret (.var "first")]⟩
noncomputable def fn_width : Fn := ⟨["query", "widths"], [
    .assign "word" (.sub (.var "query") (.int 0)),
    .ite (.cmp .NotIn (.var "word") (.glob "STEPS")) [.bad] [],
    .ite (.cmp .Eq (.var "word") (.str "table")) [.ite (.cmp .NotIn (.sub (.var "query") (.int 1)) (.var "widths")) [.bad] [], .ret (.sub (.var "widths") (.sub (.var "query") (.int 1)))] [],
    .ite (.bop .Or [.cmp .Eq (.var "word") (.str "join"), .cmp .Eq (.var "word") (.str "both")]) [.assign "first" (.call "width" [.sub (.var "query") (.int 1), .var "widths"]), .assign "second" (.call "width" [.sub (.var "query") (.int 2), .var "widths"]), .ret (.call "width_of_two" [.var "query", .var "first", .var "second"])] [],
    .ret (.call "width_upon" [.var "query", .call "width" [.sub (.var "query") (.neg (.int 1)), .var "widths"]])]⟩
structure BW (P : List (String × Fn)) : Prop where
  po : P.lookup "places_of" = some fn_places_of
  nc : P.lookup "need_columns" = some fn_need_columns
  wu : P.lookup "width_upon" = some fn_width_upon
  w2 : P.lookup "width_of_two" = some fn_width_of_two
  wd : P.lookup "width" = some fn_width
/-- the places that a test reads -/
noncomputable def plsV (t : D) : List Int := match t with
  | .tup [_, .int p, .str k, o] => if k == Str.ofString "col" then (match o with | .int q => [p, q] | _ => [p]) else [p]
  | _ => []
theorem col_t : (Str.ofString "col" == Str.ofString "col") = true := by decide +kernel
theorem col_f : (Str.ofString "is" == Str.ofString "col") = false := by decide +kernel
theorem pls_col (w : String) (p q : Nat) : plsV (tst w p "col" (.int q)) = [(p : Int), (q : Int)] := rfl
theorem pls_is (w : String) (p : Nat) (o : D) : plsV (tst w p "is" o) = [(p : Int)] := rfl
theorem eq_col : cmpD .Eq (.str (Str.ofString "col")) (.str (Str.ofString "col")) = some (.bool true) := by show some (D.bool (_ == _)) = _; rw [col_t]
theorem eq_is : cmpD .Eq (.str (Str.ofString "is")) (.str (Str.ofString "col")) = some (.bool false) := by show some (D.bool (_ == _)) = _; rw [col_f]
theorem flat_len {m : Nat} : ∀ ts : List D, (∀ t ∈ ts, Tst m t) → (ts.flatMap plsV).length ≤ 2 * ts.length
  | [], _ => Nat.zero_le _
  | t :: ts, h => by
    rw [List.flatMap_cons, List.length_append, List.length_cons, Nat.mul_succ, Nat.add_comm]
    refine Nat.add_le_add (flat_len ts fun u hu => h u (.tail _ hu)) ?_
    obtain ⟨w, p, _, _, ⟨q, _, rfl⟩ | ⟨o, _, rfl⟩⟩ := h t (.head _)
    · exact Nat.le_refl 2
    · exact Nat.le_succ 1
theorem intsD_map : ∀ ns : List Int, intsD (ns.map .int) = some ns
  | [] => rfl
  | n :: ns => by
    show (intsD (ns.map .int)).map (n :: ·) = _
    rw [intsD_map ns]; rfl

/-! queries -/
inductive Q where
  | table (nm : Str)
  | sieve (cs : List (List D)) (q : Q)
  | pick (ps : List Nat) (q : Q)
  | group (ps : List Nat) (ss : List (String × Nat)) (q : Q)
  | order (ks : List (Nat × Bool)) (q : Q)
  | once (q : Q)
  | first (c : Nat) (q : Q)
  | join (a b : Q) (prs : List (Nat × Nat))
  | both (a b : Q)
noncomputable def sD (s : String) : D := .str (Str.ofString s)
noncomputable def natD (n : Nat) : D := .int n
noncomputable def clD (c : List D) : D := .tup c
noncomputable def sumT (x : String × Nat) : D := .tup [sD x.1, natD x.2]
noncomputable def keyT (k : Nat × Bool) : D := .tup [natD k.1, .bool k.2]
noncomputable def prT (k : Nat × Nat) : D := .tup [natD k.1, natD k.2]
noncomputable def Q.d : Q → D
  | table nm => .tup [sD "table", .str nm]
  | sieve cs q => .tup [sD "sieve", .tup (cs.map clD), q.d]
  | pick ps q => .tup [sD "pick", .tup (ps.map natD), q.d]
  | group ps ss q => .tup [sD "group", .tup (ps.map natD), .tup (ss.map sumT), q.d]
  | order ks q => .tup [sD "order", .tup (ks.map keyT), q.d]
  | once q => .tup [sD "once", q.d]
  | first c q => .tup [sD "first", natD c, q.d]
  | join a b prs => .tup [sD "join", a.d, b.d, .tup (prs.map prT)]
  | both a b => .tup [sD "both", a.d, b.d]
/-- the tables' widths -/
noncomputable abbrev Wd := List (Str × Nat)
noncomputable def Wd.d (W : Wd) : D := .dict (W.map fun p => .str p.1) (W.map fun p => natD p.2)
noncomputable def Q.wd (W : Wd) : Q → Nat
  | table nm => (W.lookup nm).getD 0
  | sieve _ q | order _ q | once q | first _ q => q.wd W
  | pick ps _ => ps.length
  | group ps ss _ => ps.length + ss.length
  | join a b _ => a.wd W + b.wd W
  | both a _ => a.wd W
/-- clauses for rows of m cells -/
noncomputable def ClsOk (m : Nat) (c : List D) : Prop := (∀ t ∈ c, Tst m t) ∧ c.length ≤ 31
/-- a query that fits the tables, no list in it longer than 1000 -/
noncomputable def Q.ok (W : Wd) : Q → Prop
  | table nm => ∃ n, W.lookup nm = some n
  | sieve cs q => q.ok W ∧ (∀ c ∈ cs, ClsOk (q.wd W) c) ∧ cs.length ≤ 1000
  | pick ps q => q.ok W ∧ (∀ p ∈ ps, p < q.wd W) ∧ ps.length ≤ 1000
  | group ps ss q => q.ok W ∧ (∀ p ∈ ps, p < q.wd W) ∧ (∀ x ∈ ss, x.2 < q.wd W) ∧ ps.length ≤ 1000 ∧ ss.length ≤ 1000
  | order ks q => q.ok W ∧ (∀ k ∈ ks, k.1 < q.wd W) ∧ ks.length ≤ 1000
  | once q | first _ q => q.ok W
  | join a b prs => a.ok W ∧ b.ok W ∧ (∀ k ∈ prs, k.1 < a.wd W ∧ k.2 < b.wd W) ∧ prs.length ≤ 5000
  | both a b => a.ok W ∧ b.ok W ∧ a.wd W = b.wd W
noncomputable def Q.dp : Q → Nat
  | table _ => 0
  | sieve _ q | order _ q | once q | first _ q | pick _ q | group _ _ q => q.dp + 1
  | join a b _ | both a b => max a.dp b.dp + 1
section
variable {P : List (String × Fn)} {X : CF} {m : Nat}
theorem places_of (B : BW P) (n : Nat) {ts : List D} (ht : ∀ t ∈ ts, Tst m t) (hl : ts.length ≤ 31) : (callN P X (n + 1)).call "places_of" [.tup ts] = some (.list ((usort (ts.flatMap plsV)).map .int), true) := by
  have hbig : 2000 < big := by decide
  refine run_call B.po rfl ?_
  refine r_step (p_assign (d := .list []) (fr := true) rfl) ?_
  obtain ⟨σ', i1, h3⟩ := loop_inv (cf := callN P X n) (body := [.append "found" (.sub (.var "test") (.int 1)), .ite (.cmp .Eq (.sub (.var "test") (.int 2)) (.str "col")) [.append "found" (.sub (.var "test") (.int 3))] []]) (z := "test")
    (fun a σ => OwnV σ "found" (.list ((a.flatMap plsV).map .int))) ts [] [("clause", (false, .tup ts)), ("found", (true, .list []))] rfl (by
      rintro a it b σ hab i1
      rw [List.nil_append] at hab
      have hit : it ∈ ts := by rw [hab]; simp
      have hal : a.length < ts.length := by rw [hab]; simp
      have hfl := flat_len a fun t h => ht t (by rw [hab]; exact List.mem_append_left _ h)
      obtain ⟨w, p, hw, hp, ⟨q, hq, rfl⟩ | ⟨o, ho, rfl⟩⟩ := ht it hit
      · rw [List.flatMap_append, List.flatMap_cons, List.flatMap_nil, pls_col, List.map_append]
        refine o_step (p_append (d := .int p) (ds := (a.flatMap plsV).map .int) (v_sub (x := tst w p "col" (.int q)) (y := .int 1) (v_var (hr_vis h_eq)) (e_int _ _ _) rfl) (?_ : OwnV _ _ _) (by rw [List.length_map]; omega)) ?_
        · exact w_st rfl (w_ne rfl i1)
        refine o_if (k := true) (v_cmp (v_sub (x := tst w p "col" (.int q)) (y := .int 2) (v_var (hr_vis (h_ne rfl (h_st h_eq)))) (e_int _ _ _) rfl) (e_str _ _ _) eq_col) rfl (fun _ => ?_) nofun
        refine o_step (p_append (d := .int q) (ds := (a.flatMap plsV).map .int ++ [.int p]) (v_sub (x := tst w p "col" (.int q)) (y := .int 3) (v_var (hr_vis (h_ne rfl (h_st h_eq)))) (e_int _ _ _) rfl) (?_ : OwnV _ _ _) (by rw [List.length_append, List.length_map]; simp only [List.length_cons, List.length_nil]; omega)) (o_nil ⟨rfl, ?_⟩)
        · exact w_st rfl w_eq
        · rw [List.append_assoc]; exact w_eq
      · rw [List.flatMap_append, List.flatMap_cons, List.flatMap_nil, pls_is, List.map_append]
        refine o_step (p_append (d := .int p) (ds := (a.flatMap plsV).map .int) (v_sub (x := tst w p "is" o) (y := .int 1) (v_var (hr_vis h_eq)) (e_int _ _ _) rfl) (?_ : OwnV _ _ _) (by rw [List.length_map]; omega)) ?_
        · exact w_st rfl (w_ne rfl i1)
        exact o_if (k := false) (v_cmp (v_sub (x := tst w p "is" o) (y := .int 2) (v_var (hr_vis (h_ne rfl (h_st h_eq)))) (e_int _ _ _) rfl) (e_str _ _ _) eq_is) rfl nofun fun _ => o_nil ⟨rfl, w_eq⟩)
  have hs : ssetD (.list ((ts.flatMap plsV).map .int)) = some (.list ((usort (ts.flatMap plsV)).map .int)) := by
    show (if _ < 63 then (intsD _).map _ else _) = _
    have := flat_len ts ht
    rw [if_pos (by rw [List.length_map]; omega), intsD_map]; rfl
  refine r_for (x := .tup ts) (its := ts) rfl rfl h3 (r_ret (v_map (v_sset (x := .list ((ts.flatMap plsV).map .int)) (v_var (hr_vis (h_own i1))) hs) rfl rfl) rfl)

theorem fall_call {g : String} {ps : List String} {bd : List MS} {n : Nat} {args : List D} {σ' : St} (h : P.lookup g = some ⟨ps, bd⟩) (hl : args.length = ps.length) (k : exSs (callN P X n) bd ((ps.zip args).map fun p => (p.1, (false, p.2))) = some (.next, σ')) :
    (callN P X (n + 1)).call g args = some (.none, false) := by rw [call_eq n args h hl]; show fin (exSs _ bd _) = _; rw [k]; rfl
theorem need_columns (B : BW P) (n : Nat) {ls : D} {its : List D} (hi : ls.items = some its) {w : Nat} (h : ∀ d ∈ its, ∃ p : Nat, p < w ∧ d = .int p) : (callN P X (n + 1)).call "need_columns" [ls, .int w] = some (.none, false) := by
  have key : ∃ σ', forD (bodyF (callN P X n) [.ite (.bop .Or [.cmp .Lt (.var "place") (.int 0), .cmp .GtE (.var "place") (.var "many")]) [.bad] []] "place") its (freeze ["places"] [("places", (false, ls)), ("many", (false, .int w))]) = some (.next, σ') := by
    obtain ⟨σ', _, h3⟩ := loop_inv (cf := callN P X n) (body := [.ite (.bop .Or [.cmp .Lt (.var "place") (.int 0), .cmp .GtE (.var "place") (.var "many")]) [.bad] []]) (z := "place") (fun _ σ => Has σ "many" (.int w)) its [] (freeze ["places"] [("places", (false, ls)), ("many", (false, .int w))]) (h_fr (h_consn rfl h_cons)) (by
      rintro a it b σ hab i
      rw [List.nil_append] at hab
      obtain ⟨p, hp, rfl⟩ := h it (by rw [hab]; simp)
      have h1 : cmpD .Lt (.int p) (.int 0) = some (.bool false) := by
        show some (D.bool (decide ((p : Int) < 0))) = _
        rw [decide_eq_false (by omega)]
      have h2 : cmpD .GtE (.int p) (.int w) = some (.bool false) := by
        show some (D.bool (decide ((p : Int) ≥ w))) = _
        rw [decide_eq_false (by omega)]
      exact o_if (k := false) (x := .bool (false || false)) (v_or (k := false) (l := false) (v_cmp (v_var (hr_vis h_eq)) (e_int _ _ _) h1) fun _ => v_bop1 (v_cmp (v_var (hr_vis h_eq)) (v_var (hr_vis (h_ne rfl i))) h2)) rfl nofun fun _ => o_nil ⟨rfl, h_ne rfl i⟩)
    exact ⟨σ', h3⟩
  obtain ⟨σ', h3⟩ := key
  obtain ⟨fl, σ2, rfl, q⟩ : Out (callN P X n) fn_need_columns.body [("places", (false, ls)), ("many", (false, .int w))] fun fl _ => fl = .next := o_for (d := ls) rfl hi h3 (o_nil rfl)
  exact fall_call B.nc rfl q
theorem mem_its {α : Type} {l : List α} {f : α → Nat} {w : Nat} (h : ∀ x ∈ l, f x < w) : ∀ d ∈ l.map (fun x => D.int (f x)), ∃ p : Nat, p < w ∧ d = .int p := fun d hd => by
  obtain ⟨x, hx, rfl⟩ := List.mem_map.mp hd
  exact ⟨f x, h x hx, rfl⟩
theorem cls_places {w : Nat} {c : List D} (hc : ClsOk w c) : ∀ d ∈ (usort (c.flatMap plsV)).map D.int, ∃ p : Nat, p < w ∧ d = .int p := fun d hd => by
  obtain ⟨z, hz, rfl⟩ := List.mem_map.mp hd
  obtain ⟨t, ht, hz⟩ := List.mem_flatMap.mp ((usort_mem z _).mp hz)
  obtain ⟨w', p, _, hp, ⟨q, hq, rfl⟩ | ⟨o, _, rfl⟩⟩ := hc.1 t ht
  · rw [pls_col] at hz
    rcases List.mem_cons.mp hz with rfl | hz
    · exact ⟨p, hp, rfl⟩
    · rw [List.mem_singleton.mp hz]; exact ⟨q, hq, rfl⟩
  · rw [pls_is] at hz
    rw [List.mem_singleton.mp hz]; exact ⟨p, hp, rfl⟩
/-- a comprehension over a tuple that reads one cell of each item -/
theorem v_cells {cf : CF} {ρ : List (String × D)} {z : String} {src : ME} {i : Int} {α : Type} {l : List α} {g : α → D} {f : α → D} (hs : evE cf ρ src = some (.tup (l.map g))) (hl : l.length ≤ big) (h : ∀ x ∈ l, subD (g x) (.int i) = some (f x)) :
    evE cf ρ (.comp (.sub (.var z) (.int i)) z src []) = some (.list (l.map f)) := by
  refine v_comp hs rfl (by rw [List.length_map]; exact hl) ?_
  have : ∀ l' : List α, (∀ x ∈ l', x ∈ l) → compM (compF cf ρ (.sub (.var z) (.int i)) z []) (l'.map g) = some (l'.map f) := fun l' => by
    induction l' with
    | nil => intro _; rfl
    | cons x l' ih =>
      intro hx
      rw [List.map_cons, compM, compF_nil (d := f x) (v_sub (v_var hr_eq) (e_int _ _ _) (h x (hx x (.head _))))]
      dsimp only
      rw [ih fun y hy => hx y (.tail _ hy)]
      rfl
  exact this l fun _ h => h
end

set_option maxRecDepth 100000
set_option maxHeartbeats 400000
noncomputable def steps : List D := [.str (Str.ofString "table"), .str (Str.ofString "sieve"), .str (Str.ofString "pick"), .str (Str.ofString "join"), .str (Str.ofString "group"), .str (Str.ofString "order"), .str (Str.ofString "both"), .str (Str.ofString "once"), .str (Str.ofString "first")]
noncomputable def upon : List String := ["sieve", "pick", "group", "order", "once", "first"]
theorem wd_mem {W : Wd} {nm : Str} {k : Nat} (h : W.lookup nm = some k) : memD (.str nm) W.d = some true ∧ subD W.d (.str nm) = some (.int k) := by
  have hk : keyOk (.str nm) (W.map fun p => D.str p.1) = true := by
    have : (W.map fun p => D.str p.1).all D.isCell = true := by rw [List.all_map]; exact List.all_eq_true.mpr fun _ _ => rfl
    unfold keyOk; rw [this]; rfl
  have go : ∀ W : Wd, W.lookup nm = some k → ((W.map fun p => D.str p.1).any fun x => keyEq x (.str nm)) = true ∧ dget (W.map fun p => D.str p.1) (W.map fun p => natD p.2) (.str nm) = some (.int k) := fun W => by
    induction W with
    | nil => intro h; cases h
    | cons p W ih =>
      intro h
      obtain ⟨a, b⟩ := p
      rw [List.lookup_cons] at h
      have e : keyEq (.str a) (.str nm) = (a == nm) := rfl
      by_cases hab : nm = a
      · subst hab
        rw [beq_self_eq_true] at h
        cases h
        refine ⟨by rw [List.map_cons, List.any_cons, e, beq_self_eq_true]; rfl, ?_⟩
        rw [List.map_cons, List.map_cons, dget, e, beq_self_eq_true]; rfl
      · rw [show (nm == a) = false from by simpa using hab] at h
        obtain ⟨h1, h2⟩ := ih h
        have hba : (a == nm) = false := by simpa using fun e => hab e.symm
        refine ⟨by rw [List.map_cons, List.any_cons, h1, Bool.or_true], ?_⟩
        rw [List.map_cons, List.map_cons, dget, e, hba]
        exact h2
  obtain ⟨h1, h2⟩ := go W h
  exact ⟨by show (if keyOk _ _ = true then _ else _) = _; rw [if_pos hk, h1], by show (if keyOk _ _ = true then _ else _) = _; rw [if_pos hk]; exact h2⟩
section
variable {P : List (String × Fn)} {X : CF} {W : Wd}
theorem width_table (B : BW P) (hX : X.glob "STEPS" = some (.tup steps)) (n : Nat) {nm : Str} {k : Nat} (h : W.lookup nm = some k) : (callN P X (n + 1)).call "width" [(Q.table nm).d, W.d] = some (.int k, false) := by
  obtain ⟨h1, h2⟩ := wd_mem h
  have hg : (callN P X n).glob "STEPS" = some (.tup steps) := (glob_x P X n "STEPS").trans hX
  have h3 : cmpD .NotIn (.str nm) W.d = some (.bool false) := by show (memD _ _).map _ = _; rw [h1]; rfl
  refine run_call B.wd rfl ?_
  show Run _ _ [("query", (false, .tup [sD "table", .str nm])), ("widths", (false, W.d))] _ _
  generalize W.d = T at *
  generalize callN P X n = cf at *
  unfold sD
  exact r_step (p_assign (v_map (v_sub (v_var (hr_vis h_cons)) (e_int _ _ _) rfl) rfl rfl)) (r_if (v_cmp (v_var (hr_vis h_eq)) (Eq.trans (e_glob _ _ _) hg) rfl) rfl (fun hh => absurd hh (of_decide_eq_true (id (Eq.refl true)))) fun hh => r_if (v_cmp (v_var (hr_vis h_eq)) (e_str _ _ _) rfl) rfl (fun hh_1 => r_if (v_cmp (v_sub (v_var (hr_vis (h_ne rfl (h_st h_cons)))) (e_int _ _ _) rfl) (v_var (hr_vis (h_ne rfl (h_st (h_consn rfl h_cons))))) h3) rfl (fun hh_2 => no_tf hh_2 hh) fun hh => r_ret (v_map (v_sub (v_var (hr_vis (h_ne rfl (h_st (h_consn rfl h_cons))))) (v_sub (v_var (hr_vis (h_ne rfl (h_st h_cons)))) (e_int _ _ _) rfl) h2) rfl rfl) rfl) fun hh => absurd hh (of_decide_eq_true (id (Eq.refl true))))
theorem width_step (B : BW P) (hX : X.glob "STEPS" = some (.tup steps)) (n : Nat) {wd : String} (hw : wd ∈ upon) {q I T : D} {a b : Nat} (h0 : subD q (.int 0) = some (sD wd)) (hl : subD q (.int (-1)) = some I)
    (h1 : (callN P X n).call "width" [I, T] = some (.int a, false)) (h2 : (callN P X n).call "width_upon" [q, .int a] = some (.int b, false)) : (callN P X (n + 1)).call "width" [q, T] = some (.int b, false) := by
  have hg : (callN P X n).glob "STEPS" = some (.tup steps) := (glob_x P X n "STEPS").trans hX
  refine run_call B.wd rfl ?_
  show Run _ _ [("query", (false, q)), ("widths", (false, T))] _ _
  generalize callN P X n = cf at *
  unfold sD at h0
  simp only [upon, List.mem_cons, List.not_mem_nil, or_false] at hw
  rcases hw with rfl | rfl | rfl | rfl | rfl | rfl
  all_goals exact r_step (p_assign (v_map (v_sub (v_var (hr_vis h_cons)) (e_int _ _ _) h0) rfl rfl)) (r_if (v_cmp (v_var (hr_vis h_eq)) (Eq.trans (e_glob _ _ _) hg) rfl) rfl (fun hh => absurd hh (of_decide_eq_true (id (Eq.refl true)))) fun hh => r_if (v_cmp (v_var (hr_vis h_eq)) (e_str _ _ _) rfl) rfl (fun hh_1 => no_tf hh_1 hh) fun hh => r_if (v_or (v_cmp (v_var (hr_vis h_eq)) (e_str _ _ _) rfl) fun a => v_bop1 (v_cmp (v_var (hr_vis h_eq)) (e_str _ _ _) rfl)) rfl (fun hh_1 => no_tf hh_1 hh) fun hh => r_ret (v_call (v_cons (v_var (hr_vis (h_ne rfl (h_st h_cons)))) (v_cons (v_callE (v_cons (v_sub (v_var (hr_vis (h_ne rfl (h_st h_cons)))) v_neg1 hl) (v_cons (v_var (hr_vis (h_ne rfl (h_st (h_consn rfl h_cons))))) (es_nil _ _))) h1) (es_nil _ _))) h2) rfl)
theorem width_two (B : BW P) (hX : X.glob "STEPS" = some (.tup steps)) (n : Nat) {wd : String} (hw : wd = "join" ∨ wd = "both") {q I J T : D} {a b c : Nat} (h0 : subD q (.int 0) = some (sD wd)) (h1 : subD q (.int 1) = some I) (h2 : subD q (.int 2) = some J)
    (k1 : (callN P X n).call "width" [I, T] = some (.int a, false)) (k2 : (callN P X n).call "width" [J, T] = some (.int b, false)) (k3 : (callN P X n).call "width_of_two" [q, .int a, .int b] = some (.int c, false)) : (callN P X (n + 1)).call "width" [q, T] = some (.int c, false) := by
  have hg : (callN P X n).glob "STEPS" = some (.tup steps) := (glob_x P X n "STEPS").trans hX
  refine run_call B.wd rfl ?_
  show Run _ _ [("query", (false, q)), ("widths", (false, T))] _ _
  generalize callN P X n = cf at *
  unfold sD at h0
  rcases hw with rfl | rfl
  all_goals exact r_step (p_assign (v_map (v_sub (v_var (hr_vis h_cons)) (e_int _ _ _) h0) rfl rfl)) (r_if (v_cmp (v_var (hr_vis h_eq)) (Eq.trans (e_glob _ _ _) hg) rfl) rfl (fun hh => absurd hh (of_decide_eq_true (id (Eq.refl true)))) fun hh => r_if (v_cmp (v_var (hr_vis h_eq)) (e_str _ _ _) rfl) rfl (fun hh_1 => no_tf hh_1 hh) fun hh => r_if (v_or (v_cmp (v_var (hr_vis h_eq)) (e_str _ _ _) rfl) fun a => v_bop1 (v_cmp (v_var (hr_vis h_eq)) (e_str _ _ _) rfl)) rfl (fun hh => r_step (p_assign (v_call (v_cons (v_sub (v_var (hr_vis (h_ne rfl (h_st h_cons)))) (e_int _ _ _) h1) (v_cons (v_var (hr_vis (h_ne rfl (h_st (h_consn rfl h_cons))))) (es_nil _ _))) k1)) (r_step (p_assign (v_call (v_cons (v_sub (v_var (hr_vis (h_ne rfl (h_st (h_ne rfl (h_st h_cons)))))) (e_int _ _ _) h2) (v_cons (v_var (hr_vis (h_ne rfl (h_st (h_ne rfl (h_st (h_consn rfl h_cons))))))) (es_nil _ _))) k2)) (r_ret (v_call (v_cons (v_var (hr_vis (h_ne rfl (h_st (h_ne rfl (h_st (h_ne rfl (h_st h_cons)))))))) (v_cons (v_var (hr_vis (h_ne rfl (h_st h_eq)))) (v_cons (v_var (hr_vis h_eq)) (es_nil _ _)))) k3) rfl))) fun hh => absurd hh (of_decide_eq_true (id (Eq.refl true))))
end

set_option maxRecDepth 100000
set_option maxHeartbeats 400000
theorem lk_ne {σ : St} {x y : String} {v w : Bool × D} (h : (x == y) = false) (k : σ.lookup x = some v) : (setv σ y w).lookup x = some v := by
  rw [lookup_setv, if_neg (by rintro rfl; rw [beq_self_eq_true] at h; cases h)]; exact k
section
variable {P : List (String × Fn)} {X : CF}
theorem upon_tail {cf : CF} {σ : St} {w : String} {a : Nat} (hw : w = "sieve" ∨ w = "order" ∨ w = "once") (h1 : Has σ "word" (sD w)) (h2 : σ.lookup "within" = some (false, .int a)) : Run cf (fn_width_upon.body.drop 5) σ (.int a) false := by
  refine r_if (k := false) (x := .bool (false && false)) (v_and (k := false) (l := false) (v_cmp (v_var (hr_vis h1)) (e_str _ _ _) ?_) nofun) rfl nofun fun _ => r_retv h2
  unfold sD; rcases hw with rfl | rfl | rfl <;> rfl
theorem upon_sieve (B : BW P) (n : Nat) {cs : List (List D)} {I : D} {a : Nat} (hc : ∀ c ∈ cs, ClsOk a c) : (callN P X (n + 2)).call "width_upon" [.tup [sD "sieve", .tup (cs.map clD), I], .int a] = some (.int a, false) := by
  refine run_call B.wu rfl ?_
  refine r_step (p_assign (d := sD "sieve") (fr := false) rfl) ?_
  obtain ⟨σ', ⟨i1, i2, i3⟩, h3⟩ := loop_inv (cf := callN P X (n + 1)) (body := [.expr (.call "need_columns" [.call "places_of" [.var "clause"], .var "within"])]) (z := "clause")
    (fun _ σ => Has σ "word" (sD "sieve") ∧ σ.lookup "within" = some (false, .int a) ∧ Has σ "query" (.tup [sD "sieve", .tup (cs.map clD), I])) (cs.map clD) [] (freeze ["query"] (setv (settle (sD "sieve") ["query"] [("query", (false, .tup [sD "sieve", .tup (cs.map clD), I])), ("within", (false, .int a))]) "word" (false, sD "sieve")))
    ⟨h_fr h_eq, rfl, (h_fr (h_ne rfl (h_st h_cons)))⟩ (by
      rintro x it y σ hab ⟨i1, i2, i3⟩
      rw [List.nil_append] at hab
      obtain ⟨c, hcm, rfl⟩ := List.mem_map.mp (by rw [hab]; simp : it ∈ cs.map clD)
      have k1 := places_of (X := X) B n (hc c hcm).1 (hc c hcm).2
      have k2 := need_columns (X := X) B n (ls := .list ((usort (c.flatMap plsV)).map .int)) rfl (cls_places (hc c hcm))
      have j2 := lk_ne (y := "clause") (w := (false, clD c)) rfl i2
      refine o_step (p_expr (d := .none) (v_callE (v_cons (v_callE (v_cons (v_var (hr_vis h_eq)) (es_nil _ _)) k1) (v_cons (v_var (hr_vis ⟨_, j2⟩)) (es_nil _ _))) k2) rfl) (o_nil ⟨rfl, h_ne rfl i1, j2, h_ne rfl i3⟩))
  refine r_if (k := true) (v_cmp (v_var (hr_vis h_eq)) (e_str _ _ _) rfl) rfl (fun _ => ?_) nofun
  refine r_for (x := .tup (cs.map clD)) (its := cs.map clD) rfl rfl h3 ?_
  unfold sD at i1
  refine r_if (k := false) (v_cmp (v_var (hr_vis i1)) (e_str _ _ _) rfl) rfl nofun fun _ => r_if (k := false) (v_cmp (v_var (hr_vis i1)) (e_str _ _ _) rfl) rfl nofun fun _ => r_if (k := false) (v_cmp (v_var (hr_vis i1)) (e_str _ _ _) rfl) rfl nofun fun _ => ?_
  exact upon_tail (.inl rfl) i1 i2
theorem upon_pick (B : BW P) (n : Nat) {ps : List Nat} {I : D} {a : Nat} (hp : ∀ p ∈ ps, p < a) : (callN P X (n + 2)).call "width_upon" [.tup [sD "pick", .tup (ps.map natD), I], .int a] = some (.int ps.length, false) := by
  have k2 := need_columns (X := X) B n (ls := .tup (ps.map natD)) (its := ps.map natD) rfl (mem_its (f := fun x => x) hp)
  refine run_call B.wu rfl ?_
  refine r_step (p_assign (d := sD "pick") (fr := false) rfl) ?_
  generalize callN P X (n + 1) = cf at *
  refine r_if (k := false) (v_cmp (v_var (hr_vis h_eq)) (e_str _ _ _) rfl) rfl nofun fun _ => r_if (k := true) (v_cmp (v_var (hr_vis h_eq)) (e_str _ _ _) rfl) rfl (fun _ => ?_) nofun
  refine r_step (p_expr (d := .none) (v_callE (v_cons (d := .tup (ps.map natD)) rfl (v_cons (d := .int a) rfl (es_nil _ _))) k2) rfl) ?_
  refine r_ret (v_map (v_blt (v_cons (d := .tup (ps.map natD)) rfl (es_nil _ _)) ?_) rfl rfl) rfl
  show some (D.int ((ps.map natD).length : Nat)) = _
  rw [List.length_map]
theorem upon_group (B : BW P) (n : Nat) {ps : List Nat} {ss : List (String × Nat)} {I : D} {a : Nat} (hp : ∀ p ∈ ps, p < a) (hs : ∀ x ∈ ss, x.2 < a) (hl : ss.length ≤ 1000) : (callN P X (n + 2)).call "width_upon" [.tup [sD "group", .tup (ps.map natD), .tup (ss.map sumT), I], .int a] = some (.int (ps.length + ss.length : Nat), false) := by
  have k1 := need_columns (X := X) B n (ls := .tup (ps.map natD)) (its := ps.map natD) rfl (mem_its (f := fun x => x) hp)
  have k2 := need_columns (X := X) B n (ls := .list (ss.map fun x => .int x.2)) rfl (mem_its (f := fun x : String × Nat => x.2) hs)
  have hbig : 2000 < big := by decide
  refine run_call B.wu rfl ?_
  refine r_step (p_assign (d := sD "group") (fr := false) rfl) ?_
  generalize callN P X (n + 1) = cf at *
  refine r_if (k := false) (v_cmp (v_var (hr_vis h_eq)) (e_str _ _ _) rfl) rfl nofun fun _ => r_if (k := false) (v_cmp (v_var (hr_vis h_eq)) (e_str _ _ _) rfl) rfl nofun fun _ => r_if (k := true) (v_cmp (v_var (hr_vis h_eq)) (e_str _ _ _) rfl) rfl (fun _ => ?_) nofun
  refine r_step (p_expr (d := .none) (v_callE (v_cons (d := .tup (ps.map natD)) rfl (v_cons (d := .int a) rfl (es_nil _ _))) k1) rfl) ?_
  refine r_step (p_expr (d := .none) (v_callE (v_cons (v_cells (l := ss) (g := sumT) (f := fun x => .int x.2) rfl (by omega) fun x _ => rfl) (v_cons (d := .int a) rfl (es_nil _ _))) k2) rfl) ?_
  refine r_ret (v_map (v_bin (v_blt (v_cons (d := .tup (ps.map natD)) rfl (es_nil _ _)) rfl) (v_blt (v_cons (d := .tup (ss.map sumT)) rfl (es_nil _ _)) rfl) ?_) rfl rfl) rfl
  show some (D.int (((ps.map natD).length : Nat) + ((ss.map sumT).length : Nat) : Int)) = _
  rw [List.length_map, List.length_map, Int.natCast_add]
theorem upon_order (B : BW P) (n : Nat) {ks : List (Nat × Bool)} {I : D} {a : Nat} (hs : ∀ x ∈ ks, x.1 < a) (hl : ks.length ≤ 1000) : (callN P X (n + 2)).call "width_upon" [.tup [sD "order", .tup (ks.map keyT), I], .int a] = some (.int a, false) := by
  have k2 := need_columns (X := X) B n (ls := .list (ks.map fun x => .int x.1)) rfl (mem_its (f := fun x : Nat × Bool => x.1) hs)
  have hbig : 2000 < big := by decide
  refine run_call B.wu rfl ?_
  refine r_step (p_assign (d := sD "order") (fr := false) rfl) ?_
  generalize callN P X (n + 1) = cf at *
  refine r_if (k := false) (v_cmp (v_var (hr_vis h_eq)) (e_str _ _ _) rfl) rfl nofun fun _ => r_if (k := false) (v_cmp (v_var (hr_vis h_eq)) (e_str _ _ _) rfl) rfl nofun fun _ => r_if (k := false) (v_cmp (v_var (hr_vis h_eq)) (e_str _ _ _) rfl) rfl nofun fun _ => r_if (k := true) (v_cmp (v_var (hr_vis h_eq)) (e_str _ _ _) rfl) rfl (fun _ => ?_) nofun
  refine r_step (p_expr (d := .none) (v_callE (v_cons (v_cells (l := ks) (g := keyT) (f := fun x => .int x.1) rfl (by omega) fun x _ => rfl) (v_cons (d := .int a) rfl (es_nil _ _))) k2) rfl) ?_
  exact upon_tail (.inr (.inl rfl)) h_eq rfl
theorem upon_once (B : BW P) (n : Nat) {I : D} {a : Nat} : (callN P X (n + 2)).call "width_upon" [.tup [sD "once", I], .int a] = some (.int a, false) := by
  refine run_call B.wu rfl ?_
  refine r_step (p_assign (d := sD "once") (fr := false) rfl) ?_
  generalize callN P X (n + 1) = cf at *
  refine r_if (k := false) (v_cmp (v_var (hr_vis h_eq)) (e_str _ _ _) rfl) rfl nofun fun _ => r_if (k := false) (v_cmp (v_var (hr_vis h_eq)) (e_str _ _ _) rfl) rfl nofun fun _ => r_if (k := false) (v_cmp (v_var (hr_vis h_eq)) (e_str _ _ _) rfl) rfl nofun fun _ => r_if (k := false) (v_cmp (v_var (hr_vis h_eq)) (e_str _ _ _) rfl) rfl nofun fun _ => ?_
  exact upon_tail (.inr (.inr rfl)) h_eq rfl
theorem upon_first (B : BW P) (n : Nat) {I : D} {a c : Nat} : (callN P X (n + 2)).call "width_upon" [.tup [sD "first", natD c, I], .int a] = some (.int a, false) := by
  have hc : cmpD .Lt (.int c) (.int 0) = some (.bool false) := by
    show some (D.bool (decide ((c : Int) < 0))) = _
    rw [decide_eq_false (by omega)]
  refine run_call B.wu rfl ?_
  refine r_step (p_assign (d := sD "first") (fr := false) rfl) ?_
  generalize callN P X (n + 1) = cf at *
  refine r_if (k := false) (v_cmp (v_var (hr_vis h_eq)) (e_str _ _ _) rfl) rfl nofun fun _ => r_if (k := false) (v_cmp (v_var (hr_vis h_eq)) (e_str _ _ _) rfl) rfl nofun fun _ => r_if (k := false) (v_cmp (v_var (hr_vis h_eq)) (e_str _ _ _) rfl) rfl nofun fun _ => r_if (k := false) (v_cmp (v_var (hr_vis h_eq)) (e_str _ _ _) rfl) rfl nofun fun _ => ?_
  refine r_if (k := false) (x := .bool (true && false)) (v_and (k := true) (l := false) (v_cmp (v_var (hr_vis h_eq)) (e_str _ _ _) rfl) fun _ => v_bop1 (v_cmp (v_sub (x := .tup [sD "first", natD c, I]) (y := .int 1) rfl rfl rfl) (e_int _ _ _) hc)) rfl nofun fun _ => r_retv rfl
theorem two_join (B : BW P) (n : Nat) {prs : List (Nat × Nat)} {I J : D} {a b : Nat} (h : ∀ x ∈ prs, x.1 < a ∧ x.2 < b) (hl : prs.length ≤ 5000) : (callN P X (n + 2)).call "width_of_two" [.tup [sD "join", I, J, .tup (prs.map prT)], .int a, .int b] = some (.int (a + b : Nat), false) := by
  have k1 := need_columns (X := X) B n (ls := .list (prs.map fun x => .int x.1)) rfl (mem_its (f := fun x => x.1) fun x hx => (h x hx).1)
  have k2 := need_columns (X := X) B n (ls := .list (prs.map fun x => .int x.2)) rfl (mem_its (f := fun x => x.2) fun x hx => (h x hx).2)
  have hbig : 5000 ≤ big := by decide
  refine run_call B.w2 rfl ?_
  generalize callN P X (n + 1) = cf at *
  refine r_if (k := true) (v_cmp (v_sub (x := .tup [sD "join", I, J, .tup (prs.map prT)]) (y := .int 0) rfl rfl rfl) (e_str _ _ _) rfl) rfl (fun _ => ?_) nofun
  refine r_step (p_expr (d := .none) (v_callE (v_cons (v_cells (l := prs) (g := prT) (f := fun x => .int x.1) rfl (by omega) fun x _ => rfl) (v_cons (d := .int a) rfl (es_nil _ _))) k1) rfl) ?_
  refine r_step (p_expr (d := .none) (v_callE (v_cons (v_cells (l := prs) (g := prT) (f := fun x => .int x.2) rfl (by omega) fun x _ => rfl) (v_cons (d := .int b) rfl (es_nil _ _))) k2) rfl) ?_
  exact r_ret (v_map (v_bin (x := .int a) (y := .int b) rfl rfl (by rw [Int.natCast_add]; rfl)) rfl rfl) rfl
theorem two_both (B : BW P) (n : Nat) {I J : D} {a : Nat} : (callN P X (n + 1)).call "width_of_two" [.tup [sD "both", I, J], .int a, .int a] = some (.int a, false) := by
  have e : cmpD .NotEq (.int a) (.int a) = some (.bool false) := by show some (D.bool (!((a : Int) == a))) = _; rw [beq_self_eq_true]; rfl
  refine run_call B.w2 rfl ?_
  generalize callN P X n = cf at *
  refine r_if (k := false) (v_cmp (v_sub (x := .tup [sD "both", I, J]) (y := .int 0) rfl rfl rfl) (e_str _ _ _) rfl) rfl nofun fun _ => ?_
  exact r_if (k := false) (v_cmp (x := .int a) (y := .int a) rfl rfl e) rfl nofun fun _ => r_retv rfl
theorem width_eq (B : BW P) (hX : X.glob "STEPS" = some (.tup steps)) {W : Wd} : ∀ (q : Q) (n : Nat), q.ok W → q.dp ≤ n → (callN P X (n + 3)).call "width" [q.d, W.d] = some (.int (q.wd W), false)
  | .table nm, n, ⟨k, h⟩, _ => by
    have := width_table B hX (n + 2) h
    rw [this, Q.wd, h]; rfl
  | .sieve cs q, n + 1, ⟨h1, h2, _⟩, hn => width_step B hX _ (wd := "sieve") (by decide) rfl rfl (width_eq B hX q n h1 (Nat.le_of_succ_le_succ hn)) (upon_sieve B (n + 1) h2)
  | .pick ps q, n + 1, ⟨h1, h2, _⟩, hn => width_step B hX _ (wd := "pick") (by decide) rfl rfl (width_eq B hX q n h1 (Nat.le_of_succ_le_succ hn)) (upon_pick B (n + 1) h2)
  | .group ps ss q, n + 1, ⟨h1, h2, h3, _, h4⟩, hn => width_step B hX _ (wd := "group") (by decide) rfl rfl (width_eq B hX q n h1 (Nat.le_of_succ_le_succ hn)) (upon_group B (n + 1) h2 h3 h4)
  | .order ks q, n + 1, ⟨h1, h2, h3⟩, hn => width_step B hX _ (wd := "order") (by decide) rfl rfl (width_eq B hX q n h1 (Nat.le_of_succ_le_succ hn)) (upon_order B (n + 1) h2 h3)
  | .once q, n + 1, h1, hn => width_step B hX _ (wd := "once") (by decide) rfl rfl (width_eq B hX q n h1 (Nat.le_of_succ_le_succ hn)) (upon_once B (n + 1))
  | .first c q, n + 1, h1, hn => width_step B hX _ (wd := "first") (by decide) rfl rfl (width_eq B hX q n h1 (Nat.le_of_succ_le_succ hn)) (upon_first B (n + 1))
  | .join a b prs, n + 1, ⟨h1, h2, h3, h4⟩, hn => width_two B hX _ (.inl rfl) rfl rfl rfl (width_eq B hX a n h1 (Nat.le_trans (Nat.le_max_left _ _) (Nat.le_of_succ_le_succ hn))) (width_eq B hX b n h2 (Nat.le_trans (Nat.le_max_right _ _) (Nat.le_of_succ_le_succ hn))) (two_join B (n + 1) h3 h4)
  | .both a b, n + 1, ⟨h1, h2, h3⟩, hn => by
    have k2 := width_eq B hX b n h2 (Nat.le_trans (Nat.le_max_right _ _) (Nat.le_of_succ_le_succ hn))
    rw [← h3] at k2
    exact width_two B hX _ (.inr rfl) rfl rfl rfl (width_eq B hX a n h1 (Nat.le_trans (Nat.le_max_left _ _) (Nat.le_of_succ_le_succ hn))) k2 (two_both B (n + 2))
end

set_option maxRecDepth 100000
set_option maxHeartbeats 400000
noncomputable def fn_turned : Fn := ⟨["clause", "places"], [
    .assign "found" (.lst []),
    .for_ "test" (.var "clause") [.assign "other" (.sub (.var "test") (.int 3)), .ite (.cmp .Eq (.sub (.var "test") (.int 2)) (.str "col")) [.assign "other" (.sub (.var "places") (.sub (.var "test") (.int 3)))] [], .append "found" (.tup [.sub (.var "test") (.int 0), .sub (.var "places") (.sub (.var "test") (.int 1)), .sub (.var "test") (.int 2), .var "other"])],
    .ret (.blt "tuple" [.var "found"])]⟩
noncomputable def fn_over : Fn := ⟨["clauses", "query"], [
    .ite (.cmp .Eq (.var "clauses") (.lst [])) [.ret (.var "query")] [],
    .ret (.tup [.str "sieve", .blt "tuple" [.var "clauses"], .var "query"])]⟩
noncomputable def fn_is_pair : Fn := ⟨["clause"], [
    .ret (.bop .And [.cmp .Eq (.blt "len" [.var "clause"]) (.int 1), .cmp .Eq (.sub (.sub (.var "clause") (.int 0)) (.int 0)) (.str "same"), .cmp .Eq (.sub (.sub (.var "clause") (.int 0)) (.int 2)) (.str "col")])]⟩
noncomputable def fn_through_join : Fn := ⟨["query", "clauses", "widths"], [
    .assign "own" (.call "width" [.sub (.var "query") (.int 1), .var "widths"]),
    .assign "many" (.bin .Add (.var "own") (.call "width" [.sub (.var "query") (.int 2), .var "widths"])),
    .assign "moved" (.comp (.bin .Sub (.var "place") (.var "own")) "place" (.blt "range" [.var "many"]) []),
    .assign "ahead" (.lst []),
    .assign "behind" (.lst []),
    .assign "pairs" (.lst []),
    .assign "kept" (.lst []),
    .for_ "clause" (.var "clauses") [.assign "places" (.call "places_of" [.var "clause"]), .ite (.bop .Or [.cmp .Eq (.var "places") (.lst []), .cmp .Lt (.sub (.var "places") (.neg (.int 1))) (.var "own")]) [.append "ahead" (.var "clause")] [.ite (.cmp .GtE (.sub (.var "places") (.int 0)) (.var "own")) [.append "behind" (.call "turned" [.var "clause", .var "moved"])] [.ite (.call "is_pair" [.var "clause"]) [.append "pairs" (.tup [.sub (.var "places") (.int 0), .bin .Sub (.sub (.var "places") (.int 1)) (.var "own")])] [.append "kept" (.var "clause")]]]],
    .assign "first" (.call "placed" [.sub (.var "query") (.int 1), .var "ahead", .var "widths"]),
    .assign "second" (.call "placed" [.sub (.var "query") (.int 2), .var "behind", .var "widths"]),
    .ret (.call "over" [.var "kept", .tup [.str "join", .var "first", .var "second", .bin .Add (.sub (.var "query") (.int 3)) (.blt "tuple" [.var "pairs"])]])]⟩
noncomputable def fn_through_group : Fn := ⟨["query", "clauses", "widths"], [
    .assign "inner" (.lst []),
    .assign "kept" (.lst []),
    .for_ "clause" (.var "clauses") [.assign "places" (.call "places_of" [.var "clause"]), .ite (.bop .Or [.cmp .Eq (.var "places") (.lst []), .cmp .Lt (.sub (.var "places") (.neg (.int 1))) (.blt "len" [.sub (.var "query") (.int 1)])]) [.append "inner" (.call "turned" [.var "clause", .sub (.var "query") (.int 1)])] [.append "kept" (.var "clause")]],
    .ret (.call "over" [.var "kept", .tup [.str "group", .sub (.var "query") (.int 1), .sub (.var "query") (.int 2), .call "placed" [.sub (.var "query") (.int 3), .var "inner", .var "widths"]]])]⟩
noncomputable def fn_placed : Fn := ⟨["query", "clauses", "widths"], [
    .assign "word" (.sub (.var "query") (.int 0)),
    .ite (.cmp .Eq (.var "word") (.str "sieve")) [.ret (.call "placed" [.sub (.var "query") (.int 2), .bin .Add (.lcp (.sub (.var "query") (.int 1))) (.var "clauses"), .var "widths"])] [],
    .ite (.cmp .Eq (.var "word") (.str "pick")) [.assign "inner" (.comp (.call "turned" [.var "clause", .sub (.var "query") (.int 1)]) "clause" (.var "clauses") []), .ret (.tup [.str "pick", .sub (.var "query") (.int 1), .call "placed" [.sub (.var "query") (.int 2), .var "inner", .var "widths"]])] [],
    .ite (.cmp .Eq (.var "word") (.str "order")) [.ret (.tup [.str "order", .sub (.var "query") (.int 1), .call "placed" [.sub (.var "query") (.int 2), .var "clauses", .var "widths"]])] [],
    .ite (.cmp .Eq (.var "word") (.str "once")) [.ret (.tup [.str "once", .call "placed" [.sub (.var "query") (.int 1), .var "clauses", .var "widths"]])] [],
    .ite (.cmp .Eq (.var "word") (.str "both")) [.assign "first" (.call "placed" [.sub (.var "query") (.int 1), .var "clauses", .var "widths"]), .ret (.tup [.str "both", .var "first", .call "placed" [.sub (.var "query") (.int 2), .var "clauses", .var "widths"]])] [],
    .ite (.cmp .Eq (.var "word") (.str "join")) [.ret (.call "through_join" [.var "query", .var "clauses", .var "widths"])] [],
    .ite (.cmp .Eq (.var "word") (.str "group")) [.ret (.call "through_group" [.var "query", .var "clauses", .var "widths"])] [],
    .ite (.cmp .Eq (.var "word") (.str "first")) [.ret (.call "over" [.var "clauses", .tup [.str "first", .sub (.var "query") (.int 1), .call "placed" [.sub (.var "query") (.int 2), .lst [], .var "widths"]]])] [],
    .ret (.call "over" [.var "clauses", .var "query"])]⟩
noncomputable def fn_plan : Fn := ⟨["query", "widths"], [
    .expr (.call "width" [.var "query", .var "widths"]),
    .ret (.call "placed" [.var "query", .lst [], .var "widths"])]⟩
structure BP (P : List (String × Fn)) : Prop extends BW P where
  tu : P.lookup "turned" = some fn_turned
  ov : P.lookup "over" = some fn_over
  ip : P.lookup "is_pair" = some fn_is_pair
  tj : P.lookup "through_join" = some fn_through_join
  tg : P.lookup "through_group" = some fn_through_group
  pl : P.lookup "placed" = some fn_placed
  pn : P.lookup "plan" = some fn_plan
/-- a test on other places -/
noncomputable def turnN (f : Nat → Nat) (t : D) : D := match t with
  | .tup [w, .int p, .str k, o] => .tup [w, natD (f p.toNat), .str k, if k == Str.ofString "col" then (match o with | .int q => natD (f q.toNat) | _ => .none) else o]
  | _ => .none
theorem turnN_col (f : Nat → Nat) (w : String) (p q : Nat) : turnN f (tst w p "col" (.int q)) = .tup [.str (Str.ofString w), natD (f p), .str (Str.ofString "col"), natD (f q)] := by
  show D.tup [_, _, _, if _ then _ else _] = _
  rw [if_pos col_t]; rfl
theorem turnN_is (f : Nat → Nat) (w : String) (p : Nat) (o : D) : turnN f (tst w p "is" o) = .tup [.str (Str.ofString w), natD (f p), .str (Str.ofString "is"), o] := by
  show D.tup [_, _, _, if _ then _ else _] = _
  rw [if_neg (by rw [col_f]; exact Bool.false_ne_true)]; rfl
theorem turnN_tst {m m' : Nat} {f : Nat → Nat} {t : D} (ht : Tst m t) (hf : ∀ p : Nat, (p : Int) ∈ plsV t → f p < m') : Tst m' (turnN f t) := by
  obtain ⟨w, p, hw, _, ⟨q, _, rfl⟩ | ⟨o, ho, rfl⟩⟩ := ht
  · rw [pls_col] at hf
    exact ⟨w, f p, hw, hf p (.head _), .inl ⟨f q, hf q (.tail _ (.head _)), turnN_col f w p q⟩⟩
  · rw [pls_is] at hf
    exact ⟨w, f p, hw, hf p (.head _), .inr ⟨o, ho, turnN_is f w p o⟩⟩
theorem turnN_cls {m m' : Nat} {f : Nat → Nat} {c : List D} (hc : ClsOk m c) (hf : ∀ t ∈ c, ∀ p : Nat, (p : Int) ∈ plsV t → f p < m') : ClsOk m' (c.map (turnN f)) :=
  ⟨fun t ht => by
    obtain ⟨u, hu, rfl⟩ := List.mem_map.mp ht
    exact turnN_tst (hc.1 u hu) (hf u hu), by rw [List.length_map]; exact hc.2⟩
theorem pls_nat {m : Nat} {t : D} (ht : Tst m t) {z : Int} (hz : z ∈ plsV t) : ∃ p : Nat, z = p ∧ p < m := by
  obtain ⟨w, p, _, hp, ⟨q, hq, rfl⟩ | ⟨o, _, rfl⟩⟩ := ht
  · rw [pls_col] at hz
    rcases List.mem_cons.mp hz with rfl | hz
    · exact ⟨p, rfl, hp⟩
    · exact ⟨q, List.mem_singleton.mp hz, hq⟩
  · rw [pls_is] at hz
    exact ⟨p, List.mem_singleton.mp hz, hp⟩
section
variable {P : List (String × Fn)} {X : CF} {m : Nat}
theorem turned (B : BP P) (n : Nat) {ts : List D} {pl : D} {f : Nat → Nat} (ht : ∀ t ∈ ts, Tst m t) (hl : ts.length ≤ 31) (hp : ∀ t ∈ ts, ∀ p : Nat, (p : Int) ∈ plsV t → subD pl (.int p) = some (natD (f p))) : (callN P X (n + 1)).call "turned" [.tup ts, pl] = some (.tup (ts.map (turnN f)), false) := by
  have hbig : 2000 < big := by decide
  refine run_call B.tu rfl ?_
  refine r_step (p_assign (d := .list []) (fr := true) rfl) ?_
  obtain ⟨σ', ⟨_, i1⟩, h3⟩ := loop_inv (cf := callN P X n) (body := [.assign "other" (.sub (.var "test") (.int 3)), .ite (.cmp .Eq (.sub (.var "test") (.int 2)) (.str "col")) [.assign "other" (.sub (.var "places") (.sub (.var "test") (.int 3)))] [], .append "found" (.tup [.sub (.var "test") (.int 0), .sub (.var "places") (.sub (.var "test") (.int 1)), .sub (.var "test") (.int 2), .var "other"])]) (z := "test")
    (fun a σ => Has σ "places" pl ∧ OwnV σ "found" (.list (a.map (turnN f)))) ts [] [("clause", (false, .tup ts)), ("places", (false, pl)), ("found", (true, .list []))] ⟨(h_consn rfl h_cons), rfl⟩ (by
      rintro a it b σ hab ⟨i0, i1⟩
      rw [List.nil_append] at hab
      have hit : it ∈ ts := by rw [hab]; simp
      have hal : a.length < ts.length := by rw [hab]; simp
      obtain ⟨w, p, hw, _, ⟨q, hq, rfl⟩ | ⟨o, ho, rfl⟩⟩ := ht it hit
      · rw [List.map_append, List.map_cons, List.map_nil, turnN_col]
        refine o_step (p_assign (d := .int q) (fr := false) (v_map (v_sub (x := tst w p "col" (.int q)) (y := .int 3) (v_var (hr_vis h_eq)) (e_int _ _ _) rfl) rfl rfl)) ?_
        refine o_if (k := true) (v_cmp (v_sub (x := tst w p "col" (.int q)) (y := .int 2) (v_var (hr_vis (h_ne rfl (h_st h_eq)))) (e_int _ _ _) rfl) (e_str _ _ _) eq_col) rfl (fun _ => ?_) nofun
        refine o_step (p_assign (d := natD (f q)) (fr := false) (v_map (v_sub (x := pl) (y := .int q) (v_var (hr_vis (h_ne rfl (h_st (h_ne rfl i0))))) (v_sub (x := tst w p "col" (.int q)) (y := .int 3) (v_var (hr_vis (h_ne rfl (h_st h_eq)))) (e_int _ _ _) rfl) (hp _ hit q (by rw [pls_col]; exact .tail _ (.head _)))) rfl rfl)) ?_
        refine o_step (p_append (d := .tup [.str (Str.ofString w), natD (f p), .str (Str.ofString "col"), natD (f q)]) (ds := a.map (turnN f))
          (v_tup (v_cons (v_sub (x := tst w p "col" (.int q)) (y := .int 0) (v_var (hr_vis (h_ne rfl (h_st (h_ne rfl (h_st h_eq)))))) (e_int _ _ _) rfl) (v_cons (v_sub (x := pl) (y := .int p) (v_var (hr_vis (h_ne rfl (h_st (h_ne rfl (h_st (h_ne rfl i0))))))) (v_sub (x := tst w p "col" (.int q)) (y := .int 1) (v_var (hr_vis (h_ne rfl (h_st (h_ne rfl (h_st h_eq)))))) (e_int _ _ _) rfl) (hp _ hit p (by rw [pls_col]; exact .head _))) (v_cons (v_sub (x := tst w p "col" (.int q)) (y := .int 2) (v_var (hr_vis (h_ne rfl (h_st (h_ne rfl (h_st h_eq)))))) (e_int _ _ _) rfl) (v_cons (v_var (hr_vis h_eq)) (es_nil _ _))))) (Nat.le_of_ble_eq_true rfl)) (?_ : OwnV _ _ _) (by rw [List.length_map]; omega)) (o_nil ⟨rfl, ?_, w_eq⟩)
        · exact w_st rfl (w_ne rfl (w_st rfl (w_ne rfl (w_st rfl (w_ne rfl i1)))))
        · exact h_ne rfl (h_st (h_ne rfl (h_st (h_ne rfl (h_st (h_ne rfl i0))))))
      · rw [List.map_append, List.map_cons, List.map_nil, turnN_is]
        refine o_step (p_cell (d := o) (fr := false) (v_map (v_sub (x := tst w p "is" o) (y := .int 3) (v_var (hr_vis h_eq)) (e_int _ _ _) rfl) rfl rfl) ho.cell) ?_
        refine o_if (k := false) (v_cmp (v_sub (x := tst w p "is" o) (y := .int 2) (v_var (hr_vis (h_ne rfl h_eq))) (e_int _ _ _) rfl) (e_str _ _ _) eq_is) rfl nofun fun _ => ?_
        refine o_step (p_append (d := .tup [.str (Str.ofString w), natD (f p), .str (Str.ofString "is"), o]) (ds := a.map (turnN f))
          (v_tup (v_cons (v_sub (x := tst w p "is" o) (y := .int 0) (v_var (hr_vis (h_ne rfl h_eq))) (e_int _ _ _) rfl) (v_cons (v_sub (x := pl) (y := .int p) (v_var (hr_vis (h_ne rfl (h_ne rfl i0)))) (v_sub (x := tst w p "is" o) (y := .int 1) (v_var (hr_vis (h_ne rfl h_eq))) (e_int _ _ _) rfl) (hp _ hit p (by rw [pls_is]; exact .head _))) (v_cons (v_sub (x := tst w p "is" o) (y := .int 2) (v_var (hr_vis (h_ne rfl h_eq))) (e_int _ _ _) rfl) (v_cons (v_var (hr_vis h_eq)) (es_nil _ _))))) (Nat.le_of_ble_eq_true rfl)) (?_ : OwnV _ _ _) (by rw [List.length_map]; omega)) (o_nil ⟨rfl, ?_, w_eq⟩)
        · exact w_st rfl (w_ne rfl (w_ne rfl i1))
        · exact h_ne rfl (h_st (h_ne rfl (h_ne rfl i0))))
  exact r_for (x := .tup ts) (its := ts) rfl rfl h3 (r_ret (v_map (v_blt (v_cons (d := .list (ts.map (turnN f))) (v_var (hr_vis (h_own i1))) (es_nil _ _)) rfl) rfl rfl) rfl)
theorem over_eq (B : BP P) (n : Nat) {cs : List (List D)} {q : D} (hq : q.isCell = false) : (callN P X (n + 1)).call "over" [.list (cs.map clD), q] = some (if cs = [] then q else .tup [sD "sieve", .tup (cs.map clD), q], false) := by
  refine run_call B.ov rfl ?_
  cases cs with
  | nil =>
    rw [if_pos rfl]
    exact r_if (k := true) (x := .bool true) rfl rfl (fun _ => r_retv rfl) nofun
  | cons c cs =>
    rw [if_neg (by nofun)]
    refine r_if (k := false) (x := .bool false) rfl rfl nofun fun _ => ?_
    exact r_ret (v_map (v_tup (v_cons (e_str _ _ _) (v_cons (v_blt (v_cons (d := .list ((c :: cs).map clD)) rfl (es_nil _ _)) rfl) (v_cons (d := q) rfl (es_nil _ _)))) (Nat.le_of_ble_eq_true rfl)) rfl rfl) rfl
end

set_option maxRecDepth 100000
set_option maxHeartbeats 400000
/-! where a clause goes -/
noncomputable def plsC (c : List D) : List Int := c.flatMap plsV
noncomputable def aheadB (own : Nat) (c : List D) : Bool := (plsC c).all fun z => decide (z < own)
noncomputable def behindB (own : Nat) (c : List D) : Bool := (plsC c).all fun z => decide ((own : Int) ≤ z)
noncomputable def pairT (t : D) : Bool := match t with
  | .tup [.str w, _, .str k, _] => w == Str.ofString "same" && k == Str.ofString "col"
  | _ => false
noncomputable def pairB (c : List D) : Bool := match c with
  | [t] => pairT t
  | _ => false
theorem pairB_two (t u : D) (r : List D) : pairB (t :: u :: r) = false := rfl
noncomputable def cat (own : Nat) (c : List D) : Nat := if aheadB own c = true then 0 else if behindB own c = true then 1 else if pairB c = true then 2 else 3
theorem all_iff {l l' : List Int} (h : ∀ z, z ∈ l ↔ z ∈ l') (p : Int → Bool) : l.all p = l'.all p := by
  rw [Bool.eq_iff_iff, List.all_eq_true, List.all_eq_true]
  exact ⟨fun q z hz => q z ((h z).mpr hz), fun q z hz => q z ((h z).mp hz)⟩
theorem all_us (c : List D) (p : Int → Bool) : (usort (plsC c)).all p = (plsC c).all p := all_iff (fun z => usort_mem z _) p
theorem srt_last {l : List Int} (h : l.Pairwise (· < ·)) {r : List Int} {z : Int} (e : l = r ++ [z]) (k : Int) : (l.all fun x => decide (x < k)) = decide (z < k) := by
  subst e
  rw [List.pairwise_append] at h
  rw [Bool.eq_iff_iff, List.all_eq_true, decide_eq_true_eq]
  constructor
  · intro q; exact of_decide_eq_true (q z (List.mem_append_right _ (.head _)))
  · intro q x hx
    refine decide_eq_true ?_
    rcases List.mem_append.mp hx with hx | hx
    · have := h.2.2 x hx z (.head _); omega
    · rw [List.mem_singleton.mp hx]; exact q
theorem srt_head {l : List Int} {r : List Int} {a : Int} (h : (a :: r).Pairwise (· < ·)) (k : Int) : ((a :: r).all fun x => decide (k ≤ x)) = decide (k ≤ a) := by
  rw [List.pairwise_cons] at h
  rw [Bool.eq_iff_iff, List.all_eq_true, decide_eq_true_eq]
  constructor
  · intro q; exact of_decide_eq_true (q a (.head _))
  · intro q x hx
    refine decide_eq_true ?_
    rcases List.mem_cons.mp hx with rfl | hx
    · exact q
    · have := h.1 x hx; omega
theorem sub_last {r : List D} {z : D} : subD (.list (r ++ [z])) (.int (-1)) = some z := by
  show (idx (-1) (r ++ [z]).length).bind _ = _
  have : idx (-1) (r ++ [z]).length = some r.length := by
    unfold idx
    rw [if_neg (by omega), if_pos (by simp; omega)]
    simp
    omega
  rw [this]
  simp
section
variable {cf : CF} {σ : St} {c : List D}
/-- places == [] or places[-1] < own -/
theorem v_ahead {e : ME} {own : Nat} (h : Has σ "places" (.list ((usort (plsC c)).map .int))) (he : evE cf (vis σ) e = some (.int own)) :
    evE cf (vis σ) (.bop .Or [.cmp .Eq (.var "places") (.lst []), .cmp .Lt (.sub (.var "places") (.neg (.int 1))) e]) = some (.bool (aheadB own c)) := by
  have hs := usort_srt (plsC c)
  unfold aheadB
  rw [← all_us]
  generalize usort (plsC c) = l at *
  rcases List.eq_nil_or_concat l with rfl | ⟨r, z, rfl⟩
  · exact v_or (k := true) (l := true) (v_cmp (v_var (hr_vis h)) (v_lst (es_nil _ _) (Nat.zero_le _)) rfl) nofun
  · rw [List.concat_eq_append] at *
    rw [srt_last hs rfl]
    have h1 : cmpD .Eq (.list ((r ++ [z]).map .int)) (.list []) = some (.bool false) := by
      show (if ((r ++ [z]).map D.int).length = 0 then _ else some false).map D.bool = _
      rw [if_neg (by simp)]; rfl
    rw [List.map_append] at h h1
    exact v_or (k := false) (l := decide (z < own)) (v_cmp (v_var (hr_vis h)) (v_lst (es_nil _ _) (Nat.zero_le _)) h1) fun _ => v_bop1 (v_cmp (v_sub (v_var (hr_vis h)) v_neg1 sub_last) he rfl)
theorem us_ne {own : Nat} (h : aheadB own c = false) : ∃ a r, usort (plsC c) = a :: r := by
  cases e : usort (plsC c) with
  | nil =>
    unfold aheadB at h
    rw [← all_us, e] at h; cases h
  | cons a r => exact ⟨a, r, rfl⟩
/-- places[0] >= own -/
theorem v_behind {own : Nat} (ha : aheadB own c = false) (h : Has σ "places" (.list ((usort (plsC c)).map .int))) (ho : Has σ "own" (.int own)) :
    evE cf (vis σ) (.cmp .GtE (.sub (.var "places") (.int 0)) (.var "own")) = some (.bool (behindB own c)) := by
  have hs := usort_srt (plsC c)
  obtain ⟨a, r, e⟩ := us_ne ha
  unfold behindB
  rw [e] at h hs
  rw [← all_us, e, srt_head (l := []) hs]
  exact v_cmp (x := .int a) (v_sub (v_var (hr_vis h)) (e_int _ _ _) (sub_l (k := 0) (by simp) rfl)) (v_var (hr_vis ho)) rfl
end
theorem tst_parts {m : Nat} {t : D} (ht : Tst m t) : ∃ w k o p, t = .tup [.str w, .int p, .str k, o] ∧ (k = Str.ofString "col" ∨ k = Str.ofString "is") := by
  obtain ⟨w, p, _, _, ⟨q, _, rfl⟩ | ⟨o, _, rfl⟩⟩ := ht
  · exact ⟨_, _, _, _, rfl, .inl rfl⟩
  · exact ⟨_, _, _, _, rfl, .inr rfl⟩
section
variable {P : List (String × Fn)} {X : CF} {m : Nat}
theorem is_pair (B : BP P) (n : Nat) {c : List D} (hc : ClsOk m c) : (callN P X (n + 1)).call "is_pair" [clD c] = some (.bool (pairB c), false) := by
  refine run_call B.ip rfl ?_
  show Run _ fn_is_pair.body [("clause", (false, .tup c))] _ _
  generalize callN P X n = cf at *
  match c, hc with
  | [], _ => exact r_ret (v_map (v_and (k := false) (l := false) (v_cmp (x := .int 0) (y := .int 1) rfl rfl rfl) nofun) rfl rfl) rfl
  | t :: u :: r, _ =>
    have h1 : cmpD .Eq (.int ((t :: u :: r).length : Nat)) (.int 1) = some (.bool false) := by
      show some (D.bool (((t :: u :: r).length : Int) == 1)) = _
      rw [show ((((t :: u :: r).length : Nat) : Int) == 1) = false from by rw [beq_eq_false_iff_ne]; simp; omega]
    rw [pairB_two]
    exact r_ret (v_map (v_and (k := false) (l := false) (v_cmp (v_blt (v_cons (d := .tup (t :: u :: r)) rfl (es_nil _ _)) rfl) (e_int _ _ _) h1) nofun) rfl rfl) rfl
  | [t], hc =>
    obtain ⟨w, k, o, p, rfl, hk⟩ := tst_parts (hc.1 t (.head _))
    have e : pairB [.tup [.str w, .int p, .str k, o]] = (true && ((w == Str.ofString "same") && (k == Str.ofString "col"))) := rfl
    rw [e]
    exact r_ret (v_map (v_and (k := true) (v_cmp (x := .int 1) (y := .int 1) rfl rfl rfl) fun _ => v_and (k := w == Str.ofString "same") (l := k == Str.ofString "col") (v_cmp (v_sub (x := .tup [.str w, .int p, .str k, o]) (y := .int 0) rfl rfl rfl) (e_str _ _ _) rfl) fun _ => v_bop1 (v_cmp (v_sub (x := .tup [.str w, .int p, .str k, o]) (y := .int 2) rfl rfl rfl) (e_str _ _ _) rfl)) rfl rfl) rfl
end
/-- the pair that a clause becomes -/
noncomputable def prOf (own : Nat) (c : List D) : Nat × Nat := match usort (plsC c) with
  | a :: b :: _ => (a.toNat, b.toNat - own)
  | _ => (0, 0)
theorem pr_of {own : Nat} {m : Nat} {c : List D} (hc : ClsOk m c) (h : cat own c = 2) : ∃ a b : Nat, usort (plsC c) = [(a : Int), (b : Int)] ∧ a < own ∧ own ≤ b ∧ b < m ∧ prOf own c = (a, b - own) := by
  unfold cat at h
  split at h
  · cases h
  rename_i h1
  split at h
  · cases h
  rename_i h2
  split at h
  case isFalse => cases h
  rename_i h3
  match c, hc, h3 with
  | [], _, h3 => cases h3
  | t :: u :: r, _, h3 => rw [pairB_two] at h3; cases h3
  | [t], hc, h3 =>
    obtain ⟨w, p, hw, hp, ⟨q, hq, rfl⟩ | ⟨o, ho, rfl⟩⟩ := hc.1 t (.head _)
    · have e : plsC [tst w p "col" (.int q)] = [(p : Int), (q : Int)] := rfl
      unfold aheadB at h1
      unfold behindB at h2
      rw [e] at h1 h2
      simp only [List.all_cons, List.all_nil, Bool.and_true, Bool.and_eq_true, decide_eq_true_eq, not_and, Int.not_lt, Int.not_le] at h1 h2
      unfold prOf
      rw [e]
      by_cases hpq : p < q
      · have hu : usort [(p : Int), (q : Int)] = [(p : Int), (q : Int)] := by
          show insU p (insU q []) = _
          simp only [insU]
          rw [if_pos (by omega)]
        rw [hu]
        exact ⟨p, q, rfl, by omega, by omega, hq, by simp⟩
      · have hu : usort [(p : Int), (q : Int)] = [(q : Int), (p : Int)] := by
          show insU p (insU q []) = _
          simp only [insU]
          rw [if_neg (by omega), if_neg (by omega)]
        rw [hu]
        exact ⟨q, p, rfl, by omega, by omega, hp, by simp⟩
    · have h3 : ((Str.ofString w == Str.ofString "same") && (Str.ofString "is" == Str.ofString "col")) = true := h3
      rw [col_f, Bool.and_false] at h3; cases h3

set_option maxRecDepth 100000
set_option maxHeartbeats 400000
noncomputable def aheadC (own : Nat) (cl : List (List D)) : List (List D) := cl.filter fun c => cat own c == 0
noncomputable def behindC (own : Nat) (cl : List (List D)) : List (List D) := (cl.filter fun c => cat own c == 1).map fun c => c.map (turnN (· - own))
noncomputable def pairsC (own : Nat) (cl : List (List D)) : List (Nat × Nat) := (cl.filter fun c => cat own c == 2).map (prOf own)
noncomputable def keptC (own : Nat) (cl : List (List D)) : List (List D) := cl.filter fun c => cat own c == 3
noncomputable def joinBody : List MS := [.assign "places" (.call "places_of" [.var "clause"]), .ite (.bop .Or [.cmp .Eq (.var "places") (.lst []), .cmp .Lt (.sub (.var "places") (.neg (.int 1))) (.var "own")]) [.append "ahead" (.var "clause")] [.ite (.cmp .GtE (.sub (.var "places") (.int 0)) (.var "own")) [.append "behind" (.call "turned" [.var "clause", .var "moved"])] [.ite (.call "is_pair" [.var "clause"]) [.append "pairs" (.tup [.sub (.var "places") (.int 0), .bin .Sub (.sub (.var "places") (.int 1)) (.var "own")])] [.append "kept" (.var "clause")]]]]
structure JInv (own : Nat) (mv q T : D) (pre : List (List D)) (σ : St) : Prop where
  ow : Has σ "own" (.int own)
  mo : Has σ "moved" mv
  qu : Has σ "query" q
  wi : Has σ "widths" T
  ah : OwnV σ "ahead" (.list ((aheadC own pre).map clD))
  be : OwnV σ "behind" (.list ((behindC own pre).map clD))
  pr : OwnV σ "pairs" (.list ((pairsC own pre).map prT))
  ke : OwnV σ "kept" (.list ((keptC own pre).map clD))
theorem filt_snoc {α : Type} (p : α → Bool) (l : List α) (x : α) : (l ++ [x]).filter p = l.filter p ++ if p x = true then [x] else [] := by
  rw [List.filter_append, List.filter_cons, List.filter_nil]
section
variable {P : List (String × Fn)} {X : CF} {m : Nat}
theorem join_turn (B : BP P) (n : Nat) {own m2 : Nat} {mv q T : D} (hmv : ∀ p : Nat, own ≤ p → p < own + m2 → subD mv (.int p) = some (natD (p - own))) {pre : List (List D)} {c : List D} (hc : ClsOk (own + m2) c) (hl : pre.length ≤ 5000) {σ : St} (I : JInv own mv q T pre σ) :
    Out (callN P X (n + 1)) joinBody (setv σ "clause" (false, clD c)) fun fl σ' => fl = .next ∧ JInv own mv q T (pre ++ [c]) σ' := by
  obtain ⟨i1, i2, i3, i4, i5, i6, i7, i8⟩ := I
  have hbig : 5000 < big := by decide
  have k1 : (callN P X (n + 1)).call "places_of" [clD c] = some (.list ((usort (plsC c)).map .int), true) := places_of (X := X) B.toBW n hc.1 hc.2
  have k3 := is_pair (X := X) B n hc
  have la : ∀ p : List D → Bool, (pre.filter p).length ≤ 5000 := fun p => Nat.le_trans (List.length_filter_le _ _) hl
  have c0 : Has (setv σ "clause" (false, clD c)) "clause" (clD c) := h_eq
  have c1 : Has (setv σ "clause" (false, clD c)) "own" (.int own) := h_ne rfl i1
  have c2 : Has (setv σ "clause" (false, clD c)) "moved" mv := h_ne rfl i2
  have c3 : Has (setv σ "clause" (false, clD c)) "query" q := h_ne rfl i3
  have c4 : Has (setv σ "clause" (false, clD c)) "widths" T := h_ne rfl i4
  have c5 : OwnV (setv σ "clause" (false, clD c)) "ahead" (.list ((aheadC own pre).map clD)) := w_ne rfl i5
  have c6 : OwnV (setv σ "clause" (false, clD c)) "behind" (.list ((behindC own pre).map clD)) := w_ne rfl i6
  have c7 : OwnV (setv σ "clause" (false, clD c)) "pairs" (.list ((pairsC own pre).map prT)) := w_ne rfl i7
  have c8 : OwnV (setv σ "clause" (false, clD c)) "kept" (.list ((keptC own pre).map clD)) := w_ne rfl i8
  generalize setv σ "clause" (false, clD c) = τ at *
  refine o_step (p_assign (v_call (v_cons (v_var (hr_vis c0)) (es_nil _ _)) k1)) ?_
  generalize hd : D.list ((usort (plsC c)).map .int) = pl at *
  have d0 : Has (setv (settle pl (ME.names (.call "places_of" [.var "clause"])) τ) "places" (true, pl)) "clause" (clD c) := h_ne rfl (h_st c0)
  have d1 : Has (setv (settle pl (ME.names (.call "places_of" [.var "clause"])) τ) "places" (true, pl)) "own" (.int own) := h_ne rfl (h_st c1)
  have d2 : Has (setv (settle pl (ME.names (.call "places_of" [.var "clause"])) τ) "places" (true, pl)) "moved" mv := h_ne rfl (h_st c2)
  have d3 : Has (setv (settle pl (ME.names (.call "places_of" [.var "clause"])) τ) "places" (true, pl)) "query" q := h_ne rfl (h_st c3)
  have d4 : Has (setv (settle pl (ME.names (.call "places_of" [.var "clause"])) τ) "places" (true, pl)) "widths" T := h_ne rfl (h_st c4)
  have d5 : OwnV (setv (settle pl (ME.names (.call "places_of" [.var "clause"])) τ) "places" (true, pl)) "ahead" (.list ((aheadC own pre).map clD)) := w_ne rfl (w_st rfl c5)
  have d6 : OwnV (setv (settle pl (ME.names (.call "places_of" [.var "clause"])) τ) "places" (true, pl)) "behind" (.list ((behindC own pre).map clD)) := w_ne rfl (w_st rfl c6)
  have d7 : OwnV (setv (settle pl (ME.names (.call "places_of" [.var "clause"])) τ) "places" (true, pl)) "pairs" (.list ((pairsC own pre).map prT)) := w_ne rfl (w_st rfl c7)
  have d8 : OwnV (setv (settle pl (ME.names (.call "places_of" [.var "clause"])) τ) "places" (true, pl)) "kept" (.list ((keptC own pre).map clD)) := w_ne rfl (w_st rfl c8)
  have d9 : Has (setv (settle pl (ME.names (.call "places_of" [.var "clause"])) τ) "places" (true, pl)) "places" (.list ((usort (plsC c)).map .int)) := hd ▸ h_eq
  generalize setv (settle pl (ME.names (.call "places_of" [.var "clause"])) τ) "places" (true, pl) = υ at *
  have sn : ∀ k, (cat own c == k) = decide (cat own c = k) := fun k => by rw [Bool.eq_iff_iff, beq_iff_eq, decide_eq_true_eq]
  refine o_if (k := aheadB own c) (v_ahead d9 (v_var (hr_vis d1))) rfl (fun ha => ?_) fun ha => ?_
  · have hcat : cat own c = 0 := by unfold cat; rw [if_pos ha]
    refine o_step (p_append (d := clD c) (ds := (aheadC own pre).map clD) (v_var (hr_vis d0)) (w_st rfl d5) (by rw [List.length_map]; exact Nat.lt_of_le_of_lt (la _) hbig)) (o_nil ⟨rfl, h_ne rfl (h_st d1), h_ne rfl (h_st d2), h_ne rfl (h_st d3), h_ne rfl (h_st d4), ?_, ?_, ?_, ?_⟩)
    · unfold aheadC; rw [filt_snoc, hcat, List.map_append]; exact w_eq
    · unfold behindC; rw [filt_snoc, hcat, if_neg (by decide), List.append_nil]; exact w_ne rfl (w_st rfl d6)
    · unfold pairsC; rw [filt_snoc, hcat, if_neg (by decide), List.append_nil]; exact w_ne rfl (w_st rfl d7)
    · unfold keptC; rw [filt_snoc, hcat, if_neg (by decide), List.append_nil]; exact w_ne rfl (w_st rfl d8)
  refine o_if (k := behindB own c) (v_behind ha d9 d1) rfl (fun hb => ?_) fun hb => ?_
  · have hcat : cat own c = 1 := by unfold cat; rw [if_neg (by rw [ha]; exact Bool.false_ne_true), if_pos hb]
    have k2 : (callN P X (n + 1)).call "turned" [clD c, mv] = some (clD (c.map (turnN (· - own))), false) := turned (X := X) B n hc.1 hc.2 fun t ht p hp => by
      have hz : (p : Int) ∈ plsC c := List.mem_flatMap.mpr ⟨t, ht, hp⟩
      have h1 := of_decide_eq_true (List.all_eq_true.mp hb _ hz)
      obtain ⟨p', e, hp'⟩ := pls_nat (hc.1 t ht) hp
      have : p = p' := by omega
      exact hmv p (by omega) (by omega)
    refine o_step (p_append (d := clD (c.map (turnN (· - own)))) (ds := (behindC own pre).map clD) (v_callE (v_cons (v_var (hr_vis d0)) (v_cons (v_var (hr_vis d2)) (es_nil _ _))) k2) (w_st rfl d6) (by unfold behindC; rw [List.length_map, List.length_map]; exact Nat.lt_of_le_of_lt (la _) hbig)) (o_nil ⟨rfl, h_ne rfl (h_st d1), h_ne rfl (h_st d2), h_ne rfl (h_st d3), h_ne rfl (h_st d4), ?_, ?_, ?_, ?_⟩)
    · unfold aheadC; rw [filt_snoc, hcat, if_neg (by decide), List.append_nil]; exact w_ne rfl (w_st rfl d5)
    · unfold behindC; rw [filt_snoc, hcat, if_pos (by decide), List.map_append, List.map_append]; exact w_eq
    · unfold pairsC; rw [filt_snoc, hcat, if_neg (by decide), List.append_nil]; exact w_ne rfl (w_st rfl d7)
    · unfold keptC; rw [filt_snoc, hcat, if_neg (by decide), List.append_nil]; exact w_ne rfl (w_st rfl d8)
  refine o_if (k := pairB c) (v_callE (v_cons (v_var (hr_vis d0)) (es_nil _ _)) k3) rfl (fun hp => ?_) fun hp => ?_
  · have hcat : cat own c = 2 := by unfold cat; rw [if_neg (by rw [ha]; exact Bool.false_ne_true), if_neg (by rw [hb]; exact Bool.false_ne_true), if_pos hp]
    obtain ⟨a, b, e1, h1, h2, h3, e2⟩ := pr_of hc hcat
    rw [e1] at d9
    have hv : evE (callN P X (n + 1)) (vis υ) (.tup [.sub (.var "places") (.int 0), .bin .Sub (.sub (.var "places") (.int 1)) (.var "own")]) = some (prT (prOf own c)) := by
      rw [e2]
      show _ = some (D.tup [.int a, .int (b - own : Nat)])
      rw [Int.ofNat_sub h2]
      exact v_tup (v_cons (v_sub (v_var (hr_vis d9)) (e_int _ _ _) rfl) (v_cons (v_bin (x := .int b) (v_sub (v_var (hr_vis d9)) (e_int _ _ _) rfl) (v_var (hr_vis d1)) rfl) (es_nil _ _))) (Nat.le_of_ble_eq_true rfl)
    refine o_step (p_append (d := prT (prOf own c)) (ds := (pairsC own pre).map prT) hv (w_st rfl d7) (by unfold pairsC; rw [List.length_map, List.length_map]; exact Nat.lt_of_le_of_lt (la _) hbig)) (o_nil ⟨rfl, h_ne rfl (h_st d1), h_ne rfl (h_st d2), h_ne rfl (h_st d3), h_ne rfl (h_st d4), ?_, ?_, ?_, ?_⟩)
    · unfold aheadC; rw [filt_snoc, hcat, if_neg (by decide), List.append_nil]; exact w_ne rfl (w_st rfl d5)
    · unfold behindC; rw [filt_snoc, hcat, if_neg (by decide), List.append_nil]; exact w_ne rfl (w_st rfl d6)
    · unfold pairsC; rw [filt_snoc, hcat, if_pos (by decide), List.map_append, List.map_append]; exact w_eq
    · unfold keptC; rw [filt_snoc, hcat, if_neg (by decide), List.append_nil]; exact w_ne rfl (w_st rfl d8)
  · have hcat : cat own c = 3 := by unfold cat; rw [if_neg (by rw [ha]; exact Bool.false_ne_true), if_neg (by rw [hb]; exact Bool.false_ne_true), if_neg (by rw [hp]; exact Bool.false_ne_true)]
    refine o_step (p_append (d := clD c) (ds := (keptC own pre).map clD) (v_var (hr_vis d0)) (w_st rfl d8) (by unfold keptC; rw [List.length_map]; exact Nat.lt_of_le_of_lt (la _) hbig)) (o_nil ⟨rfl, h_ne rfl (h_st d1), h_ne rfl (h_st d2), h_ne rfl (h_st d3), h_ne rfl (h_st d4), ?_, ?_, ?_, ?_⟩)
    · unfold aheadC; rw [filt_snoc, hcat, if_neg (by decide), List.append_nil]; exact w_ne rfl (w_st rfl d5)
    · unfold behindC; rw [filt_snoc, hcat, if_neg (by decide), List.append_nil]; exact w_ne rfl (w_st rfl d6)
    · unfold pairsC; rw [filt_snoc, hcat, if_neg (by decide), List.append_nil]; exact w_ne rfl (w_st rfl d7)
    · unfold keptC; rw [filt_snoc, hcat, if_pos (by decide), List.map_append]; exact w_eq
end

set_option maxRecDepth 100000
set_option maxHeartbeats 400000
noncomputable def overD (cs : List (List D)) (q : D) : D := if cs = [] then q else .tup [sD "sieve", .tup (cs.map clD), q]
section
variable {P : List (String × Fn)} {X : CF}
theorem through_join (B : BP P) (n : Nat) {own m2 : Nat} (hm : own + m2 ≤ 5000) {I J T Da Db : D} {prs : List D} {cl : List (List D)} (hcl : ∀ c ∈ cl, ClsOk (own + m2) c) (hl : cl.length ≤ 5000) (hpl : prs.length ≤ 5000)
    (w1 : (callN P X (n + 1)).call "width" [I, T] = some (.int own, false)) (w2 : (callN P X (n + 1)).call "width" [J, T] = some (.int m2, false))
    (p1 : (callN P X (n + 1)).call "placed" [I, .list ((aheadC own cl).map clD), T] = some (Da, false)) (p2 : (callN P X (n + 1)).call "placed" [J, .list ((behindC own cl).map clD), T] = some (Db, false)) :
    (callN P X (n + 2)).call "through_join" [.tup [sD "join", I, J, .tup prs], .list (cl.map clD), T] = some (overD (keptC own cl) (.tup [sD "join", Da, Db, .tup (prs ++ (pairsC own cl).map prT)]), false) := by
  have hbig : 20000 < big := by decide
  refine run_call B.tj rfl ?_
  have ov := over_eq (X := X) B n (cs := keptC own cl) (q := .tup [sD "join", Da, Db, .tup (prs ++ (pairsC own cl).map prT)]) rfl
  refine r_step (p_assign (d := .int own) (fr := false) (v_call (v_cons (d := I) rfl (v_cons (d := T) rfl (es_nil _ _))) w1)) ?_
  refine r_step (p_assign (d := .int (own + m2 : Nat)) (fr := false) (v_map (v_bin (x := .int own) (y := .int m2) rfl (v_callE (v_cons (d := J) rfl (v_cons (d := T) rfl (es_nil _ _))) w2) (by rw [Int.natCast_add]; rfl)) rfl rfl)) ?_
  refine r_norm (σ' := [("query", (false, .tup [sD "join", I, J, .tup prs])), ("clauses", (false, .list (cl.map clD))), ("widths", (false, T)), ("own", (false, .int own)), ("many", (false, .int (own + m2 : Nat)))]) rfl ?_
  have hmv : evE (callN P X (n + 1)) (vis [("query", (false, .tup [sD "join", I, J, .tup prs])), ("clauses", (false, .list (cl.map clD))), ("widths", (false, T)), ("own", (false, .int own)), ("many", (false, .int (own + m2 : Nat)))]) (.comp (.bin .Sub (.var "place") (.var "own")) "place" (.blt "range" [.var "many"]) []) = some (.list ((List.range (own + m2)).map fun (i : Nat) => D.int ((i : Int) - own))) := by
    refine v_comp (v_blt (v_cons (d := .int (own + m2 : Nat)) rfl (es_nil _ _)) (blt_rng (by omega))) (items_rng _) (by rw [List.length_map, List.length_range]; omega) ?_
    have : ∀ l : List Nat, compM (compF (callN P X (n + 1)) (vis [("query", (false, .tup [sD "join", I, J, .tup prs])), ("clauses", (false, .list (cl.map clD))), ("widths", (false, T)), ("own", (false, .int own)), ("many", (false, .int (own + m2 : Nat)))]) (.bin .Sub (.var "place") (.var "own")) "place" []) (l.map fun (i : Nat) => D.int (i : Int)) = some (l.map fun (i : Nat) => D.int ((i : Int) - own)) := fun l => by
      induction l with
      | nil => rfl
      | cons x l ih =>
        rw [List.map_cons, compM, compF_nil (d := .int ((x : Int) - own)) (v_bin (x := .int x) (y := .int own) rfl rfl rfl)]
        dsimp only
        rw [ih]; rfl
    exact this _
  refine r_step (p_assign (v_map hmv rfl rfl)) ?_
  have hsub : ∀ p : Nat, own ≤ p → p < own + m2 → subD (.list ((List.range (own + m2)).map fun (i : Nat) => D.int ((i : Int) - own))) (.int p) = some (natD (p - own)) := fun p h1 h2 =>
    sub_l (by rw [List.length_map, List.length_range]; exact h2) (by rw [List.getElem?_map, List.getElem?_range h2]; show some (D.int ((p : Int) - own)) = some (D.int ((p - own : Nat) : Int)); rw [Int.ofNat_sub h1])
  generalize D.list ((List.range (own + m2)).map fun (i : Nat) => D.int ((i : Int) - own)) = mv at *
  refine r_step (p_assign (d := .list []) (fr := true) rfl) (r_step (p_assign (d := .list []) (fr := true) rfl) (r_step (p_assign (d := .list []) (fr := true) rfl) (r_step (p_assign (d := .list []) (fr := true) rfl) ?_)))
  have key : ∀ σ : St, Has σ "own" (.int own) → Has σ "moved" mv → Has σ "query" (.tup [sD "join", I, J, .tup prs]) → Has σ "widths" T → OwnV σ "ahead" (.list []) → OwnV σ "behind" (.list []) → OwnV σ "pairs" (.list []) → OwnV σ "kept" (.list []) → Has σ "clauses" (.list (cl.map clD)) → Run (callN P X (n + 1)) (fn_through_join.body.drop 7) σ (overD (keptC own cl) (.tup [sD "join", Da, Db, .tup (prs ++ (pairsC own cl).map prT)])) false := by
    intro σ i1 i2 i3 i4 i5 i6 i7 i8 hc
    obtain ⟨σ', ⟨pre, e, I'⟩, h3⟩ := loop_inv (cf := callN P X (n + 1)) (body := joinBody) (z := "clause") (fun a σ => ∃ pre, a = pre.map clD ∧ JInv own mv (.tup [sD "join", I, J, .tup prs]) T pre σ) (cl.map clD) [] (freeze ["clauses"] σ)
      ⟨[], rfl, h_fr i1, h_fr i2, h_fr i3, h_fr i4, w_fr rfl i5, w_fr rfl i6, w_fr rfl i7, w_fr rfl i8⟩ (by
        rintro a it b σ hab ⟨pre, rfl, I'⟩
        rw [List.nil_append] at hab
        obtain ⟨c, hcm, rfl⟩ := List.mem_map.mp (by rw [hab]; simp : it ∈ cl.map clD)
        have hlen := congrArg List.length hab
        simp only [List.length_map, List.length_append, List.length_cons] at hlen
        obtain ⟨fl, σ', ⟨rfl, q⟩, q2⟩ := join_turn (X := X) B n hsub (hcl c hcm) (by omega) I'
        exact ⟨.next, σ', ⟨rfl, pre ++ [c], by rw [List.map_append]; rfl, q⟩, q2⟩)
    have e' : cl = pre := by
      rw [List.nil_append] at e
      have inj : ∀ (l l' : List (List D)), l.map clD = l'.map clD → l = l' := fun l => by
        induction l with
        | nil => intro l' h; cases l' <;> first | rfl | cases h
        | cons x l ih => intro l' h; cases l' with
          | nil => cases h
          | cons y l' =>
            rw [List.map_cons, List.map_cons, List.cons.injEq] at h
            rw [ih l' h.2, D.tup.inj h.1]
      exact inj _ _ e
    subst e'
    obtain ⟨j1, j2, j3, j4, j5, j6, j7, j8⟩ := I'
    refine r_for (x := .list (cl.map clD)) (its := cl.map clD) (v_var (hr_vis hc)) rfl h3 ?_
    refine r_step (p_assign (v_call (v_cons (v_sub (v_var (hr_vis j3)) (e_int _ _ _) rfl) (v_cons (v_var (hr_vis (h_own j5))) (v_cons (v_var (hr_vis j4)) (es_nil _ _)))) p1)) ?_
    have a3 : Has (setv (settle Da (ME.names (.call "placed" [.sub (.var "query") (.int 1), .var "ahead", .var "widths"])) σ') "first" (false, Da)) "query" (.tup [sD "join", I, J, .tup prs]) := h_ne rfl (h_st j3)
    have a4 : Has (setv (settle Da (ME.names (.call "placed" [.sub (.var "query") (.int 1), .var "ahead", .var "widths"])) σ') "first" (false, Da)) "widths" T := h_ne rfl (h_st j4)
    have a6 : Has (setv (settle Da (ME.names (.call "placed" [.sub (.var "query") (.int 1), .var "ahead", .var "widths"])) σ') "first" (false, Da)) "behind" (.list ((behindC own cl).map clD)) := h_ne rfl (h_st (h_own j6))
    have a7 : Has (setv (settle Da (ME.names (.call "placed" [.sub (.var "query") (.int 1), .var "ahead", .var "widths"])) σ') "first" (false, Da)) "pairs" (.list ((pairsC own cl).map prT)) := h_ne rfl (h_st (h_own j7))
    have a8 : Has (setv (settle Da (ME.names (.call "placed" [.sub (.var "query") (.int 1), .var "ahead", .var "widths"])) σ') "first" (false, Da)) "kept" (.list ((keptC own cl).map clD)) := h_ne rfl (h_st (h_own j8))
    have a9 : Has (setv (settle Da (ME.names (.call "placed" [.sub (.var "query") (.int 1), .var "ahead", .var "widths"])) σ') "first" (false, Da)) "first" Da := h_eq
    generalize setv (settle Da (ME.names (.call "placed" [.sub (.var "query") (.int 1), .var "ahead", .var "widths"])) σ') "first" (false, Da) = τ at *
    refine r_step (p_assign (v_call (v_cons (v_sub (v_var (hr_vis a3)) (e_int _ _ _) rfl) (v_cons (v_var (hr_vis a6)) (v_cons (v_var (hr_vis a4)) (es_nil _ _)))) p2)) ?_
    have b3 : Has (setv (settle Db (ME.names (.call "placed" [.sub (.var "query") (.int 2), .var "behind", .var "widths"])) τ) "second" (false, Db)) "query" (.tup [sD "join", I, J, .tup prs]) := h_ne rfl (h_st a3)
    have b7 : Has (setv (settle Db (ME.names (.call "placed" [.sub (.var "query") (.int 2), .var "behind", .var "widths"])) τ) "second" (false, Db)) "pairs" (.list ((pairsC own cl).map prT)) := h_ne rfl (h_st a7)
    have b8 : Has (setv (settle Db (ME.names (.call "placed" [.sub (.var "query") (.int 2), .var "behind", .var "widths"])) τ) "second" (false, Db)) "kept" (.list ((keptC own cl).map clD)) := h_ne rfl (h_st a8)
    have b9 : Has (setv (settle Db (ME.names (.call "placed" [.sub (.var "query") (.int 2), .var "behind", .var "widths"])) τ) "second" (false, Db)) "first" Da := h_ne rfl (h_st a9)
    have b10 : Has (setv (settle Db (ME.names (.call "placed" [.sub (.var "query") (.int 2), .var "behind", .var "widths"])) τ) "second" (false, Db)) "second" Db := h_eq
    have hpr : (pairsC own cl).length ≤ 5000 := by unfold pairsC; rw [List.length_map]; exact Nat.le_trans (List.length_filter_le _ _) hl
    exact r_ret (v_call (v_cons (v_var (hr_vis b8)) (v_cons (v_tup (v_cons (e_str _ _ _) (v_cons (v_var (hr_vis b9)) (v_cons (v_var (hr_vis b10)) (v_cons (v_bin (v_sub (v_var (hr_vis b3)) (e_int _ _ _) rfl) (v_blt (v_cons (v_var (hr_vis b7)) (es_nil _ _)) rfl) (bin_tt (by rw [List.length_map]; omega))) (es_nil _ _))))) (Nat.le_of_ble_eq_true rfl)) (es_nil _ _))) ov) rfl
  refine key _ ?_ ?_ ?_ ?_ ?_ ?_ ?_ ?_ ?_
  all_goals (repeat' (first | (with_reducible (first | assumption | exact h_eq | exact hr_eq | exact w_eq | exact h_cons | apply h_own; assumption)) | ((with_reducible (first | apply h_ne | apply hr_ne | apply w_ne | apply h_consn | apply w_st | apply w_fr)); (focus (exact rfl))) | (with_reducible (first | apply hr_vis | apply h_st | apply h_fr))))
noncomputable def innerC (ps : List Nat) (cl : List (List D)) : List (List D) := (cl.filter (aheadB ps.length)).map fun c => c.map (turnN (ps.getD · 0))
noncomputable def outerC (ps : List Nat) (cl : List (List D)) : List (List D) := cl.filter fun c => !aheadB ps.length c
theorem ps_at {ps : List Nat} {p : Nat} (h : p < ps.length) : subD (.tup (ps.map natD)) (.int p) = some (natD (ps.getD p 0)) := by
  refine sub_t (by rw [List.length_map]; exact h) ?_
  rw [List.getElem?_map, List.getElem?_eq_getElem h, List.getD_eq_getElem?_getD, List.getElem?_eq_getElem h]; rfl
noncomputable def groupBody : List MS := [.assign "places" (.call "places_of" [.var "clause"]), .ite (.bop .Or [.cmp .Eq (.var "places") (.lst []), .cmp .Lt (.sub (.var "places") (.neg (.int 1))) (.blt "len" [.sub (.var "query") (.int 1)])]) [.append "inner" (.call "turned" [.var "clause", .sub (.var "query") (.int 1)])] [.append "kept" (.var "clause")]]
theorem through_group (B : BP P) (n : Nat) {m : Nat} {ps : List Nat} {I T S Da : D} {cl : List (List D)} (hcl : ∀ c ∈ cl, ClsOk m c) (hl : cl.length ≤ 5000)
    (p1 : (callN P X (n + 1)).call "placed" [I, .list ((innerC ps cl).map clD), T] = some (Da, false)) :
    (callN P X (n + 2)).call "through_group" [.tup [sD "group", .tup (ps.map natD), S, I], .list (cl.map clD), T] = some (overD (outerC ps cl) (.tup [sD "group", .tup (ps.map natD), S, Da]), false) := by
  have hbig : 20000 < big := by decide
  have ov := over_eq (X := X) B n (cs := outerC ps cl) (q := .tup [sD "group", .tup (ps.map natD), S, Da]) rfl
  refine run_call B.tg rfl ?_
  refine r_step (p_assign (d := .list []) (fr := true) rfl) (r_step (p_assign (d := .list []) (fr := true) rfl) ?_)
  have key : ∀ σ : St, Has σ "query" (.tup [sD "group", .tup (ps.map natD), S, I]) → Has σ "widths" T → OwnV σ "inner" (.list []) → OwnV σ "kept" (.list []) → Has σ "clauses" (.list (cl.map clD)) → Run (callN P X (n + 1)) (fn_through_group.body.drop 2) σ (overD (outerC ps cl) (.tup [sD "group", .tup (ps.map natD), S, Da])) false := by
    intro σ i1 i2 i3 i4 hc
    obtain ⟨σ', ⟨pre, e, j1, j2, j3, j4⟩, h3⟩ := loop_inv (cf := callN P X (n + 1)) (body := groupBody) (z := "clause") (fun a σ => ∃ pre, a = pre.map clD ∧ Has σ "query" (.tup [sD "group", .tup (ps.map natD), S, I]) ∧ Has σ "widths" T ∧ OwnV σ "inner" (.list ((innerC ps pre).map clD)) ∧ OwnV σ "kept" (.list ((outerC ps pre).map clD))) (cl.map clD) [] (freeze ["clauses"] σ)
      ⟨[], rfl, h_fr i1, h_fr i2, w_fr rfl i3, w_fr rfl i4⟩ (by
        rintro a it b σ hab ⟨pre, rfl, i1, i2, i3, i4⟩
        rw [List.nil_append] at hab
        obtain ⟨c, hcm, rfl⟩ := List.mem_map.mp (by rw [hab]; simp : it ∈ cl.map clD)
        have hlen := congrArg List.length hab
        simp only [List.length_map, List.length_append, List.length_cons] at hlen
        have hcc := hcl c hcm
        have k1 : (callN P X (n + 1)).call "places_of" [clD c] = some (.list ((usort (plsC c)).map .int), true) := places_of (X := X) B.toBW n hcc.1 hcc.2
        have la : ∀ p : List D → Bool, (pre.filter p).length < big := fun p => Nat.lt_of_le_of_lt (List.length_filter_le _ _) (by omega)
        have c0 : Has (setv σ "clause" (false, clD c)) "clause" (clD c) := h_eq
        have c1 : Has (setv σ "clause" (false, clD c)) "query" (.tup [sD "group", .tup (ps.map natD), S, I]) := h_ne rfl i1
        have c2 : Has (setv σ "clause" (false, clD c)) "widths" T := h_ne rfl i2
        have c3 : OwnV (setv σ "clause" (false, clD c)) "inner" (.list ((innerC ps pre).map clD)) := w_ne rfl i3
        have c4 : OwnV (setv σ "clause" (false, clD c)) "kept" (.list ((outerC ps pre).map clD)) := w_ne rfl i4
        generalize setv σ "clause" (false, clD c) = τ at *
        refine o_step (p_assign (v_call (v_cons (v_var (hr_vis c0)) (es_nil _ _)) k1)) ?_
        generalize hd : D.list ((usort (plsC c)).map .int) = pl at *
        have d0 : Has (setv (settle pl (ME.names (.call "places_of" [.var "clause"])) τ) "places" (true, pl)) "clause" (clD c) := h_ne rfl (h_st c0)
        have d1 : Has (setv (settle pl (ME.names (.call "places_of" [.var "clause"])) τ) "places" (true, pl)) "query" (.tup [sD "group", .tup (ps.map natD), S, I]) := h_ne rfl (h_st c1)
        have d2 : Has (setv (settle pl (ME.names (.call "places_of" [.var "clause"])) τ) "places" (true, pl)) "widths" T := h_ne rfl (h_st c2)
        have d3 : OwnV (setv (settle pl (ME.names (.call "places_of" [.var "clause"])) τ) "places" (true, pl)) "inner" (.list ((innerC ps pre).map clD)) := w_ne rfl (w_st rfl c3)
        have d4 : OwnV (setv (settle pl (ME.names (.call "places_of" [.var "clause"])) τ) "places" (true, pl)) "kept" (.list ((outerC ps pre).map clD)) := w_ne rfl (w_st rfl c4)
        have d9 : Has (setv (settle pl (ME.names (.call "places_of" [.var "clause"])) τ) "places" (true, pl)) "places" (.list ((usort (plsC c)).map .int)) := hd ▸ h_eq
        generalize setv (settle pl (ME.names (.call "places_of" [.var "clause"])) τ) "places" (true, pl) = υ at *
        have hlen2 : evE (callN P X (n + 1)) (vis υ) (.blt "len" [.sub (.var "query") (.int 1)]) = some (.int ps.length) := by
          have h0 : bltD "len" [.tup (ps.map natD)] = some (.int ps.length) := by show some (D.int ((ps.map natD).length : Nat)) = _; rw [List.length_map]
          exact v_blt (v_cons (v_sub (v_var (hr_vis d1)) (e_int _ _ _) rfl) (es_nil _ _)) h0
        refine o_if (k := aheadB ps.length c) (v_ahead d9 hlen2) rfl (fun ha => ?_) fun ha => ?_
        · have k2 : (callN P X (n + 1)).call "turned" [clD c, .tup (ps.map natD)] = some (clD (c.map (turnN (ps.getD · 0))), false) := turned (X := X) B n hcc.1 hcc.2 fun t ht p hp => by
            have hz : (p : Int) ∈ plsC c := List.mem_flatMap.mpr ⟨t, ht, hp⟩
            have h1 := of_decide_eq_true (List.all_eq_true.mp ha _ hz)
            exact ps_at (by omega)
          refine o_step (p_append (d := clD (c.map (turnN (ps.getD · 0)))) (ds := (innerC ps pre).map clD) (v_callE (v_cons (v_var (hr_vis d0)) (v_cons (v_sub (v_var (hr_vis d1)) (e_int _ _ _) rfl) (es_nil _ _))) k2) (w_st rfl d3) (by unfold innerC; rw [List.length_map, List.length_map]; exact la _)) (o_nil ⟨rfl, pre ++ [c], by rw [List.map_append]; rfl, h_ne rfl (h_st d1), h_ne rfl (h_st d2), ?_, ?_⟩)
          · unfold innerC; rw [filt_snoc, if_pos ha, List.map_append, List.map_append]; exact w_eq
          · unfold outerC; rw [filt_snoc, ha, if_neg (by decide), List.append_nil]; exact w_ne rfl (w_st rfl d4)
        · refine o_step (p_append (d := clD c) (ds := (outerC ps pre).map clD) (v_var (hr_vis d0)) (w_st rfl d4) (by unfold outerC; rw [List.length_map]; exact la _)) (o_nil ⟨rfl, pre ++ [c], by rw [List.map_append]; rfl, h_ne rfl (h_st d1), h_ne rfl (h_st d2), ?_, ?_⟩)
          · unfold innerC; rw [filt_snoc, if_neg (by rw [ha]; exact Bool.false_ne_true), List.append_nil]; exact w_ne rfl (w_st rfl d3)
          · unfold outerC; rw [filt_snoc, ha, if_pos (by decide), List.map_append]; exact w_eq)
    have e' : cl = pre := by
      rw [List.nil_append] at e
      have inj : ∀ (l l' : List (List D)), l.map clD = l'.map clD → l = l' := fun l => by
        induction l with
        | nil => intro l' h; cases l' <;> first | rfl | cases h
        | cons x l ih => intro l' h; cases l' with
          | nil => cases h
          | cons y l' =>
            rw [List.map_cons, List.map_cons, List.cons.injEq] at h
            rw [ih l' h.2, D.tup.inj h.1]
      exact inj _ _ e
    subst e'
    refine r_for (x := .list (cl.map clD)) (its := cl.map clD) (v_var (hr_vis hc)) rfl h3 ?_
    exact r_ret (v_call (v_cons (v_var (hr_vis (h_own j4))) (v_cons (v_tup (v_cons (e_str _ _ _) (v_cons (v_sub (v_var (hr_vis j1)) (e_int _ _ _) rfl) (v_cons (v_sub (v_var (hr_vis j1)) (e_int _ _ _) rfl) (v_cons (v_callE (v_cons (v_sub (v_var (hr_vis j1)) (e_int _ _ _) rfl) (v_cons (v_var (hr_vis (h_own j3))) (v_cons (v_var (hr_vis j2)) (es_nil _ _)))) p1) (es_nil _ _))))) (Nat.le_of_ble_eq_true rfl)) (es_nil _ _))) ov) rfl
  exact key _ ⟨_, rfl⟩ ⟨_, rfl⟩ rfl rfl ⟨_, rfl⟩
end

set_option maxRecDepth 100000
set_option maxHeartbeats 400000
noncomputable def overQ (cs : List (List D)) (q : Q) : Q := match cs with
  | [] => q
  | cs => .sieve cs q
theorem overQ_d (cs : List (List D)) (q : Q) : (overQ cs q).d = overD cs q.d := by
  cases cs with
  | nil => rfl
  | cons c cs => unfold overD; rw [if_neg (by nofun)]; rfl
noncomputable def pickC (ps : List Nat) (cl : List (List D)) : List (List D) := cl.map fun c => c.map (turnN (ps.getD · 0))
noncomputable def Q.placed (W : Wd) : Q → List (List D) → Q
  | table nm, cl => overQ cl (.table nm)
  | sieve cs q, cl => q.placed W (cs ++ cl)
  | pick ps q, cl => .pick ps (q.placed W (pickC ps cl))
  | group ps ss q, cl => overQ (outerC ps cl) (.group ps ss (q.placed W (innerC ps cl)))
  | order ks q, cl => .order ks (q.placed W cl)
  | once q, cl => .once (q.placed W cl)
  | first c q, cl => overQ cl (.first c (q.placed W []))
  | join a b prs, cl => overQ (keptC (a.wd W) cl) (.join (a.placed W (aheadC (a.wd W) cl)) (b.placed W (behindC (a.wd W) cl)) (prs ++ pairsC (a.wd W) cl))
  | both a b, cl => .both (a.placed W cl) (b.placed W cl)
/-- the clauses on the longest way down, and the most pairs of a join -/
noncomputable def Q.cp : Q → Nat
  | table _ => 0
  | sieve cs q => cs.length + q.cp
  | pick _ q | group _ _ q | order _ q | once q | first _ q => q.cp
  | join a b _ | both a b => max a.cp b.cp
noncomputable def Q.pr : Q → Nat
  | table _ => 0
  | sieve _ q | pick _ q | group _ _ q | order _ q | once q | first _ q => q.pr
  | join a b prs => max prs.length (max a.pr b.pr)
  | both a b => max a.pr b.pr
theorem cls_ahead {own m : Nat} {c : List D} (hc : ClsOk m c) (h : aheadB own c = true) : ClsOk own c := by
  refine ⟨fun t ht => ?_, hc.2⟩
  have hz : ∀ z ∈ plsV t, z < (own : Int) := fun z hz => of_decide_eq_true (List.all_eq_true.mp h z (List.mem_flatMap.mpr ⟨t, ht, hz⟩))
  obtain ⟨w, p, hw, hp, ⟨q, hq, rfl⟩ | ⟨o, ho, rfl⟩⟩ := hc.1 t ht
  · rw [pls_col] at hz
    have h1 := hz p (.head _)
    have h2 := hz q (.tail _ (.head _))
    exact ⟨w, p, hw, by omega, .inl ⟨q, by omega, rfl⟩⟩
  · rw [pls_is] at hz
    have h1 := hz p (.head _)
    exact ⟨w, p, hw, by omega, .inr ⟨o, ho, rfl⟩⟩
theorem aheadC_ok {own m : Nat} {cl : List (List D)} (h : ∀ c ∈ cl, ClsOk m c) : ∀ c ∈ aheadC own cl, ClsOk own c := fun c hc => by
  obtain ⟨h1, h2⟩ := List.mem_filter.mp hc
  have h2 : cat own c = 0 := by simpa using h2
  refine cls_ahead (h c h1) ?_
  unfold cat at h2
  split at h2
  · assumption
  · split at h2
    · cases h2
    · split at h2 <;> cases h2
theorem behindC_ok {own m2 : Nat} {cl : List (List D)} (h : ∀ c ∈ cl, ClsOk (own + m2) c) : ∀ c ∈ behindC own cl, ClsOk m2 c := fun c hc => by
  obtain ⟨c', h1, rfl⟩ := List.mem_map.mp hc
  obtain ⟨h1, h2⟩ := List.mem_filter.mp h1
  have h2 : cat own c' = 1 := by simpa using h2
  have hb : behindB own c' = true := by
    unfold cat at h2
    split at h2
    · cases h2
    · split at h2
      · assumption
      · split at h2 <;> cases h2
  refine turnN_cls (h c' h1) fun t ht p hp => ?_
  have h3 := of_decide_eq_true (List.all_eq_true.mp hb _ (List.mem_flatMap.mpr ⟨t, ht, hp⟩))
  obtain ⟨p', e, hp'⟩ := pls_nat ((h c' h1).1 t ht) hp
  omega
theorem turn_ps {ps : List Nat} {m : Nat} {c : List D} (hc : ClsOk ps.length c) (hp : ∀ p ∈ ps, p < m) : ClsOk m (c.map (turnN (ps.getD · 0))) := turnN_cls hc fun t ht p hp' => by
  obtain ⟨p', e, hlt⟩ := pls_nat (hc.1 t ht) hp'
  have : p = p' := by omega
  subst this
  rw [List.getD_eq_getElem?_getD, List.getElem?_eq_getElem hlt]
  exact hp _ (List.getElem_mem hlt)
theorem pickC_ok {ps : List Nat} {m : Nat} {cl : List (List D)} (h : ∀ c ∈ cl, ClsOk ps.length c) (hp : ∀ p ∈ ps, p < m) : ∀ c ∈ pickC ps cl, ClsOk m c := fun c hc => by
  obtain ⟨c', h1, rfl⟩ := List.mem_map.mp hc
  exact turn_ps (h c' h1) hp
theorem innerC_ok {ps : List Nat} {m m' : Nat} {cl : List (List D)} (h : ∀ c ∈ cl, ClsOk m' c) (hp : ∀ p ∈ ps, p < m) : ∀ c ∈ innerC ps cl, ClsOk m c := fun c hc => by
  obtain ⟨c', h1, rfl⟩ := List.mem_map.mp hc
  obtain ⟨h1, h2⟩ := List.mem_filter.mp h1
  exact turn_ps (cls_ahead (h c' h1) h2) hp
section
variable {P : List (String × Fn)} {X : CF} {W : Wd}
theorem placed_run {cf : CF} {q C T R : D} {wd : String} (h : Run cf (fn_placed.body.drop 1) [("query", (false, q)), ("clauses", (false, C)), ("widths", (false, T)), ("word", (false, sD wd))] R false) (h0 : subD q (.int 0) = some (sD wd)) :
    Run cf fn_placed.body [("query", (false, q)), ("clauses", (false, C)), ("widths", (false, T))] R false :=
  r_step (p_cell (d := sD wd) (fr := false) (v_map (v_sub (x := q) (y := .int 0) rfl rfl h0) rfl rfl) rfl) h
theorem sk {cf : CF} {σ : St} {w w2 : String} {t r : List MS} {R : D} {fr : Bool} (h : Has σ "word" (sD w)) (hne : (Str.ofString w == Str.ofString w2) = false) (k : Run cf r σ R fr) : Run cf (.ite (.cmp .Eq (.var "word") (.str w2)) t [] :: r) σ R fr :=
  r_if (k := false) (x := .bool false) (v_cmp (v_var (hr_vis h)) (e_str _ _ _) (by show some (D.bool (Str.ofString w == Str.ofString w2)) = _; rw [hne])) rfl nofun fun _ => k
theorem hit {cf : CF} {σ : St} {w : String} {t r : List MS} {R : D} {fr : Bool} (h : Has σ "word" (sD w)) (k : Run cf (t ++ r) σ R fr) : Run cf (.ite (.cmp .Eq (.var "word") (.str w)) t [] :: r) σ R fr :=
  r_if (k := true) (x := .bool true) (v_cmp (v_var (hr_vis h)) (e_str _ _ _) (by show some (D.bool (Str.ofString w == Str.ofString w)) = _; rw [beq_self_eq_true])) rfl (fun _ => k) nofun
/-- no join wider than k -/
noncomputable def Q.nar (W : Wd) (k : Nat) : Q → Prop
  | table _ => True
  | sieve _ q | pick _ q | group _ _ q | order _ q | once q | first _ q => q.nar W k
  | join a b _ => a.nar W k ∧ b.nar W k ∧ a.wd W + b.wd W ≤ k
  | both a b => a.nar W k ∧ b.nar W k
noncomputable abbrev st0 (q C T : D) (w : String) : St := [("query", (false, q)), ("clauses", (false, C)), ("widths", (false, T)), ("word", (false, sD w))]
theorem st0_w (q C T : D) (w : String) : Has (st0 q C T w) "word" (sD w) := ⟨false, rfl⟩
theorem n2d {d n : Nat} (h : 2 * (d + 1) ≤ n) : ∃ n', n = n' + 2 := ⟨n - 2, by omega⟩
theorem placed_eq (B : BP P) (hX : X.glob "STEPS" = some (.tup steps)) : ∀ (q : Q) (cl : List (List D)) (n : Nat), q.ok W → (∀ c ∈ cl, ClsOk (q.wd W) c) → q.cp + cl.length ≤ 1000 → q.nar W 5000 → 2 * q.dp ≤ n →
    (callN P X (n + 6)).call "placed" [q.d, .list (cl.map clD), W.d] = some ((q.placed W cl).d, false)
  | .table nm => by
    intro cl n _ _ _ _ _
    have ov : (callN P X (n + 5)).call "over" [.list (cl.map clD), (Q.table nm).d] = some (overD cl (Q.table nm).d, false) := over_eq (X := X) B (n + 4) rfl
    rw [Q.placed, overQ_d]
    refine run_call B.pl rfl (placed_run (wd := "table") ?_ rfl)
    have hw := st0_w (Q.table nm).d (.list (cl.map clD)) W.d "table"
    refine sk hw rfl (sk hw rfl (sk hw rfl (sk hw rfl (sk hw rfl (sk hw rfl (sk hw rfl (sk hw rfl ?_)))))))
    exact r_ret (v_call (v_cons (d := .list (cl.map clD)) rfl (v_cons (d := (Q.table nm).d) rfl (es_nil _ _))) ov) rfl
  | .sieve cs q => by
    intro cl n h hc hl hn hd
    obtain ⟨n, rfl⟩ := n2d hd
    have ih := placed_eq B hX q (cs ++ cl) (n + 1) h.1 (fun c hm => (List.mem_append.mp hm).elim (h.2.1 c) (hc c)) (by rw [List.length_append]; have : (Q.sieve cs q).cp = cs.length + q.cp := rfl; omega) hn (by have : (Q.sieve cs q).dp = q.dp + 1 := rfl; omega)
    have hbig : 2000 < big := by decide
    have hlen : cs.length + cl.length ≤ 1000 := by have : (Q.sieve cs q).cp = cs.length + q.cp := rfl; omega
    refine run_call B.pl rfl (placed_run (wd := "sieve") ?_ rfl)
    have hw := st0_w (Q.sieve cs q).d (.list (cl.map clD)) W.d "sieve"
    refine hit hw ?_
    refine r_ret (v_call (v_cons (d := q.d) rfl (v_cons (d := .list ((cs ++ cl).map clD)) (v_bin (v_lcp (x := .tup (cs.map clD)) rfl rfl) (y := .list (cl.map clD)) rfl ?_) (v_cons (d := W.d) rfl (es_nil _ _)))) ih) rfl
    rw [List.map_append]
    exact bin_ll (by rw [List.length_map, List.length_map]; omega)
  | .pick ps q => by
    intro cl n h hc hl hn hd
    obtain ⟨n, rfl⟩ := n2d hd
    have ih := placed_eq B hX q (pickC ps cl) (n + 1) h.1 (pickC_ok hc h.2.1) (by unfold pickC; rw [List.length_map]; exact hl) hn (by have : (Q.pick ps q).dp = q.dp + 1 := rfl; omega)
    have hbig : 2000 < big := by decide
    refine run_call B.pl rfl (placed_run (wd := "pick") ?_ rfl)
    have hw := st0_w (Q.pick ps q).d (.list (cl.map clD)) W.d "pick"
    refine sk hw rfl (hit hw ?_)
    have hi : evE (callN P X (n + 2 + 5)) (vis (st0 (Q.pick ps q).d (.list (cl.map clD)) W.d "pick")) (.comp (.call "turned" [.var "clause", .sub (.var "query") (.int 1)]) "clause" (.var "clauses") []) = some (.list ((pickC ps cl).map clD)) := by
      refine v_comp (x := .list (cl.map clD)) (its := cl.map clD) rfl rfl (by rw [List.length_map]; omega) ?_
      have : ∀ l : List (List D), (∀ c ∈ l, c ∈ cl) → compM (compF (callN P X (n + 2 + 5)) (vis (st0 (Q.pick ps q).d (.list (cl.map clD)) W.d "pick")) (.call "turned" [.var "clause", .sub (.var "query") (.int 1)]) "clause" []) (l.map clD) = some ((pickC ps l).map clD) := fun l => by
        induction l with
        | nil => intro _; rfl
        | cons c l il =>
          intro hm
          have hcc := hc c (hm c (.head _))
          have k : (callN P X (n + 2 + 5)).call "turned" [clD c, .tup (ps.map natD)] = some (clD (c.map (turnN (ps.getD · 0))), false) := turned (X := X) B (n + 6) hcc.1 hcc.2 fun t ht p hp => by
            obtain ⟨p', e, hlt⟩ := pls_nat (hcc.1 t ht) hp
            have : p = p' := by omega
            subst this
            exact ps_at hlt
          rw [List.map_cons, compM, compF_nil (d := clD (c.map (turnN (ps.getD · 0)))) (v_callE (v_cons (d := clD c) rfl (v_cons (d := .tup (ps.map natD)) rfl (es_nil _ _))) k)]
          dsimp only
          rw [il fun x hx => hm x (.tail _ hx)]
          rfl
      exact this cl fun _ h => h
    refine r_step (p_assign (v_map hi rfl rfl)) ?_
    exact r_ret (v_map (v_tup (v_cons (e_str _ _ _) (v_cons (d := .tup (ps.map natD)) rfl (v_cons (v_callE (v_cons (d := q.d) rfl (v_cons (v_var (hr_vis h_eq)) (v_cons (d := W.d) rfl (es_nil _ _)))) ih) (es_nil _ _)))) (Nat.le_of_ble_eq_true rfl)) rfl rfl) rfl
  | .order ks q => by
    intro cl n h hc hl hn hd
    obtain ⟨n, rfl⟩ := n2d hd
    have ih := placed_eq B hX q cl (n + 1) h.1 hc hl hn (by have : (Q.order ks q).dp = q.dp + 1 := rfl; omega)
    refine run_call B.pl rfl (placed_run (wd := "order") ?_ rfl)
    have hw := st0_w (Q.order ks q).d (.list (cl.map clD)) W.d "order"
    refine sk hw rfl (sk hw rfl (hit hw ?_))
    exact r_ret (v_map (v_tup (v_cons (e_str _ _ _) (v_cons (d := .tup (ks.map keyT)) rfl (v_cons (v_callE (v_cons (d := q.d) rfl (v_cons (d := .list (cl.map clD)) rfl (v_cons (d := W.d) rfl (es_nil _ _)))) ih) (es_nil _ _)))) (Nat.le_of_ble_eq_true rfl)) rfl rfl) rfl
  | .once q => by
    intro cl n h hc hl hn hd
    obtain ⟨n, rfl⟩ := n2d hd
    have ih := placed_eq B hX q cl (n + 1) h hc hl hn (by have : (Q.once q).dp = q.dp + 1 := rfl; omega)
    refine run_call B.pl rfl (placed_run (wd := "once") ?_ rfl)
    have hw := st0_w (Q.once q).d (.list (cl.map clD)) W.d "once"
    refine sk hw rfl (sk hw rfl (sk hw rfl (hit hw ?_)))
    exact r_ret (v_map (v_tup (v_cons (e_str _ _ _) (v_cons (v_callE (v_cons (d := q.d) rfl (v_cons (d := .list (cl.map clD)) rfl (v_cons (d := W.d) rfl (es_nil _ _)))) ih) (es_nil _ _))) (Nat.le_of_ble_eq_true rfl)) rfl rfl) rfl
  | .both a b => by
    intro cl n h hc hl hn hd
    obtain ⟨n, rfl⟩ := n2d hd
    have e1 : (Q.both a b).dp = max a.dp b.dp + 1 := rfl
    have e2 : (Q.both a b).cp = max a.cp b.cp := rfl
    have m1 := Nat.le_max_left a.dp b.dp
    have m2 := Nat.le_max_right a.dp b.dp
    have m3 := Nat.le_max_left a.cp b.cp
    have m4 := Nat.le_max_right a.cp b.cp
    have ih := placed_eq B hX a cl (n + 1) h.1 hc (by omega) hn.1 (by omega)
    have ih2 := placed_eq B hX b cl (n + 1) h.2.1 (h.2.2 ▸ hc) (by omega) hn.2 (by omega)
    refine run_call B.pl rfl (placed_run (wd := "both") ?_ rfl)
    have hw := st0_w (Q.both a b).d (.list (cl.map clD)) W.d "both"
    refine sk hw rfl (sk hw rfl (sk hw rfl (sk hw rfl (hit hw ?_))))
    refine r_step (p_assign (v_call (v_cons (d := a.d) rfl (v_cons (d := .list (cl.map clD)) rfl (v_cons (d := W.d) rfl (es_nil _ _)))) ih)) ?_
    have j1 : Has (setv (settle (a.placed W cl).d (ME.names (.call "placed" [.sub (.var "query") (.int 1), .var "clauses", .var "widths"])) (st0 (Q.both a b).d (.list (cl.map clD)) W.d "both")) "first" (false, (a.placed W cl).d)) "query" (Q.both a b).d := h_ne rfl (h_st ⟨_, rfl⟩)
    have j2 : Has (setv (settle (a.placed W cl).d (ME.names (.call "placed" [.sub (.var "query") (.int 1), .var "clauses", .var "widths"])) (st0 (Q.both a b).d (.list (cl.map clD)) W.d "both")) "first" (false, (a.placed W cl).d)) "clauses" (.list (cl.map clD)) := h_ne rfl (h_st ⟨_, rfl⟩)
    have j3 : Has (setv (settle (a.placed W cl).d (ME.names (.call "placed" [.sub (.var "query") (.int 1), .var "clauses", .var "widths"])) (st0 (Q.both a b).d (.list (cl.map clD)) W.d "both")) "first" (false, (a.placed W cl).d)) "widths" W.d := h_ne rfl (h_st ⟨_, rfl⟩)
    exact r_ret (v_map (v_tup (v_cons (e_str _ _ _) (v_cons (v_var (hr_vis h_eq)) (v_cons (v_callE (v_cons (v_sub (v_var (hr_vis j1)) (e_int _ _ _) rfl) (v_cons (v_var (hr_vis j2)) (v_cons (v_var (hr_vis j3)) (es_nil _ _)))) ih2) (es_nil _ _)))) (Nat.le_of_ble_eq_true rfl)) rfl rfl) rfl
  | .join a b prs => by
    intro cl n h hc hl hn hd
    obtain ⟨n, rfl⟩ := n2d hd
    have e1 : (Q.join a b prs).dp = max a.dp b.dp + 1 := rfl
    have e2 : (Q.join a b prs).cp = max a.cp b.cp := rfl
    have m1 := Nat.le_max_left a.dp b.dp
    have m2 := Nat.le_max_right a.dp b.dp
    have m3 := Nat.le_max_left a.cp b.cp
    have m4 := Nat.le_max_right a.cp b.cp
    have l1 : (aheadC (a.wd W) cl).length ≤ cl.length := List.length_filter_le _ _
    have l2 : (behindC (a.wd W) cl).length ≤ cl.length := by unfold behindC; rw [List.length_map]; exact List.length_filter_le _ _
    have ih := placed_eq B hX a (aheadC (a.wd W) cl) n h.1 (aheadC_ok hc) (by omega) hn.1 (by omega)
    have ih2 := placed_eq B hX b (behindC (a.wd W) cl) n h.2.1 (behindC_ok hc) (by omega) hn.2.1 (by omega)
    have w1 := width_eq B.toBW hX a (n + 3) h.1 (by omega)
    have w2 := width_eq B.toBW hX b (n + 3) h.2.1 (by omega)
    have tj := through_join (X := X) B (n + 5) hn.2.2 (prs := prs.map prT) hc (by omega) (by rw [List.length_map]; exact h.2.2.2) w1 w2 ih ih2
    rw [← List.map_append] at tj
    rw [Q.placed, overQ_d]
    refine run_call B.pl rfl (placed_run (wd := "join") ?_ rfl)
    have hw := st0_w (Q.join a b prs).d (.list (cl.map clD)) W.d "join"
    refine sk hw rfl (sk hw rfl (sk hw rfl (sk hw rfl (sk hw rfl (hit hw ?_)))))
    exact r_ret (v_call (v_cons (d := (Q.join a b prs).d) rfl (v_cons (d := .list (cl.map clD)) rfl (v_cons (d := W.d) rfl (es_nil _ _)))) tj) rfl
  | .group ps ss q => by
    intro cl n h hc hl hn hd
    obtain ⟨n, rfl⟩ := n2d hd
    have e1 : (Q.group ps ss q).dp = q.dp + 1 := rfl
    have e2 : (Q.group ps ss q).cp = q.cp := rfl
    have l2 : (innerC ps cl).length ≤ cl.length := by unfold innerC; rw [List.length_map]; exact List.length_filter_le _ _
    have ih := placed_eq B hX q (innerC ps cl) n h.1 (innerC_ok hc h.2.1) (by omega) hn (by omega)
    have tg := through_group (X := X) B (n + 5) (S := .tup (ss.map sumT)) hc (by omega) ih
    rw [Q.placed, overQ_d]
    refine run_call B.pl rfl (placed_run (wd := "group") ?_ rfl)
    have hw := st0_w (Q.group ps ss q).d (.list (cl.map clD)) W.d "group"
    refine sk hw rfl (sk hw rfl (sk hw rfl (sk hw rfl (sk hw rfl (sk hw rfl (hit hw ?_))))))
    exact r_ret (v_call (v_cons (d := (Q.group ps ss q).d) rfl (v_cons (d := .list (cl.map clD)) rfl (v_cons (d := W.d) rfl (es_nil _ _)))) tg) rfl
  | .first c q => by
    intro cl n h hc hl hn hd
    obtain ⟨n, rfl⟩ := n2d hd
    have e1 : (Q.first c q).dp = q.dp + 1 := rfl
    have e2 : (Q.first c q).cp = q.cp := rfl
    have ih := placed_eq B hX q [] (n + 1) h (fun _ h => nomatch h) (by show q.cp + 0 ≤ 1000; omega) hn (by omega)
    have ov : (callN P X (n + 2 + 5)).call "over" [.list (cl.map clD), .tup [sD "first", natD c, (q.placed W []).d]] = some (overD cl (.tup [sD "first", natD c, (q.placed W []).d]), false) := over_eq (X := X) B (n + 6) rfl
    rw [Q.placed, overQ_d]
    refine run_call B.pl rfl (placed_run (wd := "first") ?_ rfl)
    have hw := st0_w (Q.first c q).d (.list (cl.map clD)) W.d "first"
    refine sk hw rfl (sk hw rfl (sk hw rfl (sk hw rfl (sk hw rfl (sk hw rfl (sk hw rfl (hit hw ?_)))))))
    exact r_ret (v_call (v_cons (d := .list (cl.map clD)) rfl (v_cons (v_tup (v_cons (e_str _ _ _) (v_cons (d := natD c) rfl (v_cons (v_callE (v_cons (d := q.d) rfl (v_cons (d := .list []) rfl (v_cons (d := W.d) rfl (es_nil _ _)))) ih) (es_nil _ _)))) (Nat.le_of_ble_eq_true rfl)) (es_nil _ _))) ov) rfl
theorem plan_eq (B : BP P) (hX : X.glob "STEPS" = some (.tup steps)) (q : Q) (n : Nat) (h : q.ok W) (hl : q.cp ≤ 1000) (hn : q.nar W 5000) (hd : 2 * q.dp ≤ n) : (callN P X (n + 7)).call "plan" [q.d, W.d] = some ((q.placed W []).d, false) := by
  have k1 := width_eq B.toBW hX q (n + 3) h (by omega)
  have k2 := placed_eq B hX q [] n h (fun _ h => nomatch h) hl hn hd
  refine run_call B.pn rfl ?_
  refine r_step (p_expr (d := .int (q.wd W)) (v_callE (v_cons (d := q.d) rfl (v_cons (d := W.d) rfl (es_nil _ _))) k1) rfl) ?_
  exact r_ret (v_call (v_cons (d := q.d) rfl (v_cons (d := .list []) rfl (v_cons (d := W.d) rfl (es_nil _ _)))) k2) rfl
end

set_option maxRecDepth 100000
set_option maxHeartbeats 400000
/-- what a planned query keeps -/
structure POk (W : Wd) (q : Q) (m c p d : Nat) : Prop where
  ok : q.ok W
  wd : q.wd W = m
  cp : q.cp ≤ c
  pr : q.pr ≤ p
  dp : q.dp ≤ d
  nar : q.nar W 5000
theorem over_pok {W : Wd} {cs : List (List D)} {q : Q} {m c p d : Nat} (h : POk W q m c p d) (hc : ∀ x ∈ cs, ClsOk m x) (hl : cs.length ≤ 1000) : POk W (overQ cs q) m (cs.length + c) p (d + 1) := by
  cases cs with
  | nil => exact ⟨h.ok, h.wd, Nat.le_trans h.cp (Nat.le_add_left _ _), h.pr, Nat.le_succ_of_le h.dp, h.nar⟩
  | cons x cs => exact ⟨⟨h.ok, fun y hy => h.wd ▸ hc y hy, hl⟩, h.wd, Nat.add_le_add_left h.cp _, h.pr, Nat.succ_le_succ h.dp, h.nar⟩
theorem four_len (own : Nat) : ∀ cl : List (List D), (aheadC own cl).length + (behindC own cl).length + (pairsC own cl).length + (keptC own cl).length = cl.length
  | [] => rfl
  | c :: cl => by
    have ih := four_len own cl
    unfold aheadC behindC pairsC keptC at *
    rw [List.length_map, List.length_map] at *
    rw [List.filter_cons, List.filter_cons, List.filter_cons, List.filter_cons]
    have hk : cat own c = 0 ∨ cat own c = 1 ∨ cat own c = 2 ∨ cat own c = 3 := by
      unfold cat; split
      · exact .inl rfl
      · split
        · exact .inr (.inl rfl)
        · split
          · exact .inr (.inr (.inl rfl))
          · exact .inr (.inr (.inr rfl))
    rcases hk with h | h | h | h <;> rw [h] <;> simp <;> omega
theorem group_len (ps : List Nat) : ∀ cl : List (List D), (innerC ps cl).length + (outerC ps cl).length = cl.length
  | [] => rfl
  | c :: cl => by
    have ih := group_len ps cl
    unfold innerC outerC at *
    rw [List.length_map] at *
    rw [List.filter_cons, List.filter_cons]
    cases aheadB ps.length c <;> simp <;> omega
theorem d2m {x y : Nat} (h : x ≤ y) : 2 * x + 1 ≤ 2 * y + 1 := by omega
theorem four_le (own : Nat) (cl : List (List D)) : (aheadC own cl).length ≤ cl.length ∧ (behindC own cl).length ≤ cl.length ∧ (pairsC own cl).length ≤ cl.length ∧ (aheadC own cl).length + (behindC own cl).length + (keptC own cl).length ≤ cl.length := by
  have := four_len own cl; omega
theorem four_up {a b k l m : Nat} (h : a + b + k ≤ l) : k + (m + (a + b)) ≤ m + l := by omega
theorem POk.up {W : Wd} {q : Q} {m c p d c' p' d' : Nat} (h : POk W q m c p d) (h1 : c ≤ c') (h2 : p ≤ p') (h3 : d ≤ d') : POk W q m c' p' d' := ⟨h.ok, h.wd, Nat.le_trans h.cp h1, Nat.le_trans h.pr h2, Nat.le_trans h.dp h3, h.nar⟩
theorem d2 {x y : Nat} (h : x ≤ 2 * y + 1) : x + 1 ≤ 2 * (y + 1) + 1 := by omega
theorem d2o {y : Nat} : 2 * y + 2 + 1 ≤ 2 * (y + 1) + 1 := by omega
theorem placed_ok {W : Wd} : ∀ (q : Q) (cl : List (List D)), q.ok W → (∀ c ∈ cl, ClsOk (q.wd W) c) → q.cp + cl.length ≤ 1000 → q.pr + q.cp + cl.length ≤ 5000 → q.nar W 5000 →
    POk W (q.placed W cl) (q.wd W) (q.cp + cl.length) (q.pr + q.cp + cl.length) (2 * q.dp + 1)
  | .table nm, cl, h, hc, hl, hp, hn =>
    have h0 : POk W (.table nm) ((Q.table nm).wd W) 0 0 0 := ⟨h, rfl, Nat.le_refl _, Nat.le_refl _, Nat.le_refl _, trivial⟩
    (over_pok h0 hc (Nat.le_trans (Nat.le_add_left _ _) hl)).up (Nat.le_add_left _ _) (Nat.zero_le _) (Nat.le_refl _)
  | .sieve cs q, cl, h, hc, hl, hp, hn => by
    have e : cs.length + q.cp + cl.length = q.cp + (cs ++ cl).length := by rw [List.length_append]; omega
    have e2 : q.pr + (cs.length + q.cp) + cl.length = q.pr + q.cp + (cs ++ cl).length := by rw [List.length_append]; omega
    have := placed_ok q (cs ++ cl) h.1 (fun c hm => (List.mem_append.mp hm).elim (h.2.1 c) (hc c)) (Nat.le_trans (Nat.le_of_eq e.symm) hl) (Nat.le_trans (Nat.le_of_eq e2.symm) hp) hn
    exact this.up (Nat.le_of_eq e.symm) (Nat.le_of_eq e2.symm) (Nat.add_le_add_right (Nat.mul_le_mul_left 2 (Nat.le_succ _)) 1)
  | .pick ps q, cl, h, hc, hl, hp, hn => by
    have hle : (pickC ps cl).length = cl.length := by unfold pickC; rw [List.length_map]
    have := placed_ok q (pickC ps cl) h.1 (pickC_ok hc h.2.1) (by rw [hle]; exact hl) (by rw [hle]; exact hp) hn
    rw [hle] at this
    exact ⟨⟨this.ok, fun p hp => by rw [this.wd]; exact h.2.1 p hp, h.2.2⟩, rfl, this.cp, this.pr, d2 this.dp, this.nar⟩
  | .group ps ss q, cl, h, hc, hl, hp, hn => by
    have hg := group_len ps cl
    have g1 : (innerC ps cl).length ≤ cl.length := hg ▸ Nat.le_add_right _ _
    have g2 : (outerC ps cl).length ≤ cl.length := hg ▸ Nat.le_add_left _ _
    have := placed_ok q (innerC ps cl) h.1 (innerC_ok hc h.2.1) (Nat.le_trans (Nat.add_le_add_left g1 _) hl) (Nat.le_trans (Nat.add_le_add_left g1 _) hp) hn
    have h0 : POk W (.group ps ss (q.placed W (innerC ps cl))) (ps.length + ss.length) (q.cp + (innerC ps cl).length) (q.pr + q.cp + cl.length) (2 * q.dp + 2) :=
      ⟨⟨this.ok, fun p hp => by rw [this.wd]; exact h.2.1 p hp, fun x hx => by rw [this.wd]; exact h.2.2.1 x hx, h.2.2.2⟩, rfl, this.cp, Nat.le_trans this.pr (Nat.add_le_add_left g1 _), Nat.succ_le_succ this.dp, this.nar⟩
    have h1 := over_pok (cs := outerC ps cl) h0 (fun x hx => hc x (List.mem_filter.mp hx).1) (Nat.le_trans g2 (Nat.le_trans (Nat.le_add_left _ _) hl))
    exact h1.up (by show _ ≤ q.cp + cl.length; omega) (Nat.le_refl _) d2o
  | .order ks q, cl, h, hc, hl, hp, hn =>
    have := placed_ok q cl h.1 hc hl hp hn
    ⟨⟨this.ok, fun p hp => by rw [this.wd]; exact h.2.1 p hp, h.2.2⟩, this.wd, this.cp, this.pr, d2 this.dp, this.nar⟩
  | .once q, cl, h, hc, hl, hp, hn =>
    have := placed_ok q cl h hc hl hp hn
    ⟨this.ok, this.wd, this.cp, this.pr, d2 this.dp, this.nar⟩
  | .first c q, cl, h, hc, hl, hp, hn =>
    have := placed_ok q [] h (fun _ h => nomatch h) (Nat.le_trans (Nat.le_add_right _ _) hl) (Nat.le_trans (Nat.le_add_right _ _) hp) hn
    have h0 : POk W (.first c (q.placed W [])) (q.wd W) q.cp (q.pr + q.cp) (2 * q.dp + 2) := ⟨this.ok, this.wd, this.cp, this.pr, Nat.succ_le_succ this.dp, this.nar⟩
    (over_pok h0 hc (Nat.le_trans (Nat.le_add_left _ _) hl)).up (Nat.le_of_eq (Nat.add_comm _ _)) (Nat.le_add_right _ _) d2o
  | .both a b, cl, h, hc, hl, hp, hn =>
    have c1 : a.cp + cl.length ≤ (Q.both a b).cp + cl.length := Nat.add_le_add_right (Nat.le_max_left _ _) _
    have c2 : b.cp + cl.length ≤ (Q.both a b).cp + cl.length := Nat.add_le_add_right (Nat.le_max_right _ _) _
    have p1 : a.pr + a.cp + cl.length ≤ (Q.both a b).pr + (Q.both a b).cp + cl.length := Nat.add_le_add_right (Nat.add_le_add (Nat.le_max_left _ _) (Nat.le_max_left _ _)) _
    have p2 : b.pr + b.cp + cl.length ≤ (Q.both a b).pr + (Q.both a b).cp + cl.length := Nat.add_le_add_right (Nat.add_le_add (Nat.le_max_right _ _) (Nat.le_max_right _ _)) _
    have t1 := placed_ok a cl h.1 hc (Nat.le_trans c1 hl) (Nat.le_trans p1 hp) hn.1
    have t2 := placed_ok b cl h.2.1 (h.2.2 ▸ hc) (Nat.le_trans c2 hl) (Nat.le_trans p2 hp) hn.2
    ⟨⟨t1.ok, t2.ok, by rw [t1.wd, t2.wd]; exact h.2.2⟩, t1.wd, Nat.max_le.mpr ⟨Nat.le_trans t1.cp c1, Nat.le_trans t2.cp c2⟩, Nat.max_le.mpr ⟨Nat.le_trans t1.pr p1, Nat.le_trans t2.pr p2⟩,
      d2 (Nat.max_le.mpr ⟨Nat.le_trans t1.dp (d2m (Nat.le_max_left _ _)), Nat.le_trans t2.dp (d2m (Nat.le_max_right _ _))⟩), t1.nar, t2.nar⟩
  | .join a b prs, cl, h, hc, hl, hp, hn => by
    obtain ⟨g1, g2, g3, g4⟩ := four_le (a.wd W) cl
    have c1 : a.cp + (aheadC (a.wd W) cl).length ≤ max a.cp b.cp + cl.length := Nat.add_le_add (Nat.le_max_left _ _) g1
    have c2 : b.cp + (behindC (a.wd W) cl).length ≤ max a.cp b.cp + cl.length := Nat.add_le_add (Nat.le_max_right _ _) g2
    have m1 : a.pr ≤ max prs.length (max a.pr b.pr) := Nat.le_trans (Nat.le_max_left _ _) (Nat.le_max_right _ _)
    have m2 : b.pr ≤ max prs.length (max a.pr b.pr) := Nat.le_trans (Nat.le_max_right _ _) (Nat.le_max_right _ _)
    have p1 : a.pr + a.cp + (aheadC (a.wd W) cl).length ≤ max prs.length (max a.pr b.pr) + max a.cp b.cp + cl.length := Nat.add_le_add (Nat.add_le_add m1 (Nat.le_max_left _ _)) g1
    have p2 : b.pr + b.cp + (behindC (a.wd W) cl).length ≤ max prs.length (max a.pr b.pr) + max a.cp b.cp + cl.length := Nat.add_le_add (Nat.add_le_add m2 (Nat.le_max_right _ _)) g2
    have p3 : prs.length + (pairsC (a.wd W) cl).length ≤ max prs.length (max a.pr b.pr) + max a.cp b.cp + cl.length := Nat.add_le_add (Nat.le_trans (Nat.le_max_left _ _) (Nat.le_add_right _ _)) g3
    have t1 := placed_ok a (aheadC (a.wd W) cl) h.1 (aheadC_ok hc) (Nat.le_trans c1 hl) (Nat.le_trans p1 hp) hn.1
    have t2 := placed_ok b (behindC (a.wd W) cl) h.2.1 (behindC_ok hc) (Nat.le_trans c2 hl) (Nat.le_trans p2 hp) hn.2.1
    have lp : (prs ++ pairsC (a.wd W) cl).length ≤ max prs.length (max a.pr b.pr) + max a.cp b.cp + cl.length := by rw [List.length_append]; exact p3
    have h0 : POk W (.join (a.placed W (aheadC (a.wd W) cl)) (b.placed W (behindC (a.wd W) cl)) (prs ++ pairsC (a.wd W) cl)) (a.wd W + b.wd W) (max a.cp b.cp + ((aheadC (a.wd W) cl).length + (behindC (a.wd W) cl).length)) (max prs.length (max a.pr b.pr) + max a.cp b.cp + cl.length) (2 * max a.dp b.dp + 2) := by
      refine ⟨⟨t1.ok, t2.ok, fun k hk => ?_, Nat.le_trans lp hp⟩, by show _ + _ = _; rw [t1.wd, t2.wd],
        Nat.max_le.mpr ⟨Nat.le_trans t1.cp (Nat.add_le_add (Nat.le_max_left _ _) (Nat.le_add_right _ _)), Nat.le_trans t2.cp (Nat.add_le_add (Nat.le_max_right _ _) (Nat.le_add_left _ _))⟩,
        Nat.max_le.mpr ⟨lp, Nat.max_le.mpr ⟨Nat.le_trans t1.pr p1, Nat.le_trans t2.pr p2⟩⟩,
        Nat.succ_le_succ (Nat.max_le.mpr ⟨Nat.le_trans t1.dp (d2m (Nat.le_max_left _ _)), Nat.le_trans t2.dp (d2m (Nat.le_max_right _ _))⟩), t1.nar, t2.nar, by rw [t1.wd, t2.wd]; exact hn.2.2⟩
      rw [t1.wd, t2.wd]
      rcases List.mem_append.mp hk with hk | hk
      · exact h.2.2.1 k hk
      · obtain ⟨c, hcm, rfl⟩ := List.mem_map.mp hk
        obtain ⟨hm, hcat⟩ := List.mem_filter.mp hcm
        obtain ⟨x, y, _, g1, g2, g3, e⟩ := pr_of (hc c hm) (by simpa using hcat)
        rw [e]
        have g3 : y < a.wd W + b.wd W := g3
        exact ⟨g1, Nat.sub_lt_left_of_lt_add g2 g3⟩
    have h1 := over_pok (cs := keptC (a.wd W) cl) h0 (fun x hx => hc x (List.mem_filter.mp hx).1) (Nat.le_trans (Nat.le_trans (Nat.le_add_left _ _) g4) (Nat.le_trans (Nat.le_add_left _ _) hl))
    exact h1.up (four_up g4) (Nat.le_refl _) d2o
/-! the bare query, and what is like it -/
noncomputable def Q.bare : Q → Q
  | sieve _ q => q.bare
  | q => q
noncomputable def Lk : Q → Q → Prop
  | f, .sieve _ q => Lk f q
  | f, .table nm => f.bare = .table nm
  | f, .pick ps q => ∃ f', f.bare = .pick ps f' ∧ Lk f' q
  | f, .group ps ss q => ∃ f', f.bare = .group ps ss f' ∧ Lk f' q
  | f, .order ks q => ∃ f', f.bare = .order ks f' ∧ Lk f' q
  | f, .once q => ∃ f', f.bare = .once f' ∧ Lk f' q
  | f, .first c q => ∃ f', f.bare = .first c f' ∧ Lk f' q
  | f, .join a b prs => ∃ fa fb more, f.bare = .join fa fb (prs ++ more) ∧ Lk fa a ∧ Lk fb b
  | f, .both a b => ∃ fa fb, f.bare = .both fa fb ∧ Lk fa a ∧ Lk fb b
theorem bare_over (cs : List (List D)) (q : Q) : (overQ cs q).bare = q.bare := by cases cs <;> rfl
theorem Lk.bare {f : Q} : ∀ {q : Q}, Lk f.bare q → Lk f q := by
  have hb : ∀ f : Q, f.bare.bare = f.bare := fun f => by
    induction f with
    | sieve cs q ih => exact ih
    | _ => rfl
  intro q
  induction q with
  | sieve cs q ih => exact ih
  | _ => intro h; unfold Lk at h ⊢; rw [hb] at h; exact h
theorem Lk.refl : ∀ q : Q, Lk q q
  | .table _ => rfl
  | .sieve cs q => Lk.bare (f := .sieve cs q) (q := q) (by
      have h := Lk.refl q
      have hb : ∀ {q : Q}, Lk q q → Lk q.bare q := fun {q} h => by
        have : ∀ (f p : Q), Lk f p → Lk f.bare p := fun f p => by
          have hb : ∀ f : Q, f.bare.bare = f.bare := fun f => by
            induction f with
            | sieve cs q ih => exact ih
            | _ => rfl
          induction p with
          | sieve cs q ih => exact ih
          | _ => intro h; unfold Lk at h ⊢; rw [hb]; exact h
        exact this q q h
      exact hb h)
  | .pick ps q => ⟨q, rfl, Lk.refl q⟩
  | .group ps ss q => ⟨q, rfl, Lk.refl q⟩
  | .order ks q => ⟨q, rfl, Lk.refl q⟩
  | .once q => ⟨q, rfl, Lk.refl q⟩
  | .first c q => ⟨q, rfl, Lk.refl q⟩
  | .join a b prs => ⟨a, b, [], by rw [List.append_nil]; rfl, Lk.refl a, Lk.refl b⟩
  | .both a b => ⟨a, b, rfl, Lk.refl a, Lk.refl b⟩
/-- the head of a planned query -/
theorem placed_bare {W : Wd} : ∀ (f : Q) (cl : List (List D)), match f.bare with
    | .table nm => (f.placed W cl).bare = .table nm
    | .sieve _ _ => True
    | .pick ps f' => ∃ c, (f.placed W cl).bare = .pick ps (f'.placed W c)
    | .group ps ss f' => ∃ c, (f.placed W cl).bare = .group ps ss (f'.placed W c)
    | .order ks f' => ∃ c, (f.placed W cl).bare = .order ks (f'.placed W c)
    | .once f' => ∃ c, (f.placed W cl).bare = .once (f'.placed W c)
    | .first k f' => (f.placed W cl).bare = .first k (f'.placed W [])
    | .join a b prs => ∃ c c' more, (f.placed W cl).bare = .join (a.placed W c) (b.placed W c') (prs ++ more)
    | .both a b => ∃ c c', (f.placed W cl).bare = .both (a.placed W c) (b.placed W c')
  | .sieve cs f, cl => placed_bare f (cs ++ cl)
  | .table nm, cl => bare_over _ _
  | .pick ps f, cl => ⟨_, rfl⟩
  | .group ps ss f, cl => ⟨_, bare_over _ _⟩
  | .order ks f, cl => ⟨_, rfl⟩
  | .once f, cl => ⟨_, rfl⟩
  | .first k f, cl => bare_over _ _
  | .join a b prs, cl => ⟨_, _, _, bare_over _ _⟩
  | .both a b, cl => ⟨_, _, rfl⟩
theorem Lk.placed {W : Wd} : ∀ {q f : Q} (cl : List (List D)), Lk f q → Lk (f.placed W cl) q
  | .sieve _ q, f, cl, h => Lk.placed (q := q) cl h
  | .table nm, f, cl, h => by have := placed_bare (W := W) f cl; rw [show f.bare = _ from h] at this; exact this
  | .pick ps q, f, cl, ⟨f', e, h⟩ => by have := placed_bare (W := W) f cl; rw [e] at this; obtain ⟨c, this⟩ := this; exact ⟨_, this, Lk.placed c h⟩
  | .group ps ss q, f, cl, ⟨f', e, h⟩ => by have := placed_bare (W := W) f cl; rw [e] at this; obtain ⟨c, this⟩ := this; exact ⟨_, this, Lk.placed c h⟩
  | .order ks q, f, cl, ⟨f', e, h⟩ => by have := placed_bare (W := W) f cl; rw [e] at this; obtain ⟨c, this⟩ := this; exact ⟨_, this, Lk.placed c h⟩
  | .once q, f, cl, ⟨f', e, h⟩ => by have := placed_bare (W := W) f cl; rw [e] at this; obtain ⟨c, this⟩ := this; exact ⟨_, this, Lk.placed c h⟩
  | .first k q, f, cl, ⟨f', e, h⟩ => by have := placed_bare (W := W) f cl; rw [e] at this; exact ⟨_, this, Lk.placed [] h⟩
  | .join a b prs, f, cl, ⟨fa, fb, more, e, h1, h2⟩ => by
    have := placed_bare (W := W) f cl; rw [e] at this
    obtain ⟨c, c', more', this⟩ := this
    exact ⟨_, _, more ++ more', by rw [this, List.append_assoc], Lk.placed c h1, Lk.placed c' h2⟩
  | .both a b, f, cl, ⟨fa, fb, e, h1, h2⟩ => by
    have := placed_bare (W := W) f cl; rw [e] at this
    obtain ⟨c, c', this⟩ := this
    exact ⟨_, _, this, Lk.placed c h1, Lk.placed c' h2⟩

set_option maxRecDepth 100000
set_option maxHeartbeats 400000
noncomputable def fn_law_cell_is : Fn := ⟨["_law_found", "_law_due"], [
    .ite (.bop .Or [.isi (.var "_law_due") "str", .isi (.var "_law_found") "bool"]) [.ret (.bop .And [.isi (.var "_law_found") "str", .isi (.var "_law_due") "str", .cmp .Eq (.var "_law_found") (.var "_law_due")])] [],
    .ret (.bop .And [.isi (.var "_law_found") "int", .cmp .Eq (.var "_law_found") (.var "_law_due")])]⟩
noncomputable def fn_law_part_is : Fn := ⟨["_law_found", "_law_due"], [
    .ite (.isi (.var "_law_due") "tuple") [.ite (.bop .Or [.not (.isi (.var "_law_found") "tuple"), .cmp .NotEq (.blt "len" [.var "_law_found"]) (.blt "len" [.var "_law_due"])]) [.ret (.bool false)] [], .ret (.not (.comp (.var "_law_k") "_law_k" (.blt "range" [.blt "len" [.var "_law_due"]]) [.not (.call "_law_part_is" [.sub (.var "_law_found") (.var "_law_k"), .sub (.var "_law_due") (.var "_law_k")])]))] [],
    .ite (.isi (.var "_law_due") "bool") [.ret (.bop .And [.isi (.var "_law_found") "bool", .cmp .Eq (.var "_law_found") (.var "_law_due")])] [],
    .ret (.call "_law_cell_is" [.var "_law_found", .var "_law_due"])]⟩
noncomputable def fn_law_bare : Fn := ⟨["_law_query"], [
    .while_ (.bop .And [.isi (.var "_law_query") "tuple", .cmp .Eq (.blt "len" [.var "_law_query"]) (.int 3), .cmp .Eq (.sub (.var "_law_query") (.int 0)) (.str "sieve")]) [.assign "_law_query" (.sub (.var "_law_query") (.int 2))],
    .ret (.var "_law_query")]⟩
structure BS (P : List (String × Fn)) : Prop where
  ci : P.lookup "_law_cell_is" = some fn_law_cell_is
  pi : P.lookup "_law_part_is" = some fn_law_part_is
  ba : P.lookup "_law_bare" = some fn_law_bare
theorem v_nothing5 {cf : CF} {ρ : List (String × D)} {src elt c : ME} {z : String} {k : Nat} (hk : k ≤ 20000) (hs : evE cf ρ src = some (.int k)) (h : ∀ i : Nat, i < k → evE cf ((z, .int i) :: ρ) c = some (.bool true)) :
    evE cf ρ (.not (.comp elt z (.blt "range" [src]) [.not c])) = some (.bool true) := by
  have hb : k ≤ big := Nat.le_trans hk (by decide)
  have hlen : ((List.range k).map fun (i : Nat) => D.int (i : Int)).length = k := by simp
  refine v_not (k := false) (v_comp (ds := []) (v_blt (v_cons (d := .int k) hs (es_nil _ _)) (blt_rng hb)) (items_rng k) (Nat.le_trans (Nat.le_of_eq hlen) hb) (compM_none _ _ ?_)) rfl
  intro it hit
  obtain ⟨i, hi, rfl⟩ := List.mem_map.mp hit
  exact compF_one (k := false) (y := .none) (v_not (h i (List.mem_range.mp hi)) rfl) rfl nofun
section
variable {P : List (String × Fn)} {X : CF}
theorem cell_same (B : BS P) (n : Nat) {a : D} (ha : a.isCell = true) : (callN P X (n + 1)).call "_law_cell_is" [a, a] = some (.bool true, false) := by
  refine run_call B.ci rfl ?_
  cases a <;> first | (cases ha; done) | skip
  · rename_i i
    have e : cmpD .Eq (.int i) (.int i) = some (.bool true) := by show some (D.bool (i == i)) = _; rw [beq_self_eq_true]
    exact r_if (k := false) rfl rfl nofun fun _ => r_ret (v_map (v_and (k := true) (l := true) rfl fun _ => v_bop1 (v_cmp rfl rfl e)) rfl rfl) rfl
  · rename_i x
    have e : cmpD .Eq (.str x) (.str x) = some (.bool true) := by show some (D.bool (x == x)) = _; rw [beq_self_eq_true]
    exact r_if (k := true) rfl rfl (fun _ => r_ret (v_map (v_and (k := true) (l := true) rfl fun _ => v_and (k := true) (l := true) rfl fun _ => v_bop1 (v_cmp rfl rfl e)) rfl rfl) rfl) nofun
/-- part_is of a part with itself -/
noncomputable def Selfs (P : List (String × Fn)) (k : Nat) (d : D) : Prop := ∀ X n, k ≤ n → (callN P X (n + 2)).call "_law_part_is" [d, d] = some (.bool true, false)
theorem Selfs.up {k l : Nat} {d : D} (h : Selfs P k d) (hl : k ≤ l) : Selfs P l d := fun X n hn => h X n (Nat.le_trans hl hn)
theorem sm_cell (B : BS P) {a : D} (ha : a.isCell = true) (k : Nat) : Selfs P k a := fun X n _ => by
  refine run_call B.pi rfl ?_
  have h := cell_same (X := X) B n ha
  cases a <;> first | (cases ha; done) | exact r_if (k := false) rfl rfl nofun fun _ => r_if (k := false) rfl rfl nofun fun _ => r_ret (v_call rfl h) rfl
theorem sm_bool (B : BS P) (b : Bool) (k : Nat) : Selfs P k (.bool b) := fun X n _ => by
  refine run_call B.pi rfl ?_
  have e : cmpD .Eq (.bool b) (.bool b) = some (.bool true) := by cases b <;> rfl
  exact r_if (k := false) rfl rfl nofun fun _ => r_if (k := true) rfl rfl (fun _ => r_ret (v_map (v_and (k := true) (l := true) rfl fun _ => v_bop1 (v_cmp rfl rfl e)) rfl rfl) rfl) nofun
theorem sm_tup (B : BS P) {ds : List D} {k : Nat} (hl : ds.length ≤ 20000) (h : ∀ d ∈ ds, Selfs P k d) : Selfs P (k + 1) (.tup ds) := fun X n hn => by
  obtain ⟨n, rfl⟩ : ∃ n', n = n' + 1 := ⟨n - 1, by omega⟩
  refine run_call B.pi rfl ?_
  refine r_if (k := true) rfl rfl (fun _ => ?_) nofun
  refine r_if (k := false || false) (v_or (k := false) (l := false) rfl fun _ => v_bop1 (v_cmp rfl rfl (neq_self ds.length))) rfl nofun fun _ => ?_
  refine r_ret (v_map (v_nothing5 (k := ds.length) hl rfl fun i hi => ?_) rfl rfl) rfl
  have hd : subD (.tup ds) (.int i) = some ds[i] := sub_t hi (List.getElem?_eq_getElem hi)
  exact v_callE (v_cons (v_sub (x := .tup ds) (y := .int i) rfl rfl hd) (v_cons (v_sub (x := .tup ds) (y := .int i) rfl rfl hd) (es_nil _ _))) (h _ (List.getElem_mem hi) X n (by omega))
theorem sm_map (B : BS P) {α : Type} {l : List α} {g : α → D} {k : Nat} (hl : l.length ≤ 20000) (h : ∀ x ∈ l, Selfs P k (g x)) : Selfs P (k + 1) (.tup (l.map g)) :=
  sm_tup B (by rw [List.length_map]; exact hl) fun d hd => by obtain ⟨x, hx, rfl⟩ := List.mem_map.mp hd; exact h x hx
theorem sm_two (B : BS P) {a b : D} {k : Nat} (ha : Selfs P k a) (hb : Selfs P k b) : Selfs P (k + 1) (.tup [a, b]) := sm_tup B (Nat.le_of_ble_eq_true rfl) fun d hd => by
  simp only [List.mem_cons, List.not_mem_nil, or_false] at hd
  rcases hd with rfl | rfl
  · exact ha
  · exact hb
theorem sm_nats (B : BS P) {ps : List Nat} (hl : ps.length ≤ 20000) : Selfs P 1 (.tup (ps.map natD)) := sm_map B hl fun x _ => sm_cell B rfl 0
theorem sm_sums (B : BS P) {ss : List (String × Nat)} (hl : ss.length ≤ 20000) : Selfs P 2 (.tup (ss.map sumT)) := sm_map B hl fun x _ => sm_two B (sm_cell B rfl 0) (sm_cell B rfl 0)
theorem sm_keys (B : BS P) {ks : List (Nat × Bool)} (hl : ks.length ≤ 20000) : Selfs P 2 (.tup (ks.map keyT)) := sm_map B hl fun x _ => sm_two B (sm_cell B rfl 0) (sm_bool B _ 0)
theorem sm_prs (B : BS P) {ks : List (Nat × Nat)} (hl : ks.length ≤ 20000) : Selfs P 2 (.tup (ks.map prT)) := sm_map B hl fun x _ => sm_two B (sm_cell B rfl 0) (sm_cell B rfl 0)
noncomputable def bareC : ME := .bop .And [.isi (.var "_law_query") "tuple", .cmp .Eq (.blt "len" [.var "_law_query"]) (.int 3), .cmp .Eq (.sub (.var "_law_query") (.int 0)) (.str "sieve")]
theorem bare_while {cf : CF} : ∀ (q : Q) (k : Nat), q.dp < k → whileD (condF cf bareC) (fun σ => exSs cf [.assign "_law_query" (.sub (.var "_law_query") (.int 2))] σ) k [("_law_query", (false, q.d))] = some (.next, [("_law_query", (false, q.bare.d))])
  | .table nm, k + 1, _ => rfl
  | .pick ps q, k + 1, _ => rfl
  | .group ps ss q, k + 1, _ => rfl
  | .order ks q, k + 1, _ => rfl
  | .once q, k + 1, _ => rfl
  | .first c q, k + 1, _ => rfl
  | .join a b prs, k + 1, _ => rfl
  | .both a b, k + 1, _ => rfl
  | .sieve cs q, k + 1, h => by
    have ih := bare_while (cf := cf) q k (Nat.lt_of_succ_lt_succ h)
    have hc : condF cf bareC [("_law_query", (false, (Q.sieve cs q).d))] = some true := rfl
    have hb : exSs cf [.assign "_law_query" (.sub (.var "_law_query") (.int 2))] [("_law_query", (false, (Q.sieve cs q).d))] = some (.next, [("_law_query", (false, q.d))]) := by
      obtain ⟨fl, σ', ⟨rfl, rfl⟩, e⟩ : Out cf [.assign "_law_query" (.sub (.var "_law_query") (.int 2))] [("_law_query", (false, (Q.sieve cs q).d))] fun fl σ' => fl = .next ∧ σ' = [("_law_query", (false, q.d))] := by
        refine o_step (p_assign (d := q.d) (fr := false) (v_map (v_sub (x := (Q.sieve cs q).d) (y := .int 2) rfl rfl rfl) rfl rfl)) (o_nil ⟨rfl, ?_⟩)
        unfold settle; split <;> rfl
      exact e
    rw [whileD, hc]
    dsimp only
    rw [hb]
    exact ih
theorem bare_eq (B : BS P) (n : Nat) (q : Q) (h : q.dp < 1000) : (callN P X (n + 1)).call "_law_bare" [q.d] = some (q.bare.d, false) := by
  refine run_call B.ba rfl ?_
  exact r_while (bare_while q wlim h) (r_retv rfl)
end

set_option maxRecDepth 100000
set_option maxHeartbeats 400000
noncomputable def fn_law_like : Fn := ⟨["_law_found", "_law_query"], [
    .assign "_law_one" (.call "_law_bare" [.var "_law_found"]),
    .assign "_law_due" (.call "_law_bare" [.var "_law_query"]),
    .ite (.bop .Or [.not (.isi (.var "_law_one") "tuple"), .cmp .NotEq (.blt "len" [.var "_law_one"]) (.blt "len" [.var "_law_due"]), .not (.call "_law_cell_is" [.sub (.var "_law_one") (.int 0), .sub (.var "_law_due") (.int 0)])]) [.ret (.bool false)] [],
    .ite (.cmp .Eq (.sub (.var "_law_due") (.int 0)) (.str "table")) [.ret (.call "_law_cell_is" [.sub (.var "_law_one") (.int 1), .sub (.var "_law_due") (.int 1)])] [],
    .ite (.cmp .Eq (.sub (.var "_law_due") (.int 0)) (.str "both")) [.ret (.bop .And [.call "_law_like" [.sub (.var "_law_one") (.int 1), .sub (.var "_law_due") (.int 1)], .call "_law_like" [.sub (.var "_law_one") (.int 2), .sub (.var "_law_due") (.int 2)]])] [],
    .ite (.cmp .Eq (.sub (.var "_law_due") (.int 0)) (.str "join")) [.ite (.bop .Or [.not (.isi (.sub (.var "_law_one") (.int 3)) "tuple"), .not (.call "_law_part_is" [.sl (.sub (.var "_law_one") (.int 3)) .none (.blt "len" [.sub (.var "_law_due") (.int 3)]), .sub (.var "_law_due") (.int 3)])]) [.ret (.bool false)] [], .ret (.bop .And [.call "_law_like" [.sub (.var "_law_one") (.int 1), .sub (.var "_law_due") (.int 1)], .call "_law_like" [.sub (.var "_law_one") (.int 2), .sub (.var "_law_due") (.int 2)]])] [],
    .ite (.cmp .Eq (.sub (.var "_law_due") (.int 0)) (.str "once")) [.ret (.call "_law_like" [.sub (.var "_law_one") (.int 1), .sub (.var "_law_due") (.int 1)])] [],
    .assign "_law_last" (.bin .Sub (.blt "len" [.var "_law_due"]) (.int 1)),
    .ret (.bop .And [.call "_law_part_is" [.sl (.var "_law_one") (.int 1) (.var "_law_last"), .sl (.var "_law_due") (.int 1) (.var "_law_last")], .call "_law_like" [.sub (.var "_law_one") (.var "_law_last"), .sub (.var "_law_due") (.var "_law_last")]])]⟩
structure BL (P : List (String × Fn)) : Prop extends BS P where
  li : P.lookup "_law_like" = some fn_law_like
theorem bare_dp : ∀ f : Q, f.bare.dp ≤ f.dp
  | .sieve cs q => Nat.le_succ_of_le (bare_dp q)
  | .table _ | .pick _ _ | .group _ _ _ | .order _ _ | .once _ | .first _ _ | .join _ _ _ | .both _ _ => Nat.le_refl _
noncomputable abbrev stL (F G one due : D) : St := [("_law_found", (false, F)), ("_law_query", (false, G)), ("_law_one", (false, one)), ("_law_due", (false, due))]
section
variable {P : List (String × Fn)} {X : CF} {W : Wd}
/-- the first look: tuples of one length and one word -/
theorem like_gate {cf : CF} {F G : D} {w : String} {ls ms : List D} {r : List MS} {R : D} (hl : ls.length = ms.length) (hc : cf.call "_law_cell_is" [sD w, sD w] = some (.bool true, false)) (k : Run cf r (stL F G (.tup (sD w :: ls)) (.tup (sD w :: ms))) R false) :
    Run cf (.ite (.bop .Or [.not (.isi (.var "_law_one") "tuple"), .cmp .NotEq (.blt "len" [.var "_law_one"]) (.blt "len" [.var "_law_due"]), .not (.call "_law_cell_is" [.sub (.var "_law_one") (.int 0), .sub (.var "_law_due") (.int 0)])]) [.ret (.bool false)] [] :: r) (stL F G (.tup (sD w :: ls)) (.tup (sD w :: ms))) R false := by
  have e : cmpD .NotEq (.int (sD w :: ls).length) (.int (sD w :: ms).length) = some (.bool false) := by rw [List.length_cons, List.length_cons, hl]; exact neq_self _
  have s1 : ∀ l : List D, subD (.tup (sD w :: l)) (.int 0) = some (sD w) := fun l => sub_t (k := 0) (Nat.zero_lt_succ _) rfl
  refine r_if (k := false) (x := .bool (false || (false || false))) (v_or (k := false) (v_not (k := true) (v_isi (x := .tup (sD w :: ls)) rfl rfl) rfl) fun _ => v_or (k := false) (l := false) (v_cmp (x := .int (sD w :: ls).length) (y := .int (sD w :: ms).length) rfl rfl e) fun _ => v_bop1 (v_not (k := true) (v_callE (v_cons (v_sub (x := .tup (sD w :: ls)) (y := .int 0) rfl rfl (s1 ls)) (v_cons (v_sub (x := .tup (sD w :: ms)) (y := .int 0) rfl rfl (s1 ms)) (es_nil _ _))) hc) rfl)) rfl nofun fun _ => k
theorem skD {cf : CF} {F G one : D} {w w2 : String} {ms : List D} {t r : List MS} {R : D} {fr : Bool} (hne : (Str.ofString w == Str.ofString w2) = false) (k : Run cf r (stL F G one (.tup (sD w :: ms))) R fr) : Run cf (.ite (.cmp .Eq (.sub (.var "_law_due") (.int 0)) (.str w2)) t [] :: r) (stL F G one (.tup (sD w :: ms))) R fr :=
  r_if (k := false) (x := .bool false) (v_cmp (v_sub (x := .tup (sD w :: ms)) (y := .int 0) rfl rfl (sub_t (k := 0) (Nat.zero_lt_succ _) rfl)) (e_str _ _ _) (by show some (D.bool (Str.ofString w == Str.ofString w2)) = _; rw [hne])) rfl nofun fun _ => k
theorem hitD {cf : CF} {F G one : D} {w : String} {ms : List D} {t r : List MS} {R : D} {fr : Bool} (k : Run cf (t ++ r) (stL F G one (.tup (sD w :: ms))) R fr) : Run cf (.ite (.cmp .Eq (.sub (.var "_law_due") (.int 0)) (.str w)) t [] :: r) (stL F G one (.tup (sD w :: ms))) R fr :=
  r_if (k := true) (x := .bool true) (v_cmp (v_sub (x := .tup (sD w :: ms)) (y := .int 0) rfl rfl (sub_t (k := 0) (Nat.zero_lt_succ _) rfl)) (e_str _ _ _) (by show some (D.bool (Str.ofString w == Str.ofString w)) = _; rw [beq_self_eq_true])) rfl (fun _ => k) nofun
theorem like_of (B : BL P) (n : Nat) {f q : Q} (hf : f.dp < 1000) (hq : q.dp < 1000) (h : ∀ F G, Run (callN P X (n + 1)) (fn_law_like.body.drop 2) (stL F G f.bare.d q.bare.d) (.bool true) false) : (callN P X (n + 2)).call "_law_like" [f.d, q.d] = some (.bool true, false) := by
  refine run_call B.li rfl ?_
  have b1 := bare_eq (X := X) B.toBS n f hf
  have b2 := bare_eq (X := X) B.toBS n q hq
  refine r_step (p_assign (v_call (v_cons (d := f.d) rfl (es_nil _ _)) b1)) ?_
  refine r_norm (σ' := [("_law_found", (false, f.d)), ("_law_query", (false, q.d)), ("_law_one", (false, f.bare.d))]) (by unfold settle; split <;> rfl) ?_
  refine r_step (p_assign (v_call (v_cons (d := q.d) rfl (es_nil _ _)) b2)) ?_
  exact r_norm (σ' := stL f.d q.d f.bare.d q.bare.d) (by unfold settle; split <;> rfl) (h _ _)
theorem two_true {cf : CF} {ρ : List (String × D)} {a b : ME} (h1 : evE cf ρ a = some (.bool true)) (h2 : evE cf ρ b = some (.bool true)) : evE cf ρ (.bop .And [a, b]) = some (.bool true) := v_and (k := true) (l := true) h1 fun _ => v_bop1 h2
theorem n31 {d n : Nat} (h : d + 1 + 3 ≤ n) : ∃ n', n = n' + 1 := ⟨n - 1, by omega⟩
theorem k_le {d n k : Nat} (h : d + 1 + 3 ≤ n + 1) (hk : k ≤ 3 := by decide) : k ≤ n := by omega
theorem like_core (B : BL P) : ∀ (q f : Q) (n : Nat), Lk f q → q.ok W → f.dp < 1000 → q.dp < 1000 → q.dp + 3 ≤ n → ∀ F G, Run (callN P X (n + 1)) (fn_law_like.body.drop 2) (stL F G f.bare.d q.bare.d) (.bool true) false
  | .sieve cs q => fun f n h ho hf hq hn F G => like_core B q f n h ho.1 hf (Nat.lt_of_succ_lt hq) (Nat.le_trans (Nat.add_le_add_right (Nat.le_succ _) 3) hn) F G
  | .table nm => by
    intro f n h ho hf hq hn F G
    rw [show f.bare = _ from h]
    exact like_gate rfl (cell_same B.toBS n rfl) (hitD (r_ret (v_call (v_cons (d := .str nm) rfl (v_cons (d := .str nm) rfl (es_nil _ _))) (cell_same B.toBS n rfl)) rfl))
  | .pick ps q => by
    intro f n h ho hf hq hn F G
    obtain ⟨n, rfl⟩ := n31 hn
    obtain ⟨f', e, h⟩ := h
    have hd := bare_dp f; rw [e] at hd
    have ih := like_of (X := X) B n (f := f') (q := q) (Nat.lt_trans hd hf) (Nat.lt_of_succ_lt hq) (like_core B q f' n h ho.1 (Nat.lt_trans hd hf) (Nat.lt_of_succ_lt hq) (Nat.le_of_succ_le_succ hn))
    have pi := sm_tup B.toBS (ds := [.tup (ps.map natD)]) (Nat.le_of_ble_eq_true rfl) (fun d hd => by rw [List.mem_singleton.mp hd]; exact sm_nats B.toBS (Nat.le_trans ho.2.2 (by decide))) X n (k_le hn)
    rw [e]
    refine like_gate rfl (cell_same B.toBS (n + 1) rfl) (skD rfl (skD rfl (skD rfl (skD rfl ?_))))
    refine r_step (p_assign (d := .int 2) (fr := false) rfl) ?_
    exact r_ret (v_map (two_true (v_callE (v_cons (d := .tup [.tup (ps.map natD)]) rfl (v_cons (d := .tup [.tup (ps.map natD)]) rfl (es_nil _ _))) pi) (v_callE (v_cons (d := f'.d) rfl (v_cons (d := q.d) rfl (es_nil _ _))) ih)) rfl rfl) rfl
  | .order ks q => by
    intro f n h ho hf hq hn F G
    obtain ⟨n, rfl⟩ := n31 hn
    obtain ⟨f', e, h⟩ := h
    have hd := bare_dp f; rw [e] at hd
    have ih := like_of (X := X) B n (f := f') (q := q) (Nat.lt_trans hd hf) (Nat.lt_of_succ_lt hq) (like_core B q f' n h ho.1 (Nat.lt_trans hd hf) (Nat.lt_of_succ_lt hq) (Nat.le_of_succ_le_succ hn))
    have pi := sm_tup B.toBS (ds := [.tup (ks.map keyT)]) (Nat.le_of_ble_eq_true rfl) (fun d hd => by rw [List.mem_singleton.mp hd]; exact sm_keys B.toBS (Nat.le_trans ho.2.2 (by decide))) X n (k_le hn)
    rw [e]
    refine like_gate rfl (cell_same B.toBS (n + 1) rfl) (skD rfl (skD rfl (skD rfl (skD rfl ?_))))
    refine r_step (p_assign (d := .int 2) (fr := false) rfl) ?_
    exact r_ret (v_map (two_true (v_callE (v_cons (d := .tup [.tup (ks.map keyT)]) rfl (v_cons (d := .tup [.tup (ks.map keyT)]) rfl (es_nil _ _))) pi) (v_callE (v_cons (d := f'.d) rfl (v_cons (d := q.d) rfl (es_nil _ _))) ih)) rfl rfl) rfl
  | .first c q => by
    intro f n h ho hf hq hn F G
    obtain ⟨n, rfl⟩ := n31 hn
    obtain ⟨f', e, h⟩ := h
    have hd := bare_dp f; rw [e] at hd
    have ih := like_of (X := X) B n (f := f') (q := q) (Nat.lt_trans hd hf) (Nat.lt_of_succ_lt hq) (like_core B q f' n h ho (Nat.lt_trans hd hf) (Nat.lt_of_succ_lt hq) (Nat.le_of_succ_le_succ hn))
    have pi := sm_tup B.toBS (ds := [natD c]) (Nat.le_of_ble_eq_true rfl) (fun d hd => by rw [List.mem_singleton.mp hd]; exact sm_cell B.toBS rfl 0) X n (k_le hn)
    rw [e]
    refine like_gate rfl (cell_same B.toBS (n + 1) rfl) (skD rfl (skD rfl (skD rfl (skD rfl ?_))))
    refine r_step (p_assign (d := .int 2) (fr := false) rfl) ?_
    exact r_ret (v_map (two_true (v_callE (v_cons (d := .tup [natD c]) rfl (v_cons (d := .tup [natD c]) rfl (es_nil _ _))) pi) (v_callE (v_cons (d := f'.d) rfl (v_cons (d := q.d) rfl (es_nil _ _))) ih)) rfl rfl) rfl
  | .group ps ss q => by
    intro f n h ho hf hq hn F G
    obtain ⟨n, rfl⟩ := n31 hn
    obtain ⟨f', e, h⟩ := h
    have hd := bare_dp f; rw [e] at hd
    have ih := like_of (X := X) B n (f := f') (q := q) (Nat.lt_trans hd hf) (Nat.lt_of_succ_lt hq) (like_core B q f' n h ho.1 (Nat.lt_trans hd hf) (Nat.lt_of_succ_lt hq) (Nat.le_of_succ_le_succ hn))
    have pi := sm_two B.toBS ((sm_nats B.toBS (ps := ps) (Nat.le_trans ho.2.2.2.1 (by decide))).up (l := 2) (by decide)) (sm_sums B.toBS (ss := ss) (Nat.le_trans ho.2.2.2.2 (by decide))) X n (k_le hn)
    rw [e]
    refine like_gate rfl (cell_same B.toBS (n + 1) rfl) (skD rfl (skD rfl (skD rfl (skD rfl ?_))))
    refine r_step (p_assign (d := .int 3) (fr := false) rfl) ?_
    exact r_ret (v_map (two_true (v_callE (v_cons (d := .tup [.tup (ps.map natD), .tup (ss.map sumT)]) rfl (v_cons (d := .tup [.tup (ps.map natD), .tup (ss.map sumT)]) rfl (es_nil _ _))) pi) (v_callE (v_cons (d := f'.d) rfl (v_cons (d := q.d) rfl (es_nil _ _))) ih)) rfl rfl) rfl
  | .once q => by
    intro f n h ho hf hq hn F G
    obtain ⟨n, rfl⟩ := n31 hn
    obtain ⟨f', e, h⟩ := h
    have hd := bare_dp f; rw [e] at hd
    have ih := like_of (X := X) B n (f := f') (q := q) (Nat.lt_trans hd hf) (Nat.lt_of_succ_lt hq) (like_core B q f' n h ho (Nat.lt_trans hd hf) (Nat.lt_of_succ_lt hq) (Nat.le_of_succ_le_succ hn))
    rw [e]
    refine like_gate rfl (cell_same B.toBS (n + 1) rfl) (skD rfl (skD rfl (skD rfl (hitD ?_))))
    exact r_ret (v_call (v_cons (d := f'.d) rfl (v_cons (d := q.d) rfl (es_nil _ _))) ih) rfl
  | .both a b => by
    intro f n h ho hf hq hn F G
    obtain ⟨n, rfl⟩ := n31 hn
    obtain ⟨fa, fb, e, h1, h2⟩ := h
    have hd := bare_dp f; rw [e] at hd
    have i1 := like_of (X := X) B n (f := fa) (q := a) (Nat.lt_of_le_of_lt (Nat.le_max_left _ _) (Nat.lt_trans hd hf)) (Nat.lt_of_le_of_lt (Nat.le_max_left _ _) (Nat.lt_of_succ_lt hq)) (like_core B a fa n h1 ho.1 (Nat.lt_of_le_of_lt (Nat.le_max_left _ _) (Nat.lt_trans hd hf)) (Nat.lt_of_le_of_lt (Nat.le_max_left _ _) (Nat.lt_of_succ_lt hq)) (Nat.le_trans (Nat.add_le_add_right (Nat.le_max_left _ _) 3) (Nat.le_of_succ_le_succ hn)))
    have i2 := like_of (X := X) B n (f := fb) (q := b) (Nat.lt_of_le_of_lt (Nat.le_max_right _ _) (Nat.lt_trans hd hf)) (Nat.lt_of_le_of_lt (Nat.le_max_right _ _) (Nat.lt_of_succ_lt hq)) (like_core B b fb n h2 ho.2.1 (Nat.lt_of_le_of_lt (Nat.le_max_right _ _) (Nat.lt_trans hd hf)) (Nat.lt_of_le_of_lt (Nat.le_max_right _ _) (Nat.lt_of_succ_lt hq)) (Nat.le_trans (Nat.add_le_add_right (Nat.le_max_right _ _) 3) (Nat.le_of_succ_le_succ hn)))
    rw [e]
    refine like_gate rfl (cell_same B.toBS (n + 1) rfl) (skD rfl (hitD ?_))
    exact r_ret (v_map (two_true (v_callE (v_cons (d := fa.d) rfl (v_cons (d := a.d) rfl (es_nil _ _))) i1) (v_callE (v_cons (d := fb.d) rfl (v_cons (d := b.d) rfl (es_nil _ _))) i2)) rfl rfl) rfl
  | .join a b prs => by
    intro f n h ho hf hq hn F G
    obtain ⟨n, rfl⟩ := n31 hn
    obtain ⟨fa, fb, more, e, h1, h2⟩ := h
    have hd := bare_dp f; rw [e] at hd
    have i1 := like_of (X := X) B n (f := fa) (q := a) (Nat.lt_of_le_of_lt (Nat.le_max_left _ _) (Nat.lt_trans hd hf)) (Nat.lt_of_le_of_lt (Nat.le_max_left _ _) (Nat.lt_of_succ_lt hq)) (like_core B a fa n h1 ho.1 (Nat.lt_of_le_of_lt (Nat.le_max_left _ _) (Nat.lt_trans hd hf)) (Nat.lt_of_le_of_lt (Nat.le_max_left _ _) (Nat.lt_of_succ_lt hq)) (Nat.le_trans (Nat.add_le_add_right (Nat.le_max_left _ _) 3) (Nat.le_of_succ_le_succ hn)))
    have i2 := like_of (X := X) B n (f := fb) (q := b) (Nat.lt_of_le_of_lt (Nat.le_max_right _ _) (Nat.lt_trans hd hf)) (Nat.lt_of_le_of_lt (Nat.le_max_right _ _) (Nat.lt_of_succ_lt hq)) (like_core B b fb n h2 ho.2.1 (Nat.lt_of_le_of_lt (Nat.le_max_right _ _) (Nat.lt_trans hd hf)) (Nat.lt_of_le_of_lt (Nat.le_max_right _ _) (Nat.lt_of_succ_lt hq)) (Nat.le_trans (Nat.add_le_add_right (Nat.le_max_right _ _) 3) (Nat.le_of_succ_le_succ hn)))
    have pi := sm_prs B.toBS (ks := prs) (Nat.le_trans ho.2.2.2 (by decide)) X n (k_le hn)
    have hsl : slD (.tup ((prs ++ more).map prT)) .none (.int prs.length) = some (.tup (prs.map prT)) := by
      show some (D.tup ((((prs ++ more).map prT).take prs.length).drop 0)) = _
      rw [List.drop_zero, List.map_append, ← List.length_map (f := prT) (as := prs), List.take_left]
    have hlen : bltD "len" [.tup (prs.map prT)] = some (.int prs.length) := by show some (D.int ((prs.map prT).length : Nat)) = _; rw [List.length_map]
    rw [e]
    refine like_gate rfl (cell_same B.toBS (n + 1) rfl) (skD rfl (skD rfl (hitD ?_)))
    refine r_if (k := false) (x := .bool (false || false)) (v_or (k := false) (l := false) (v_not (k := true) (v_isi (x := .tup ((prs ++ more).map prT)) rfl rfl) rfl) fun _ => v_bop1 (v_not (k := true) (v_callE (v_cons (v_sl (x := .tup ((prs ++ more).map prT)) (u := .none) (v := .int prs.length) rfl (e_none _ _) (v_blt (v_cons (d := .tup (prs.map prT)) rfl (es_nil _ _)) hlen) hsl) (v_cons (d := .tup (prs.map prT)) rfl (es_nil _ _))) pi) rfl)) rfl nofun fun _ => ?_
    exact r_ret (v_map (two_true (v_callE (v_cons (d := fa.d) rfl (v_cons (d := a.d) rfl (es_nil _ _))) i1) (v_callE (v_cons (d := fb.d) rfl (v_cons (d := b.d) rfl (es_nil _ _))) i2)) rfl rfl) rfl
theorem like_eq (B : BL P) (n : Nat) {q f : Q} (h : Lk f q) (ho : q.ok W) (hf : f.dp < 1000) (hq : q.dp < 1000) (hn : q.dp + 3 ≤ n) : (callN P X (n + 2)).call "_law_like" [f.d, q.d] = some (.bool true, false) :=
  like_of B n hf hq (like_core B q f n h ho hf hq hn)
end

set_option maxRecDepth 100000
set_option maxHeartbeats 400000
noncomputable def fn_law_many : Fn := ⟨["_law_cell"], [
    .ite (.cmp .Eq (.bin .Mod (.bin .FloorDiv (.var "_law_cell") (.int 4)) (.int 9)) (.int 1)) [.ret (.bin .Mod (.bin .FloorDiv (.var "_law_cell") (.int 36)) (.int 13))] [],
    .ret (.bin .Mod (.var "_law_cell") (.int 4))]⟩
noncomputable def fn_law_places_by : Fn := ⟨["_law_cell", "_law_wide"], [
    .ite (.cmp .Eq (.var "_law_wide") (.int 0)) [.ret (.tup [])] [],
    .ret (.blt "tuple" [.comp (.bin .Mod (.call "_law_mixed" [.var "_law_cell", .bin .Add (.int 60) (.var "_law_k")]) (.var "_law_wide")) "_law_k" (.blt "range" [.call "_law_many" [.var "_law_cell"]]) []])]⟩
noncomputable def fn_law_sums_by : Fn := ⟨["_law_cell", "_law_wide"], [
    .assign "_law_words" (.lst [.str "count", .str "sum", .str "least", .str "most"]),
    .assign "_law_places_here" (.call "_law_places_by" [.bin .FloorDiv (.var "_law_cell") (.int 5), .var "_law_wide"]),
    .ret (.blt "tuple" [.comp (.tup [.sub (.var "_law_words") (.bin .Mod (.call "_law_mixed" [.var "_law_cell", .bin .Add (.int 80) (.var "_law_k")]) (.int 4)), .sub (.var "_law_places_here") (.var "_law_k")]) "_law_k" (.blt "range" [.blt "len" [.var "_law_places_here"]]) []])]⟩
noncomputable def fn_law_keys_by : Fn := ⟨["_law_cell", "_law_wide"], [
    .assign "_law_places_here" (.call "_law_places_by" [.var "_law_cell", .var "_law_wide"]),
    .ret (.blt "tuple" [.comp (.tup [.sub (.var "_law_places_here") (.var "_law_k"), .cmp .Eq (.bin .Mod (.call "_law_mixed" [.var "_law_cell", .bin .Add (.int 90) (.var "_law_k")]) (.int 2)) (.int 1)]) "_law_k" (.blt "range" [.blt "len" [.var "_law_places_here"]]) []])]⟩
noncomputable def fn_law_clauses_by : Fn := ⟨["_law_cell", "_law_many_here"], [
    .assign "_law_count" (.sub (.lst [.int 0, .int 1, .int 1, .int 2]) (.bin .Mod (.var "_law_cell") (.int 4))),
    .ite (.cmp .Eq (.bin .Mod (.bin .FloorDiv (.var "_law_cell") (.int 4)) (.int 9)) (.int 1)) [.assign "_law_count" (.bin .Mod (.bin .FloorDiv (.var "_law_cell") (.int 36)) (.int 13))] [],
    .ret (.blt "tuple" [.comp (.call "_law_clause_by" [.call "_law_mixed" [.var "_law_cell", .bin .Add (.int 20) (.var "_law_k")], .var "_law_many_here"]) "_law_k" (.blt "range" [.var "_law_count"]) []])]⟩
noncomputable def fn_law_pairs_by : Fn := ⟨["_law_cell", "_law_one", "_law_other"], [
    .ite (.bop .Or [.cmp .Eq (.var "_law_one") (.int 0), .cmp .Eq (.var "_law_other") (.int 0)]) [.ret (.tup [])] [],
    .assign "_law_many_here" (.sub (.lst [.int 0, .int 0, .int 0, .int 0, .int 1, .bin .Mod (.bin .FloorDiv (.var "_law_cell") (.int 6)) (.int 13)]) (.bin .Mod (.var "_law_cell") (.int 6))),
    .ret (.blt "tuple" [.comp (.tup [.bin .Mod (.call "_law_mixed" [.var "_law_cell", .bin .Add (.int 70) (.var "_law_k")]) (.var "_law_one"), .bin .Mod (.call "_law_mixed" [.var "_law_cell", .bin .Add (.int 75) (.var "_law_k")]) (.var "_law_other")]) "_law_k" (.blt "range" [.var "_law_many_here"]) []])]⟩
noncomputable def fn_law_around : Fn := ⟨["_law_word", "_law_cell", "_law_top"], [
    .ite (.cmp .Lt (.var "_law_word") (.int 3)) [.ret (.tup [.tup [.str "sieve", .call "_law_clauses_by" [.var "_law_cell", .sub (.var "_law_top") (.int 1)], .sub (.var "_law_top") (.int 0)], .sub (.var "_law_top") (.int 1), .sub (.var "_law_top") (.int 2), .sub (.var "_law_top") (.int 3)])] [],
    .ite (.cmp .Eq (.var "_law_word") (.int 4)) [.assign "_law_places_here" (.call "_law_places_by" [.var "_law_cell", .sub (.var "_law_top") (.int 1)]), .ret (.tup [.tup [.str "pick", .var "_law_places_here", .sub (.var "_law_top") (.int 0)], .blt "len" [.var "_law_places_here"], .sub (.var "_law_top") (.int 2), .sub (.var "_law_top") (.int 3)])] [],
    .ite (.bop .Or [.cmp .Eq (.var "_law_word") (.int 3), .cmp .Eq (.var "_law_word") (.int 5)]) [.assign "_law_places_here" (.call "_law_places_by" [.var "_law_cell", .sub (.var "_law_top") (.int 1)]), .assign "_law_sums" (.call "_law_sums_by" [.var "_law_cell", .sub (.var "_law_top") (.int 1)]), .ret (.tup [.tup [.str "group", .var "_law_places_here", .var "_law_sums", .sub (.var "_law_top") (.int 0)], .bin .Add (.blt "len" [.var "_law_places_here"]) (.blt "len" [.var "_law_sums"]), .sub (.var "_law_top") (.int 2), .sub (.var "_law_top") (.int 3)])] [],
    .ite (.cmp .Eq (.var "_law_word") (.int 6)) [.ret (.tup [.tup [.str "order", .call "_law_keys_by" [.var "_law_cell", .sub (.var "_law_top") (.int 1)], .sub (.var "_law_top") (.int 0)], .sub (.var "_law_top") (.int 1), .sub (.var "_law_top") (.int 2), .sub (.var "_law_top") (.int 3)])] [],
    .ite (.cmp .Eq (.var "_law_word") (.int 7)) [.ret (.tup [.tup [.str "once", .sub (.var "_law_top") (.int 0)], .sub (.var "_law_top") (.int 1), .sub (.var "_law_top") (.int 2), .sub (.var "_law_top") (.int 3)])] [],
    .assign "_law_count" (.bin .Add (.int 1) (.bin .Mod (.var "_law_cell") (.int 6))),
    .ite (.cmp .Eq (.bin .Mod (.bin .FloorDiv (.var "_law_cell") (.int 6)) (.int 4)) (.int 1)) [.assign "_law_count" (.bin .Mod (.bin .FloorDiv (.var "_law_cell") (.int 24)) (.int 70))] [],
    .ite (.cmp .Eq (.bin .Mod (.bin .FloorDiv (.var "_law_cell") (.int 6)) (.int 9)) (.int 2)) [.assign "_law_count" (.bin .Mod (.bin .FloorDiv (.var "_law_cell") (.int 54)) (.bin .Pow (.int 10) (.int 40)))] [],
    .ret (.tup [.tup [.str "first", .var "_law_count", .sub (.var "_law_top") (.int 0)], .sub (.var "_law_top") (.int 1), .blt "min" [.sub (.var "_law_top") (.int 2), .var "_law_count"], .sub (.var "_law_top") (.int 3)])]⟩
noncomputable def fn_law_of_two : Fn := ⟨["_law_word", "_law_cell", "_law_one", "_law_two"], [
    .ite (.cmp .Gt (.bin .Add (.sub (.var "_law_one") (.int 3)) (.sub (.var "_law_two") (.int 3))) (.int 24)) [.ret (.lst [])] [],
    .ite (.cmp .Eq (.var "_law_word") (.str "join")) [.ite (.cmp .Gt (.bin .Mult (.sub (.var "_law_one") (.int 2)) (.sub (.var "_law_two") (.int 2))) (.int 60)) [.assign "_law_one" (.call "_law_around" [.int 8, .int 5, .var "_law_one"]), .assign "_law_two" (.call "_law_around" [.int 8, .int 5, .var "_law_two"])] [], .assign "_law_query" (.tup [.str "join", .sub (.var "_law_one") (.int 0), .sub (.var "_law_two") (.int 0), .call "_law_pairs_by" [.var "_law_cell", .sub (.var "_law_one") (.int 1), .sub (.var "_law_two") (.int 1)]]), .ret (.lst [.tup [.var "_law_query", .bin .Add (.sub (.var "_law_one") (.int 1)) (.sub (.var "_law_two") (.int 1)), .bin .Mult (.sub (.var "_law_one") (.int 2)) (.sub (.var "_law_two") (.int 2)), .bin .Add (.sub (.var "_law_one") (.int 3)) (.sub (.var "_law_two") (.int 3))]])] [],
    .ite (.bop .And [.cmp .Eq (.var "_law_word") (.str "both"), .cmp .Eq (.sub (.var "_law_one") (.int 1)) (.sub (.var "_law_two") (.int 1)), .cmp .LtE (.bin .Add (.sub (.var "_law_one") (.int 2)) (.sub (.var "_law_two") (.int 2))) (.int 60)]) [.ret (.lst [.tup [.tup [.str "both", .sub (.var "_law_one") (.int 0), .sub (.var "_law_two") (.int 0)], .sub (.var "_law_one") (.int 1), .bin .Add (.sub (.var "_law_one") (.int 2)) (.sub (.var "_law_two") (.int 2)), .bin .Add (.sub (.var "_law_one") (.int 3)) (.sub (.var "_law_two") (.int 3))]])] [],
    .ret (.lst [])]⟩
noncomputable def fn_law_sieve_on : Fn := ⟨["_law_top", "_law_cell"], [
    .ite (.bop .And [.cmp .Eq (.bin .Mod (.bin .FloorDiv (.var "_law_cell") (.int 4)) (.int 3)) (.int 1), .cmp .Gt (.sub (.var "_law_top") (.int 1)) (.int 0)]) [.assign "_law_word" (.sub (.lst [.str "from", .str "upto", .str "unlike"]) (.bin .Mod (.bin .FloorDiv (.var "_law_cell") (.int 12)) (.int 3))), .assign "_law_test" (.tup [.var "_law_word", .bin .Mod (.call "_law_mixed" [.var "_law_cell", .int 8]) (.sub (.var "_law_top") (.int 1)), .str "is", .bin .Mod (.bin .FloorDiv (.var "_law_cell") (.int 36)) (.int 3)]), .ret (.tup [.tup [.str "sieve", .tup [.tup [.var "_law_test"]], .sub (.var "_law_top") (.int 0)], .sub (.var "_law_top") (.int 1), .sub (.var "_law_top") (.int 2), .sub (.var "_law_top") (.int 3)])] [],
    .ret (.call "_law_around" [.int 0, .bin .Add (.bin .Mult (.bin .FloorDiv (.call "_law_mixed" [.var "_law_cell", .int 6]) (.int 4)) (.int 4)) (.int 1), .var "_law_top"])]⟩
structure BN (P : List (String × Fn)) : Prop extends BD P where
  mn : P.lookup "_law_many" = some fn_law_many
  pb : P.lookup "_law_places_by" = some fn_law_places_by
  sb : P.lookup "_law_sums_by" = some fn_law_sums_by
  kb : P.lookup "_law_keys_by" = some fn_law_keys_by
  cb : P.lookup "_law_clauses_by" = some fn_law_clauses_by
  rb : P.lookup "_law_pairs_by" = some fn_law_pairs_by
  ar : P.lookup "_law_around" = some fn_law_around
  o2 : P.lookup "_law_of_two" = some fn_law_of_two
  so : P.lookup "_law_sieve_on" = some fn_law_sieve_on
theorem listOf {α : Type} {g : α → D} {R : α → Prop} : ∀ {ds : List D}, (∀ d ∈ ds, ∃ x, R x ∧ d = g x) → ∃ xs : List α, ds = xs.map g ∧ ∀ x ∈ xs, R x
  | [], _ => ⟨[], rfl, fun _ h => nomatch h⟩
  | d :: ds, h => by
    obtain ⟨x, h1, rfl⟩ := h d (.head _)
    obtain ⟨xs, rfl, h2⟩ := listOf fun d hd => h d (.tail _ hd)
    exact ⟨x :: xs, rfl, fun y hy => (List.mem_cons.mp hy).elim (fun e => e ▸ h1) (h2 y)⟩
section
variable {P : List (String × Fn)} {X : CF}
theorem many_eq (B : BN P) (n : Nat) (c : Int) : ∃ m : Nat, m ≤ 12 ∧ (callN P X (n + 1)).call "_law_many" [.int c] = some (.int m, false) := by
  obtain ⟨m1, e1, h1⟩ := emod_nat (c / 36) (k := 13) (by decide)
  obtain ⟨m2, e2, h2⟩ := emod_nat c (k := 4) (by decide)
  have e1 : c / 36 % 13 = (m1 : Int) := e1
  have e2 : c % 4 = (m2 : Int) := e2
  have key : Rex (callN P X n) fn_law_many.body [("_law_cell", (false, .int c))] fun d fr => (∃ m : Nat, m ≤ 12 ∧ d = .int m) ∧ fr = false := by
    (repeat' (first | ((first | apply r_step | apply q_step | apply o_step); (focus ((first | ((with_reducible apply p_cell); (focus ((repeat' (first | (with_reducible (first | assumption | apply e_int | apply e_str | apply e_bool | apply e_none | apply es_nil)) | ((with_reducible apply v_var); (focus ((repeat' (first | (with_reducible (first | assumption | exact h_eq | exact hr_eq | exact w_eq | exact h_cons | apply h_own; assumption)) | ((with_reducible (first | apply h_ne | apply hr_ne | apply w_ne | apply h_consn | apply w_st | apply w_fr)); (focus (exact rfl))) | (with_reducible (first | apply hr_vis | apply h_st | apply h_fr)))); done))) | ((with_reducible apply v_var); exact rfl) | ((with_reducible refine (e_glob _ _ _).trans ?_); (with_reducible assumption)) | (with_reducible (first | exact v_neg1 | apply v_cons | apply v_bin | exact b_add | exact b_sb | apply b_mod | apply b_div)) | ((with_reducible apply b_mulL); (focus decide)) | (with_reducible (first | apply b_mul | apply v_cmp | apply v_sub | apply v_sl | apply v_not | apply v_isi | apply v_blt | apply v_tup | apply v_lst | apply v_lcp | apply v_callE | apply v_call | apply v_bop1)) | ((with_reducible (first | apply v_and | apply v_or)); rotate_left; intro _; rotate_right) | (with_reducible apply v_map) | ((with_reducible (first | show cmpD _ _ _ = _ | show truth _ = _ | show isiD _ _ = _ | show frF _ _ = _ | show isCallE _ = _ | show bltD _ _ = _ | show lstD _ = _ | show subD _ _ = _)); exact rfl) | decide | exact Nat.le_of_ble_eq_true rfl)); done)); (with_reducible assumption)) | ((with_reducible apply p_assign); (repeat' (first | (with_reducible (first | assumption | apply e_int | apply e_str | apply e_bool | apply e_none | apply es_nil)) | ((with_reducible apply v_var); (focus ((repeat' (first | (with_reducible (first | assumption | exact h_eq | exact hr_eq | exact w_eq | exact h_cons | apply h_own; assumption)) | ((with_reducible (first | apply h_ne | apply hr_ne | apply w_ne | apply h_consn | apply w_st | apply w_fr)); (focus (exact rfl))) | (with_reducible (first | apply hr_vis | apply h_st | apply h_fr)))); done))) | ((with_reducible apply v_var); exact rfl) | ((with_reducible refine (e_glob _ _ _).trans ?_); (with_reducible assumption)) | (with_reducible (first | exact v_neg1 | apply v_cons | apply v_bin | exact b_add | exact b_sb | apply b_mod | apply b_div)) | ((with_reducible apply b_mulL); (focus decide)) | (with_reducible (first | apply b_mul | apply v_cmp | apply v_sub | apply v_sl | apply v_not | apply v_isi | apply v_blt | apply v_tup | apply v_lst | apply v_lcp | apply v_callE | apply v_call | apply v_bop1)) | ((with_reducible (first | apply v_and | apply v_or)); rotate_left; intro _; rotate_right) | (with_reducible apply v_map) | ((with_reducible (first | show cmpD _ _ _ = _ | show truth _ = _ | show isiD _ _ = _ | show frF _ _ = _ | show isCallE _ = _ | show bltD _ _ = _ | show lstD _ = _ | show subD _ _ = _)); exact rfl) | decide | exact Nat.le_of_ble_eq_true rfl)); done))))) | ((first | apply r_if | apply q_if | apply o_if); (((focus ((repeat' (first | (with_reducible (first | assumption | apply e_int | apply e_str | apply e_bool | apply e_none | apply es_nil)) | ((with_reducible apply v_var); (focus ((repeat' (first | (with_reducible (first | assumption | exact h_eq | exact hr_eq | exact w_eq | exact h_cons | apply h_own; assumption)) | ((with_reducible (first | apply h_ne | apply hr_ne | apply w_ne | apply h_consn | apply w_st | apply w_fr)); (focus (exact rfl))) | (with_reducible (first | apply hr_vis | apply h_st | apply h_fr)))); done))) | ((with_reducible apply v_var); exact rfl) | ((with_reducible refine (e_glob _ _ _).trans ?_); (with_reducible assumption)) | (with_reducible (first | exact v_neg1 | apply v_cons | apply v_bin | exact b_add | exact b_sb | apply b_mod | apply b_div)) | ((with_reducible apply b_mulL); (focus decide)) | (with_reducible (first | apply b_mul | apply v_cmp | apply v_sub | apply v_sl | apply v_not | apply v_isi | apply v_blt | apply v_tup | apply v_lst | apply v_lcp | apply v_callE | apply v_call | apply v_bop1)) | ((with_reducible (first | apply v_and | apply v_or)); rotate_left; intro _; rotate_right) | (with_reducible apply v_map) | ((with_reducible (first | show cmpD _ _ _ = _ | show truth _ = _ | show isiD _ _ = _ | show frF _ _ = _ | show isCallE _ = _ | show bltD _ _ = _ | show lstD _ = _ | show subD _ _ = _)); exact rfl) | decide | exact Nat.le_of_ble_eq_true rfl)); done)); (focus (exact rfl)); (focus (intro hh; first | exact no_tf hh (by assumption) | exact absurd hh (by decide) | skip)); rotate_left; (focus (intro hh; first | exact no_tf (by assumption) hh | exact absurd hh (by decide) | skip))))) | ((first | apply r_retv | apply q_retv); (focus (exact rfl))) | ((first | apply r_ret | apply q_ret | apply o_ret); (focus ((repeat' (first | (with_reducible (first | assumption | apply e_int | apply e_str | apply e_bool | apply e_none | apply es_nil)) | ((with_reducible apply v_var); (focus ((repeat' (first | (with_reducible (first | assumption | exact h_eq | exact hr_eq | exact w_eq | exact h_cons | apply h_own; assumption)) | ((with_reducible (first | apply h_ne | apply hr_ne | apply w_ne | apply h_consn | apply w_st | apply w_fr)); (focus (exact rfl))) | (with_reducible (first | apply hr_vis | apply h_st | apply h_fr)))); done))) | ((with_reducible apply v_var); exact rfl) | ((with_reducible refine (e_glob _ _ _).trans ?_); (with_reducible assumption)) | (with_reducible (first | exact v_neg1 | apply v_cons | apply v_bin | exact b_add | exact b_sb | apply b_mod | apply b_div)) | ((with_reducible apply b_mulL); (focus decide)) | (with_reducible (first | apply b_mul | apply v_cmp | apply v_sub | apply v_sl | apply v_not | apply v_isi | apply v_blt | apply v_tup | apply v_lst | apply v_lcp | apply v_callE | apply v_call | apply v_bop1)) | ((with_reducible (first | apply v_and | apply v_or)); rotate_left; intro _; rotate_right) | (with_reducible apply v_map) | ((with_reducible (first | show cmpD _ _ _ = _ | show truth _ = _ | show isiD _ _ = _ | show frF _ _ = _ | show isCallE _ = _ | show bltD _ _ = _ | show lstD _ = _ | show subD _ _ = _)); exact rfl) | decide | exact Nat.le_of_ble_eq_true rfl)); done)); (focus (exact rfl))) | apply o_nil))
    · exact ⟨⟨m2, by omega, by rw [← e2]⟩, rfl⟩
    · exact ⟨⟨m1, by omega, by rw [← e1]⟩, rfl⟩
  obtain ⟨d, fr, ⟨⟨m, hm, rfl⟩, rfl⟩, hr⟩ := rex_call (X := X) (args := [.int c]) B.mn rfl key
  exact ⟨m, hm, hr⟩
theorem places_by (B : BN P) (n : Nat) (c : Int) (w : Nat) : ∃ ps : List Nat, (∀ p ∈ ps, p < w) ∧ ps.length ≤ 12 ∧ (callN P X (n + 2)).call "_law_places_by" [.int c, .int w] = some (.tup (ps.map natD), false) := by
  by_cases hw : w = 0
  · subst hw
    exact ⟨[], (fun _ h => nomatch h), Nat.zero_le _, run_call B.pb rfl (r_if (k := true) (x := .bool true) rfl rfl (fun _ => r_ret rfl rfl) nofun)⟩
  · obtain ⟨m, hm, k1⟩ := many_eq (X := X) B n c
    have h0 : 0 < w := by omega
    have hpos : (0 : Int) < (w : Int) := by omega
    obtain ⟨ds, q1, q2, q3⟩ := v_rows (cf := callN P X (n + 1)) (ρ := vis [("_law_cell", (false, .int c)), ("_law_wide", (false, .int w))]) (elt := .bin .Mod (.call "_law_mixed" [.var "_law_cell", .bin .Add (.int 60) (.var "_law_k")]) (.var "_law_wide")) (z := "_law_k") (src := .call "_law_many" [.var "_law_cell"]) (k := m) (by omega) (fun d => ∃ p : Nat, p < w ∧ d = natD p) (v_callE (v_cons (v_var (hr_vis h_cons)) (es_nil _ _)) k1) (by
      intro i _
      obtain ⟨r, _, hr⟩ := mixed (X := X) B.toBG n c (60 + i)
      obtain ⟨p, ep, hp⟩ := emod_nat r h0
      exact ⟨natD p, ⟨p, hp, rfl⟩, by show _ = some (D.int p); rw [← ep]; exact v_bin (v_callE (v_cons (v_var (hr_ne rfl (hr_vis h_cons))) (v_cons (v_bin (e_int _ _ _) (v_var hr_eq) b_add) (es_nil _ _))) hr) (v_var (hr_ne rfl (hr_vis (h_consn rfl h_cons)))) (b_mod hpos)⟩)
    obtain ⟨ps, rfl, hps⟩ := listOf q2
    have e : cmpD .Eq (.int w) (.int 0) = some (.bool false) := by
      show some (D.bool ((w : Int) == 0)) = _
      rw [show ((w : Int) == 0) = false from by rw [beq_eq_false_iff_ne]; omega]
    refine ⟨ps, hps, by rw [List.length_map] at q1; omega, run_call B.pb rfl ?_⟩
    exact r_if (k := false) (v_cmp (x := .int w) (y := .int 0) rfl rfl e) rfl nofun fun _ => r_ret (v_map q3 rfl rfl) rfl
theorem sums_by (B : BN P) (n : Nat) (c : Int) (w : Nat) : ∃ ss : List (String × Nat), (∀ x ∈ ss, x.2 < w) ∧ ss.length ≤ 12 ∧ (callN P X (n + 3)).call "_law_sums_by" [.int c, .int w] = some (.tup (ss.map sumT), false) := by
  obtain ⟨ps, hps, hpl, k1⟩ := places_by (X := X) B n (c / 5) w
  have hbig : 2000 < big := by decide
  have hlen : bltD "len" [.tup (ps.map natD)] = some (.int ps.length) := by show some (D.int ((ps.map natD).length : Nat)) = _; rw [List.length_map]
  obtain ⟨ds, q1, q2, q3⟩ := v_rows (cf := callN P X (n + 2)) (ρ := vis [("_law_cell", (false, .int c)), ("_law_wide", (false, .int w)), ("_law_words", (true, .list [sD "count", sD "sum", sD "least", sD "most"])), ("_law_places_here", (false, .tup (ps.map natD)))])
    (elt := .tup [.sub (.var "_law_words") (.bin .Mod (.call "_law_mixed" [.var "_law_cell", .bin .Add (.int 80) (.var "_law_k")]) (.int 4)), .sub (.var "_law_places_here") (.var "_law_k")]) (z := "_law_k") (src := .blt "len" [.var "_law_places_here"]) (k := ps.length) (by omega) (fun d => ∃ x : String × Nat, x.2 < w ∧ d = sumT x) (v_blt (v_cons (v_var (hr_vis (h_consn rfl (h_consn rfl (h_consn rfl h_cons))))) (es_nil _ _)) hlen) (by
      intro i hi
      obtain ⟨r, _, hr⟩ := mixed (X := X) B.toBG (n + 1) c (80 + i)
      obtain ⟨d, ⟨s, rfl⟩, hd⟩ := list_pick (l := [sD "count", sD "sum", sD "least", sD "most"]) (by decide) r (R := fun d => ∃ s, d = sD s) (by
        intro d hd
        simp only [List.mem_cons, List.not_mem_nil, or_false] at hd
        rcases hd with rfl | rfl | rfl | rfl <;> exact ⟨_, rfl⟩)
      have hd : subD (.list [sD "count", sD "sum", sD "least", sD "most"]) (.int (r % 4)) = some (sD s) := hd
      have h2 := ps_at hi
      exact ⟨sumT (s, ps.getD i 0), ⟨(s, ps.getD i 0), by show ps.getD i 0 < w; rw [List.getD_eq_getElem?_getD, List.getElem?_eq_getElem hi]; exact hps _ (List.getElem_mem hi), rfl⟩, v_tup (v_cons (v_sub (v_var (hr_ne rfl (hr_vis (h_consn rfl (h_consn rfl h_cons))))) (v_bin (v_callE (v_cons (v_var (hr_ne rfl (hr_vis h_cons))) (v_cons (v_bin (e_int _ _ _) (v_var hr_eq) b_add) (es_nil _ _))) hr) (e_int _ _ _) (b_mod (of_decide_eq_true (id (Eq.refl true))))) hd) (v_cons (v_sub (v_var (hr_ne rfl (hr_vis (h_consn rfl (h_consn rfl (h_consn rfl h_cons)))))) (v_var hr_eq) h2) (es_nil _ _))) (Nat.le_of_ble_eq_true rfl)⟩)
  obtain ⟨ss, rfl, hss⟩ := listOf q2
  refine ⟨ss, hss, by rw [List.length_map] at q1; omega, run_call B.sb rfl ?_⟩
  refine r_step (p_assign (d := .list [sD "count", sD "sum", sD "least", sD "most"]) (fr := true) rfl) ?_
  refine r_step (p_assign (v_call (v_cons (d := .int (c / 5)) rfl (v_cons (d := .int w) rfl (es_nil _ _))) k1)) ?_
  exact r_ret (v_map q3 rfl rfl) rfl
theorem keys_by (B : BN P) (n : Nat) (c : Int) (w : Nat) : ∃ ks : List (Nat × Bool), (∀ x ∈ ks, x.1 < w) ∧ ks.length ≤ 12 ∧ (callN P X (n + 3)).call "_law_keys_by" [.int c, .int w] = some (.tup (ks.map keyT), false) := by
  obtain ⟨ps, hps, hpl, k1⟩ := places_by (X := X) B n c w
  have hlen : bltD "len" [.tup (ps.map natD)] = some (.int ps.length) := by show some (D.int ((ps.map natD).length : Nat)) = _; rw [List.length_map]
  obtain ⟨ds, q1, q2, q3⟩ := v_rows (cf := callN P X (n + 2)) (ρ := vis [("_law_cell", (false, .int c)), ("_law_wide", (false, .int w)), ("_law_places_here", (false, .tup (ps.map natD)))])
    (elt := .tup [.sub (.var "_law_places_here") (.var "_law_k"), .cmp .Eq (.bin .Mod (.call "_law_mixed" [.var "_law_cell", .bin .Add (.int 90) (.var "_law_k")]) (.int 2)) (.int 1)]) (z := "_law_k") (src := .blt "len" [.var "_law_places_here"]) (k := ps.length) (by omega) (fun d => ∃ x : Nat × Bool, x.1 < w ∧ d = keyT x) (v_blt (v_cons (v_var (hr_vis (h_consn rfl (h_consn rfl h_cons)))) (es_nil _ _)) hlen) (by
      intro i hi
      obtain ⟨r, _, hr⟩ := mixed (X := X) B.toBG (n + 1) c (90 + i)
      have h2 := ps_at hi
      exact ⟨keyT (ps.getD i 0, r % 2 == 1), ⟨(ps.getD i 0, r % 2 == 1), by show ps.getD i 0 < w; rw [List.getD_eq_getElem?_getD, List.getElem?_eq_getElem hi]; exact hps _ (List.getElem_mem hi), rfl⟩, v_tup (v_cons (v_sub (v_var (hr_ne rfl (hr_vis (h_consn rfl (h_consn rfl h_cons))))) (v_var hr_eq) h2) (v_cons (v_cmp (v_bin (v_callE (v_cons (v_var (hr_ne rfl (hr_vis h_cons))) (v_cons (v_bin (e_int _ _ _) (v_var hr_eq) b_add) (es_nil _ _))) hr) (e_int _ _ _) (b_mod (of_decide_eq_true (id (Eq.refl true))))) (e_int _ _ _) rfl) (es_nil _ _))) (Nat.le_of_ble_eq_true rfl)⟩)
  obtain ⟨ss, rfl, hss⟩ := listOf q2
  refine ⟨ss, hss, by rw [List.length_map] at q1; omega, run_call B.kb rfl ?_⟩
  refine r_step (p_assign (v_call (v_cons (d := .int c) rfl (v_cons (d := .int w) rfl (es_nil _ _))) k1)) ?_
  exact r_ret (v_map q3 rfl rfl) rfl
theorem clauses_by (B : BN P) (n : Nat) (c : Int) (m : Nat) (hm : m ≤ 1000) : ∃ cs : List (List D), (∀ x ∈ cs, ClsOk m x) ∧ cs.length ≤ 12 ∧ (callN P X (n + 5)).call "_law_clauses_by" [.int c, .int m] = some (.tup (cs.map clD), false) := by
  have tail : ∀ k : Nat, k ≤ 12 → Rex (callN P X (n + 4)) (fn_law_clauses_by.body.drop 2) [("_law_cell", (false, .int c)), ("_law_many_here", (false, .int m)), ("_law_count", (false, .int k))] fun d fr => (∃ cs : List (List D), (∀ x ∈ cs, ClsOk m x) ∧ cs.length ≤ 12 ∧ d = .tup (cs.map clD)) ∧ fr = false := by
    intro k hk
    obtain ⟨ds, q1, q2, q3⟩ := v_rows (cf := callN P X (n + 4)) (ρ := vis [("_law_cell", (false, .int c)), ("_law_many_here", (false, .int m)), ("_law_count", (false, .int k))]) (elt := .call "_law_clause_by" [.call "_law_mixed" [.var "_law_cell", .bin .Add (.int 20) (.var "_law_k")], .var "_law_many_here"]) (z := "_law_k") (src := .var "_law_count") (k := k) (by omega) (fun d => ∃ x : List D, ClsOk m x ∧ d = clD x) rfl (by
      intro i _
      obtain ⟨r, _, hr⟩ := mixed (X := X) B.toBG (n + 3) c (20 + i)
      obtain ⟨d, ⟨ts, rfl, h1, h2⟩, hd⟩ := clause_by (X := X) B.toBD n r m hm
      exact ⟨.tup ts, ⟨ts, ⟨h1, h2⟩, rfl⟩, (v_callE (v_cons (v_callE (v_cons (v_var (hr_ne rfl (hr_vis h_cons))) (v_cons (v_bin (e_int _ _ _) (v_var hr_eq) b_add) (es_nil _ _))) hr) (v_cons (v_var (hr_ne rfl (hr_vis (h_consn rfl h_cons)))) (es_nil _ _))) hd)⟩)
    obtain ⟨cs, rfl, hcs⟩ := listOf q2
    exact q_ret (v_map q3 rfl rfl) rfl ⟨⟨cs, hcs, by rw [List.length_map] at q1; omega, rfl⟩, rfl⟩
  obtain ⟨d0, ⟨k1, rfl, h1⟩, s0⟩ := list_pick (l := [.int 0, .int 1, .int 1, .int 2]) (by decide) c (R := fun d => ∃ k : Nat, d = .int k ∧ k ≤ 12) (by
    intro d hd
    simp only [List.mem_cons, List.not_mem_nil, or_false] at hd
    rcases hd with rfl | rfl | rfl | rfl <;> first | exact ⟨0, rfl, by decide⟩ | exact ⟨1, rfl, by decide⟩ | exact ⟨2, rfl, by decide⟩)
  have s0 : subD (.list [.int 0, .int 1, .int 1, .int 2]) (.int (c % 4)) = some (.int k1) := s0
  obtain ⟨k2, e2, h2⟩ := emod_nat (c / 36) (k := 13) (by decide)
  have e2 : c / 36 % 13 = (k2 : Int) := e2
  have key : Rex (callN P X (n + 4)) fn_law_clauses_by.body [("_law_cell", (false, .int c)), ("_law_many_here", (false, .int m))] fun d fr => (∃ cs : List (List D), (∀ x ∈ cs, ClsOk m x) ∧ cs.length ≤ 12 ∧ d = .tup (cs.map clD)) ∧ fr = false := by
    refine q_step (p_assign (d := .int k1) (fr := false) (v_map (v_sub (v_lst (v_cons (e_int _ _ _) (v_cons (e_int _ _ _) (v_cons (e_int _ _ _) (v_cons (e_int _ _ _) (es_nil _ _))))) (of_decide_eq_true (id (Eq.refl true)))) (v_bin (v_var (hr_vis h_cons)) (e_int _ _ _) (b_mod (of_decide_eq_true (id (Eq.refl true))))) s0) rfl rfl)) ?_
    refine q_if (k := c / 4 % 9 == 1) (v_cmp (v_bin (v_bin (v_var (hr_vis (h_ne rfl (h_st h_cons)))) (e_int _ _ _) (b_div (of_decide_eq_true (id (Eq.refl true))))) (e_int _ _ _) (b_mod (of_decide_eq_true (id (Eq.refl true))))) (e_int _ _ _) rfl) rfl (fun _ => ?_) fun _ => tail k1 h1
    refine q_step (p_assign (d := .int k2) (fr := false) (by rw [← e2]; exact v_map (v_bin (v_bin (v_var (hr_vis (h_ne rfl (h_st h_cons)))) (e_int _ _ _) (b_div (of_decide_eq_true (id (Eq.refl true))))) (e_int _ _ _) (b_mod (of_decide_eq_true (id (Eq.refl true))))) rfl rfl)) (tail k2 (by omega))
  obtain ⟨d, fr, ⟨⟨cs, g1, g2, rfl⟩, rfl⟩, hr⟩ := rex_call (X := X) (args := [.int c, .int m]) B.cb rfl key
  exact ⟨cs, g1, g2, hr⟩
theorem pairs_by (B : BN P) (n : Nat) (c : Int) (a b : Nat) : ∃ prs : List (Nat × Nat), (∀ k ∈ prs, k.1 < a ∧ k.2 < b) ∧ prs.length ≤ 12 ∧ (callN P X (n + 2)).call "_law_pairs_by" [.int c, .int a, .int b] = some (.tup (prs.map prT), false) := by
  by_cases h0 : a = 0 ∨ b = 0
  · refine ⟨[], (fun _ h => nomatch h), Nat.zero_le _, run_call B.rb rfl ?_⟩
    have hz : evE (callN P X (n + 1)) (vis [("_law_cell", (false, .int c)), ("_law_one", (false, .int a)), ("_law_other", (false, .int b))]) (.bop .Or [.cmp .Eq (.var "_law_one") (.int 0), .cmp .Eq (.var "_law_other") (.int 0)]) = some (.bool ((a : Int) == 0 || (b : Int) == 0)) := v_or (k := (a : Int) == 0) (l := (b : Int) == 0) (v_cmp (x := .int a) (y := .int 0) rfl rfl rfl) fun _ => v_bop1 (v_cmp (x := .int b) (y := .int 0) rfl rfl rfl)
    have ht : ((a : Int) == 0 || (b : Int) == 0) = true := by rcases h0 with rfl | rfl <;> simp
    exact r_if (k := true) (hz.trans (by rw [ht])) rfl (fun _ => r_ret rfl rfl) nofun
  · have ha : 0 < a := by omega
    have hb : 0 < b := by omega
    have hpa : (0 : Int) < a := by omega
    have hpb : (0 : Int) < b := by omega
    obtain ⟨k2, e2, hk2⟩ := emod_nat (c / 6) (k := 13) (by decide)
    have e2 : c / 6 % 13 = (k2 : Int) := e2
    obtain ⟨d0, ⟨k1, rfl, h1⟩, s0⟩ := list_pick (l := [.int 0, .int 0, .int 0, .int 0, .int 1, .int (c / 6 % 13)]) (by simp) c (R := fun d => ∃ k : Nat, d = .int k ∧ k ≤ 12) (by
      intro d hd
      simp only [List.mem_cons, List.not_mem_nil, or_false] at hd
      rcases hd with rfl | rfl | rfl | rfl | rfl | rfl <;> first | exact ⟨0, rfl, by decide⟩ | exact ⟨1, rfl, by decide⟩ | exact ⟨k2, by rw [e2], by omega⟩)
    have s0 : subD (.list [.int 0, .int 0, .int 0, .int 0, .int 1, .int (c / 6 % 13)]) (.int (c % 6)) = some (.int k1) := s0
    obtain ⟨ds, q1, q2, q3⟩ := v_rows (cf := callN P X (n + 1)) (ρ := vis [("_law_cell", (false, .int c)), ("_law_one", (false, .int a)), ("_law_other", (false, .int b)), ("_law_many_here", (false, .int k1))])
      (elt := .tup [.bin .Mod (.call "_law_mixed" [.var "_law_cell", .bin .Add (.int 70) (.var "_law_k")]) (.var "_law_one"), .bin .Mod (.call "_law_mixed" [.var "_law_cell", .bin .Add (.int 75) (.var "_law_k")]) (.var "_law_other")]) (z := "_law_k") (src := .var "_law_many_here") (k := k1) (by omega) (fun d => ∃ x : Nat × Nat, (x.1 < a ∧ x.2 < b) ∧ d = prT x) rfl (by
        intro i _
        obtain ⟨r, _, hr⟩ := mixed (X := X) B.toBG n c (70 + i)
        obtain ⟨r', _, hr'⟩ := mixed (X := X) B.toBG n c (75 + i)
        obtain ⟨p, ep, hp⟩ := emod_nat r ha
        obtain ⟨q, eq, hq⟩ := emod_nat r' hb
        refine ⟨prT (p, q), ⟨(p, q), ⟨hp, hq⟩, rfl⟩, ?_⟩
        show _ = some (D.tup [.int p, .int q])
        rw [← ep, ← eq]
        exact v_tup (v_cons (v_bin (v_callE (v_cons (v_var (hr_ne rfl (hr_vis h_cons))) (v_cons (v_bin (e_int _ _ _) (v_var hr_eq) b_add) (es_nil _ _))) hr) (v_var (hr_ne rfl (hr_vis (h_consn rfl h_cons)))) (b_mod hpa)) (v_cons (v_bin (v_callE (v_cons (v_var (hr_ne rfl (hr_vis h_cons))) (v_cons (v_bin (e_int _ _ _) (v_var hr_eq) b_add) (es_nil _ _))) hr') (v_var (hr_ne rfl (hr_vis (h_consn rfl (h_consn rfl h_cons))))) (b_mod hpb)) (es_nil _ _))) (Nat.le_of_ble_eq_true rfl))
    obtain ⟨prs, rfl, hprs⟩ := listOf q2
    refine ⟨prs, hprs, by rw [List.length_map] at q1; omega, run_call B.rb rfl ?_⟩
    have hz : evE (callN P X (n + 1)) (vis [("_law_cell", (false, .int c)), ("_law_one", (false, .int a)), ("_law_other", (false, .int b))]) (.bop .Or [.cmp .Eq (.var "_law_one") (.int 0), .cmp .Eq (.var "_law_other") (.int 0)]) = some (.bool ((a : Int) == 0 || (b : Int) == 0)) := v_or (k := (a : Int) == 0) (l := (b : Int) == 0) (v_cmp (x := .int a) (y := .int 0) rfl rfl rfl) fun _ => v_bop1 (v_cmp (x := .int b) (y := .int 0) rfl rfl rfl)
    have ht : ((a : Int) == 0 || (b : Int) == 0) = false := by rw [Bool.or_eq_false_iff, beq_eq_false_iff_ne, beq_eq_false_iff_ne]; omega
    refine r_if (k := false) (hz.trans (by rw [ht])) rfl nofun fun _ => ?_
    refine r_step (p_assign (d := .int k1) (fr := false) (v_map (v_sub (v_lst (v_cons (e_int _ _ _) (v_cons (e_int _ _ _) (v_cons (e_int _ _ _) (v_cons (e_int _ _ _) (v_cons (e_int _ _ _) (v_cons (v_bin (v_bin (v_var rfl) (e_int _ _ _) (b_div (of_decide_eq_true (id (Eq.refl true))))) (e_int _ _ _) (b_mod (of_decide_eq_true (id (Eq.refl true))))) (es_nil _ _))))))) (Nat.le_of_ble_eq_true rfl)) (v_bin (v_var rfl) (e_int _ _ _) (b_mod (of_decide_eq_true (id (Eq.refl true))))) s0) rfl rfl)) ?_
    exact r_ret (v_map q3 rfl rfl) rfl
end

set_option maxRecDepth 100000
set_option maxHeartbeats 800000
structure TpA (W : Wd) (c dp : Nat) (q : Q) (r k : Nat) : Prop where
  ok : q.ok W
  wd : q.wd W ≤ 24 * k
  k1 : 1 ≤ k
  k2 : k ≤ 24
  r : r ≤ 60
  cp : q.cp ≤ c
  pr : q.pr ≤ 12
  nar : q.nar W 5000
  dp : q.dp ≤ dp
theorem TpA.up {W : Wd} {c dp c' dp' : Nat} {q : Q} {r k : Nat} (h : TpA W c dp q r k) (h1 : c ≤ c') (h2 : dp ≤ dp') : TpA W c' dp' q r k := ⟨h.ok, h.wd, h.k1, h.k2, h.r, Nat.le_trans h.cp h1, h.pr, h.nar, Nat.le_trans h.dp h2⟩
noncomputable def topD (W : Wd) (q : Q) (r k : Nat) : D := .tup [q.d, .int (q.wd W), .int r, .int k]
section
variable {P : List (String × Fn)} {X : CF} {W : Wd} {c dp : Nat} {q : Q} {r k : Nat}
theorem around_eq (B : BN P) (n : Nat) (w z : Int) (h : TpA W c dp q r k) : ∃ q' r', TpA W (c + 12) (dp + 1) q' r' k ∧ (callN P X (n + 6)).call "_law_around" [.int w, .int z, topD W q r k] = some (topD W q' r' k, false) := by
  have hw : q.wd W ≤ 1000 := by have := h.wd; have := h.k2; omega
  obtain ⟨cs, c1, c2, c3⟩ := clauses_by (X := X) B n z (q.wd W) hw
  obtain ⟨ps, p1, p2, p3⟩ := places_by (X := X) B (n + 3) z (q.wd W)
  obtain ⟨ss, s1, s2, s3⟩ := sums_by (X := X) B (n + 2) z (q.wd W)
  obtain ⟨ks, k1, k2, k3⟩ := keys_by (X := X) B (n + 2) z (q.wd W)
  obtain ⟨a0, e0⟩ : ∃ a : Nat, 1 + z % 6 = a := ⟨(1 + z % 6).toNat, by omega⟩
  obtain ⟨a1, e1⟩ : ∃ a : Nat, z / 24 % 70 = a := ⟨(z / 24 % 70).toNat, by omega⟩
  have hp : (0 : Int) < 10 ^ 40 := by decide
  obtain ⟨a2, e2⟩ : ∃ a : Nat, z / 54 % 10 ^ 40 = a := ⟨(z / 54 % 10 ^ 40).toNat, (Int.toNat_of_nonneg (Int.emod_nonneg _ (by decide))).symm⟩
  have hpow : binD .Pow (.int 10) (.int 40) = some (.int (10 ^ 40)) := b_pow ⟨by decide +kernel, by decide +kernel, by decide, by decide⟩
  have hmod : binD .Mod (.int (z / 54)) (.int (10 ^ 40)) = some (.int a2) := by rw [← e2]; exact b_mod hp
  have hmin : ∀ a : Nat, bltD "min" [.int r, .int a] = some (.int (min a r : Nat)) := fun a => by
    show some (D.int (if (a : Int) < r then (a : Int) else r)) = _
    congr 2
    split
    · rw [Nat.min_eq_left (by omega)]; try rfl
    · rw [Nat.min_eq_right (by omega)]
  have l1 : bltD "len" [.tup (ps.map natD)] = some (.int ps.length) := by show some (D.int ((ps.map natD).length : Nat)) = _; rw [List.length_map]
  have l2 : bltD "len" [.tup (ss.map sumT)] = some (.int ss.length) := by show some (D.int ((ss.map sumT).length : Nat)) = _; rw [List.length_map]
  have hk := h.k1
  have A1 : TpA W (c + 12) (dp + 1) (.sieve cs q) r k := ⟨⟨h.ok, c1, by omega⟩, h.wd, h.k1, h.k2, h.r, by show cs.length + q.cp ≤ _; have := h.cp; omega, h.pr, h.nar, Nat.succ_le_succ h.dp⟩
  have A2 : TpA W (c + 12) (dp + 1) (.pick ps q) r k := ⟨⟨h.ok, p1, by omega⟩, by show ps.length ≤ _; omega, h.k1, h.k2, h.r, Nat.le_trans h.cp (by omega), h.pr, h.nar, Nat.succ_le_succ h.dp⟩
  have A3 : TpA W (c + 12) (dp + 1) (.group ps ss q) r k := ⟨⟨h.ok, p1, s1, by omega, by omega⟩, by show ps.length + ss.length ≤ _; omega, h.k1, h.k2, h.r, Nat.le_trans h.cp (by omega), h.pr, h.nar, Nat.succ_le_succ h.dp⟩
  have A4 : TpA W (c + 12) (dp + 1) (.order ks q) r k := ⟨⟨h.ok, k1, by omega⟩, h.wd, h.k1, h.k2, h.r, Nat.le_trans h.cp (by omega), h.pr, h.nar, Nat.succ_le_succ h.dp⟩
  have A5 : TpA W (c + 12) (dp + 1) (.once q) r k := ⟨h.ok, h.wd, h.k1, h.k2, h.r, Nat.le_trans h.cp (by omega), h.pr, h.nar, Nat.succ_le_succ h.dp⟩
  have A6 : ∀ a : Nat, TpA W (c + 12) (dp + 1) (.first a q) (min a r) k := fun a => ⟨h.ok, h.wd, h.k1, h.k2, Nat.le_trans (Nat.min_le_right _ _) h.r, Nat.le_trans h.cp (by omega), h.pr, h.nar, Nat.succ_le_succ h.dp⟩
  have key : Rex (callN P X (n + 5)) fn_law_around.body [("_law_word", (false, .int w)), ("_law_cell", (false, .int z)), ("_law_top", (false, topD W q r k))] fun d fr => (∃ q' r', TpA W (c + 12) (dp + 1) q' r' k ∧ d = topD W q' r' k) ∧ fr = false := by
    generalize callN P X (n + 5) = cf at *
    have t0 : subD (topD W q r k) (.int 0) = some q.d := rfl
    have t1 : subD (topD W q r k) (.int 1) = some (.int (q.wd W)) := rfl
    have t2 : subD (topD W q r k) (.int 2) = some (.int r) := rfl
    have t3 : subD (topD W q r k) (.int 3) = some (.int k) := rfl
    generalize topD W q r k = T at *
    have fin : ∀ (a : Nat) (σ : St), Has σ "_law_top" T → Has σ "_law_count" (.int a) → Rex cf [.ret (.tup [.tup [.str "first", .var "_law_count", .sub (.var "_law_top") (.int 0)], .sub (.var "_law_top") (.int 1), .blt "min" [.sub (.var "_law_top") (.int 2), .var "_law_count"], .sub (.var "_law_top") (.int 3)])] σ fun d fr => (∃ q' r', TpA W (c + 12) (dp + 1) q' r' k ∧ d = topD W q' r' k) ∧ fr = false := by
      intro a σ i1 i2
      have := hmin a
      refine q_ret (d := topD W (.first a q) (min a r) k) (fr := false) (by unfold topD; show _ = some (D.tup [.tup [.str (Str.ofString "first"), .int a, q.d], .int (q.wd W), .int (min a r : Nat), .int k], _); exact v_map (v_tup (v_cons (v_tup (v_cons (e_str _ _ _) (v_cons (v_var (hr_vis i2)) (v_cons (v_sub (v_var (hr_vis i1)) (e_int _ _ _) t0) (es_nil _ _)))) (Nat.le_of_ble_eq_true rfl)) (v_cons (v_sub (v_var (hr_vis i1)) (e_int _ _ _) t1) (v_cons (v_blt (v_cons (v_sub (v_var (hr_vis i1)) (e_int _ _ _) t2) (v_cons (v_var (hr_vis i2)) (es_nil _ _))) this) (v_cons (v_sub (v_var (hr_vis i1)) (e_int _ _ _) t3) (es_nil _ _))))) (Nat.le_of_ble_eq_true rfl)) rfl rfl) rfl ⟨⟨_, _, A6 a, rfl⟩, rfl⟩
    refine q_if (k := decide (w < 3)) (v_cmp (v_var (hr_vis h_cons)) (e_int _ _ _) rfl) rfl (fun _ => ?_) fun _ => ?_
    · exact q_ret (d := topD W (.sieve cs q) r k) (fr := false) (by unfold topD; show _ = some (D.tup [.tup [.str (Str.ofString "sieve"), .tup (cs.map clD), q.d], .int (q.wd W), .int r, .int k], _); exact v_map (v_tup (v_cons (v_tup (v_cons (e_str _ _ _) (v_cons (v_callE (v_cons (v_var (hr_vis (h_consn rfl h_cons))) (v_cons (v_sub (v_var (hr_vis (h_consn rfl (h_consn rfl h_cons)))) (e_int _ _ _) t1) (es_nil _ _))) c3) (v_cons (v_sub (v_var (hr_vis (h_consn rfl (h_consn rfl h_cons)))) (e_int _ _ _) t0) (es_nil _ _)))) (Nat.le_of_ble_eq_true rfl)) (v_cons (v_sub (v_var (hr_vis (h_consn rfl (h_consn rfl h_cons)))) (e_int _ _ _) t1) (v_cons (v_sub (v_var (hr_vis (h_consn rfl (h_consn rfl h_cons)))) (e_int _ _ _) t2) (v_cons (v_sub (v_var (hr_vis (h_consn rfl (h_consn rfl h_cons)))) (e_int _ _ _) t3) (es_nil _ _))))) (Nat.le_of_ble_eq_true rfl)) rfl rfl) rfl ⟨⟨_, _, A1, rfl⟩, rfl⟩
    refine q_if (k := w == 4) (v_cmp (v_var (hr_vis h_cons)) (e_int _ _ _) rfl) rfl (fun _ => ?_) fun _ => ?_
    · refine q_step (p_assign (d := .tup (ps.map natD)) (fr := false) (v_call (v_cons (v_var (hr_vis (h_consn rfl h_cons))) (v_cons (v_sub (v_var (hr_vis (h_consn rfl (h_consn rfl h_cons)))) (e_int _ _ _) t1) (es_nil _ _))) p3)) ?_
      exact q_ret (d := topD W (.pick ps q) r k) (fr := false) (by unfold topD; show _ = some (D.tup [.tup [.str (Str.ofString "pick"), .tup (ps.map natD), q.d], .int ps.length, .int r, .int k], _); exact v_map (v_tup (v_cons (v_tup (v_cons (e_str _ _ _) (v_cons (v_var (hr_vis h_eq)) (v_cons (v_sub (v_var (hr_vis (h_ne rfl (h_st (h_consn rfl (h_consn rfl h_cons)))))) (e_int _ _ _) t0) (es_nil _ _)))) (Nat.le_of_ble_eq_true rfl)) (v_cons (v_blt (v_cons (v_var (hr_vis h_eq)) (es_nil _ _)) l1) (v_cons (v_sub (v_var (hr_vis (h_ne rfl (h_st (h_consn rfl (h_consn rfl h_cons)))))) (e_int _ _ _) t2) (v_cons (v_sub (v_var (hr_vis (h_ne rfl (h_st (h_consn rfl (h_consn rfl h_cons)))))) (e_int _ _ _) t3) (es_nil _ _))))) (Nat.le_of_ble_eq_true rfl)) rfl rfl) rfl ⟨⟨_, _, A2, rfl⟩, rfl⟩
    refine q_if (k := w == 3 || w == 5) (v_or (v_cmp (v_var (hr_vis h_cons)) (e_int _ _ _) rfl) fun a => v_bop1 (v_cmp (v_var (hr_vis h_cons)) (e_int _ _ _) rfl)) rfl (fun _ => ?_) fun _ => ?_
    · refine q_step (p_assign (d := .tup (ps.map natD)) (fr := false) (v_call (v_cons (v_var (hr_vis (h_consn rfl h_cons))) (v_cons (v_sub (v_var (hr_vis (h_consn rfl (h_consn rfl h_cons)))) (e_int _ _ _) t1) (es_nil _ _))) p3)) (q_step (p_assign (d := .tup (ss.map sumT)) (fr := false) (v_call (v_cons (v_var (hr_vis (h_ne rfl (h_st (h_consn rfl h_cons))))) (v_cons (v_sub (v_var (hr_vis (h_ne rfl (h_st (h_consn rfl (h_consn rfl h_cons)))))) (e_int _ _ _) t1) (es_nil _ _))) s3)) ?_)
      have hadd : ((ps.length + ss.length : Nat) : Int) = (ps.length : Int) + ss.length := Int.natCast_add _ _
      exact q_ret (d := topD W (.group ps ss q) r k) (fr := false) (by unfold topD; show _ = some (D.tup [.tup [.str (Str.ofString "group"), .tup (ps.map natD), .tup (ss.map sumT), q.d], .int (ps.length + ss.length : Nat), .int r, .int k], _); rw [hadd]; exact v_map (v_tup (v_cons (v_tup (v_cons (e_str _ _ _) (v_cons (v_var (hr_vis (h_ne rfl (h_st h_eq)))) (v_cons (v_var (hr_vis h_eq)) (v_cons (v_sub (v_var (hr_vis (h_ne rfl (h_st (h_ne rfl (h_st (h_consn rfl (h_consn rfl h_cons)))))))) (e_int _ _ _) t0) (es_nil _ _))))) (Nat.le_of_ble_eq_true rfl)) (v_cons (v_bin (v_blt (v_cons (v_var (hr_vis (h_ne rfl (h_st h_eq)))) (es_nil _ _)) l1) (v_blt (v_cons (v_var (hr_vis h_eq)) (es_nil _ _)) l2) b_add) (v_cons (v_sub (v_var (hr_vis (h_ne rfl (h_st (h_ne rfl (h_st (h_consn rfl (h_consn rfl h_cons)))))))) (e_int _ _ _) t2) (v_cons (v_sub (v_var (hr_vis (h_ne rfl (h_st (h_ne rfl (h_st (h_consn rfl (h_consn rfl h_cons)))))))) (e_int _ _ _) t3) (es_nil _ _))))) (Nat.le_of_ble_eq_true rfl)) rfl rfl) rfl ⟨⟨_, _, A3, rfl⟩, rfl⟩
    refine q_if (k := w == 6) (v_cmp (v_var (hr_vis h_cons)) (e_int _ _ _) rfl) rfl (fun _ => ?_) fun _ => ?_
    · exact q_ret (d := topD W (.order ks q) r k) (fr := false) (by unfold topD; show _ = some (D.tup [.tup [.str (Str.ofString "order"), .tup (ks.map keyT), q.d], .int (q.wd W), .int r, .int k], _); exact v_map (v_tup (v_cons (v_tup (v_cons (e_str _ _ _) (v_cons (v_callE (v_cons (v_var (hr_vis (h_consn rfl h_cons))) (v_cons (v_sub (v_var (hr_vis (h_consn rfl (h_consn rfl h_cons)))) (e_int _ _ _) t1) (es_nil _ _))) k3) (v_cons (v_sub (v_var (hr_vis (h_consn rfl (h_consn rfl h_cons)))) (e_int _ _ _) t0) (es_nil _ _)))) (Nat.le_of_ble_eq_true rfl)) (v_cons (v_sub (v_var (hr_vis (h_consn rfl (h_consn rfl h_cons)))) (e_int _ _ _) t1) (v_cons (v_sub (v_var (hr_vis (h_consn rfl (h_consn rfl h_cons)))) (e_int _ _ _) t2) (v_cons (v_sub (v_var (hr_vis (h_consn rfl (h_consn rfl h_cons)))) (e_int _ _ _) t3) (es_nil _ _))))) (Nat.le_of_ble_eq_true rfl)) rfl rfl) rfl ⟨⟨_, _, A4, rfl⟩, rfl⟩
    refine q_if (k := w == 7) (v_cmp (v_var (hr_vis h_cons)) (e_int _ _ _) rfl) rfl (fun _ => ?_) fun _ => ?_
    · exact q_ret (d := topD W (.once q) r k) (fr := false) (by unfold topD; show _ = some (D.tup [.tup [.str (Str.ofString "once"), q.d], .int (q.wd W), .int r, .int k], _); exact v_map (v_tup (v_cons (v_tup (v_cons (e_str _ _ _) (v_cons (v_sub (v_var (hr_vis (h_consn rfl (h_consn rfl h_cons)))) (e_int _ _ _) t0) (es_nil _ _))) (Nat.le_of_ble_eq_true rfl)) (v_cons (v_sub (v_var (hr_vis (h_consn rfl (h_consn rfl h_cons)))) (e_int _ _ _) t1) (v_cons (v_sub (v_var (hr_vis (h_consn rfl (h_consn rfl h_cons)))) (e_int _ _ _) t2) (v_cons (v_sub (v_var (hr_vis (h_consn rfl (h_consn rfl h_cons)))) (e_int _ _ _) t3) (es_nil _ _))))) (Nat.le_of_ble_eq_true rfl)) rfl rfl) rfl ⟨⟨_, _, A5, rfl⟩, rfl⟩
    refine q_step (p_assign (d := .int a0) (fr := false) (by rw [← e0]; exact v_map (v_bin (e_int _ _ _) (v_bin (v_var (hr_vis (h_consn rfl h_cons))) (e_int _ _ _) (b_mod (of_decide_eq_true (id (Eq.refl true))))) b_add) rfl rfl)) ?_
    refine q_if (k := z / 6 % 4 == 1) (v_cmp (v_bin (v_bin (v_var (hr_vis (h_ne rfl (h_st (h_consn rfl h_cons))))) (e_int _ _ _) (b_div (of_decide_eq_true (id (Eq.refl true))))) (e_int _ _ _) (b_mod (of_decide_eq_true (id (Eq.refl true))))) (e_int _ _ _) rfl) rfl (fun _ => ?_) fun _ => ?_
    · refine q_step (p_assign (d := .int a1) (fr := false) (by rw [← e1]; exact v_map (v_bin (v_bin (v_var (hr_vis (h_ne rfl (h_st (h_consn rfl h_cons))))) (e_int _ _ _) (b_div (of_decide_eq_true (id (Eq.refl true))))) (e_int _ _ _) (b_mod (of_decide_eq_true (id (Eq.refl true))))) rfl rfl)) ?_
      refine q_if (k := z / 6 % 9 == 2) (v_cmp (v_bin (v_bin (v_var (hr_vis (h_ne rfl (h_st (h_ne rfl (h_st (h_consn rfl h_cons))))))) (e_int _ _ _) (b_div (of_decide_eq_true (id (Eq.refl true))))) (e_int _ _ _) (b_mod (of_decide_eq_true (id (Eq.refl true))))) (e_int _ _ _) rfl) rfl (fun _ => ?_) fun _ => fin a1 _ (h_ne rfl (h_st (h_ne rfl (h_st (h_consn rfl (h_consn rfl h_cons)))))) h_eq
      exact q_step (p_assign (d := .int a2) (fr := false) (v_map (v_bin (v_bin (v_var (hr_vis (h_ne rfl (h_st (h_ne rfl (h_st (h_consn rfl h_cons))))))) (e_int _ _ _) (b_div (of_decide_eq_true (id (Eq.refl true))))) (v_bin (e_int _ _ _) (e_int _ _ _) hpow) hmod) rfl rfl)) (fin a2 _ (h_ne rfl (h_st (h_ne rfl (h_st (h_ne rfl (h_st (h_consn rfl (h_consn rfl h_cons)))))))) h_eq)
    · refine q_if (k := z / 6 % 9 == 2) (v_cmp (v_bin (v_bin (v_var (hr_vis (h_ne rfl (h_st (h_consn rfl h_cons))))) (e_int _ _ _) (b_div (of_decide_eq_true (id (Eq.refl true))))) (e_int _ _ _) (b_mod (of_decide_eq_true (id (Eq.refl true))))) (e_int _ _ _) rfl) rfl (fun _ => ?_) fun _ => fin a0 _ (h_ne rfl (h_st (h_consn rfl (h_consn rfl h_cons)))) h_eq
      exact q_step (p_assign (d := .int a2) (fr := false) (v_map (v_bin (v_bin (v_var (hr_vis (h_ne rfl (h_st (h_consn rfl h_cons))))) (e_int _ _ _) (b_div (of_decide_eq_true (id (Eq.refl true))))) (v_bin (e_int _ _ _) (e_int _ _ _) hpow) hmod) rfl rfl)) (fin a2 _ (h_ne rfl (h_st (h_ne rfl (h_st (h_consn rfl (h_consn rfl h_cons)))))) h_eq)
  obtain ⟨d, fr, ⟨⟨q', r', g1, rfl⟩, rfl⟩, hr⟩ := rex_call (X := X) (args := [.int w, .int z, topD W q r k]) B.ar rfl key
  exact ⟨q', r', g1, hr⟩
theorem around_cut (B : BN P) (n : Nat) : (callN P X (n + 1)).call "_law_around" [.int 8, .int 5, topD W q r k] = some (topD W (.first 6 q) (min 6 r) k, false) := by
  have hmin : bltD "min" [.int r, .int 6] = some (.int (min 6 r : Nat)) := by
    show some (D.int (if (6 : Int) < r then (6 : Int) else r)) = _
    congr 2
    split
    · rw [Nat.min_eq_left (by omega)]; try rfl
    · rw [Nat.min_eq_right (by omega)]
  refine run_call B.ar rfl ?_
  show Run _ fn_law_around.body [("_law_word", (false, .int 8)), ("_law_cell", (false, .int 5)), ("_law_top", (false, topD W q r k))] _ _
  generalize callN P X n = cf at *
  refine r_if (k := false) (x := .bool false) rfl rfl nofun fun _ => r_if (k := false) (x := .bool false) rfl rfl nofun fun _ => r_if (k := false) (x := .bool false) rfl rfl nofun fun _ => r_if (k := false) (x := .bool false) rfl rfl nofun fun _ => r_if (k := false) (x := .bool false) rfl rfl nofun fun _ => ?_
  refine r_step (p_assign (d := .int 6) (fr := false) rfl) ?_
  refine r_if (k := false) (x := .bool false) rfl rfl nofun fun _ => r_if (k := false) (x := .bool false) rfl rfl nofun fun _ => ?_
  exact r_ret (v_map (v_tup (v_cons (d := .tup [.str (Str.ofString "first"), .int 6, q.d]) rfl (v_cons (d := .int (q.wd W)) rfl (v_cons (v_blt (v_cons (d := .int r) rfl (v_cons (d := .int 6) rfl (es_nil _ _))) hmin) (v_cons (d := .int k) rfl (es_nil _ _))))) (Nat.le_of_ble_eq_true rfl)) rfl rfl) rfl
theorem sieve_on (B : BN P) (n : Nat) (z : Int) (h : TpA W c dp q r k) : ∃ q' r', TpA W (c + 12) (dp + 1) q' r' k ∧ (callN P X (n + 7)).call "_law_sieve_on" [topD W q r k, .int z] = some (topD W q' r' k, false) := by
  obtain ⟨x6, _, m6⟩ := mixed (X := X) B.toBG (n + 5) z 6
  obtain ⟨q1, r1, g1, g2⟩ := around_eq (X := X) B n 0 (x6 / 4 * 4 + 1) h
  obtain ⟨x8, _, m8⟩ := mixed (X := X) B.toBG (n + 5) z 8
  have key : Rex (callN P X (n + 6)) fn_law_sieve_on.body [("_law_top", (false, topD W q r k)), ("_law_cell", (false, .int z))] fun d fr => (∃ q' r', TpA W (c + 12) (dp + 1) q' r' k ∧ d = topD W q' r' k) ∧ fr = false := by
    generalize callN P X (n + 6) = cf at *
    have t0 : subD (topD W q r k) (.int 0) = some q.d := rfl
    have t1 : subD (topD W q r k) (.int 1) = some (.int (q.wd W)) := rfl
    have t2 : subD (topD W q r k) (.int 2) = some (.int r) := rfl
    have t3 : subD (topD W q r k) (.int 3) = some (.int k) := rfl
    have last : ∀ σ : St, Has σ "_law_top" (topD W q r k) → Has σ "_law_cell" (.int z) → Rex cf [.ret (.call "_law_around" [.int 0, .bin .Add (.bin .Mult (.bin .FloorDiv (.call "_law_mixed" [.var "_law_cell", .int 6]) (.int 4)) (.int 4)) (.int 1), .var "_law_top"])] σ fun d fr => (∃ q' r', TpA W (c + 12) (dp + 1) q' r' k ∧ d = topD W q' r' k) ∧ fr = false := fun σ i1 i2 =>
      q_ret (d := topD W q1 r1 k) (fr := false) (v_call (v_cons (e_int _ _ _) (v_cons (v_bin (v_bin (v_bin (v_callE (v_cons (v_var (hr_vis i2)) (v_cons (e_int _ _ _) (es_nil _ _))) m6) (e_int _ _ _) (b_div (of_decide_eq_true (id (Eq.refl true))))) (e_int _ _ _) (b_mul (of_decide_eq_true (id (Eq.refl true))))) (e_int _ _ _) b_add) (v_cons (v_var (hr_vis i1)) (es_nil _ _)))) g2) rfl ⟨⟨q1, r1, g1, rfl⟩, rfl⟩
    refine q_if (k := z / 4 % 3 == 1 && decide ((q.wd W : Int) > 0)) (v_and (k := z / 4 % 3 == 1) (l := decide ((q.wd W : Int) > 0)) (by clear last; exact v_cmp (v_bin (v_bin (v_var (hr_vis (h_consn rfl h_cons))) (e_int _ _ _) (b_div (of_decide_eq_true (id (Eq.refl true))))) (e_int _ _ _) (b_mod (of_decide_eq_true (id (Eq.refl true))))) (e_int _ _ _) rfl) fun _ => v_bop1 (v_cmp (v_sub (x := topD W q r k) (y := .int 1) rfl rfl t1) (e_int _ _ _) rfl)) rfl (fun hc => ?_) fun _ => last _ ⟨_, rfl⟩ ⟨_, rfl⟩
    rw [Bool.and_eq_true, decide_eq_true_eq] at hc
    have hpos : 0 < q.wd W := by omega
    have hposI : (0 : Int) < q.wd W := hc.2
    obtain ⟨dw, ⟨s, hs, rfl⟩, hd⟩ := list_pick (l := [sD "from", sD "upto", sD "unlike"]) (by decide) (z / 12) (R := fun d => ∃ s, s ∈ words ∧ d = sD s) (by
      intro d hd
      simp only [List.mem_cons, List.not_mem_nil, or_false] at hd
      rcases hd with rfl | rfl | rfl <;> exact ⟨_, by decide, rfl⟩)
    have hd : subD (.list [.str (Str.ofString "from"), .str (Str.ofString "upto"), .str (Str.ofString "unlike")]) (.int (z / 12 % 3)) = some (.str (Str.ofString s)) := hd
    obtain ⟨p, ep, hp⟩ := emod_nat x8 hpos
    have hg : Good (.int (z / 36 % 3)) := .inl ⟨_, rfl, by omega, by omega⟩
    have A : TpA W (c + 12) (dp + 1) (.sieve [[tst s p "is" (.int (z / 36 % 3))]] q) r k := by
      refine ⟨⟨h.ok, fun x hx => ?_, Nat.le_of_ble_eq_true rfl⟩, h.wd, h.k1, h.k2, h.r, by show 1 + q.cp ≤ _; have := h.cp; omega, h.pr, h.nar, Nat.succ_le_succ h.dp⟩
      rw [List.mem_singleton.mp hx]
      exact ⟨fun t ht => by rw [List.mem_singleton.mp ht]; exact ⟨s, p, hs, hp, .inr ⟨_, hg, rfl⟩⟩, Nat.le_of_ble_eq_true rfl⟩
    refine q_step (p_assign (d := .str (Str.ofString s)) (fr := false) (v_map (v_sub (v_lst (v_cons (e_str _ _ _) (v_cons (e_str _ _ _) (v_cons (e_str _ _ _) (es_nil _ _)))) (of_decide_eq_true (id (Eq.refl true)))) (v_bin (v_bin (v_var (hr_vis (h_consn rfl h_cons))) (e_int _ _ _) (b_div (of_decide_eq_true (id (Eq.refl true))))) (e_int _ _ _) (b_mod (of_decide_eq_true (id (Eq.refl true))))) hd) rfl rfl)) ?_
    have hx : binD .Mod (.int x8) (.int (q.wd W)) = some (.int p) := by rw [← ep]; exact b_mod hposI
    refine q_step (p_assign (d := tst s p "is" (.int (z / 36 % 3))) (fr := false) (v_map (v_tup (v_cons (v_var (hr_vis h_eq)) (v_cons (v_bin (v_callE (v_cons (v_var (hr_vis (h_ne rfl (h_st (h_consn rfl h_cons))))) (v_cons (e_int _ _ _) (es_nil _ _))) m8) (v_sub (v_var (hr_vis (h_ne rfl (h_st h_cons)))) (e_int _ _ _) t1) hx) (v_cons (e_str _ _ _) (v_cons (v_bin (v_bin (v_var (hr_vis (h_ne rfl (h_st (h_consn rfl h_cons))))) (e_int _ _ _) (b_div (of_decide_eq_true (id (Eq.refl true))))) (e_int _ _ _) (b_mod (of_decide_eq_true (id (Eq.refl true))))) (es_nil _ _))))) (Nat.le_of_ble_eq_true rfl)) rfl rfl)) ?_
    have j1 : Has (setv (settle (tst s p "is" (.int (z / 36 % 3))) (ME.names (.tup [.var "_law_word", .bin .Mod (.call "_law_mixed" [.var "_law_cell", .int 8]) (.sub (.var "_law_top") (.int 1)), .str "is", .bin .Mod (.bin .FloorDiv (.var "_law_cell") (.int 36)) (.int 3)])) (setv (settle (.str (Str.ofString s)) (ME.names (.sub (.lst [.str "from", .str "upto", .str "unlike"]) (.bin .Mod (.bin .FloorDiv (.var "_law_cell") (.int 12)) (.int 3)))) [("_law_top", (false, topD W q r k)), ("_law_cell", (false, .int z))]) "_law_word" (false, .str (Str.ofString s)))) "_law_test" (false, tst s p "is" (.int (z / 36 % 3)))) "_law_top" (topD W q r k) := (h_ne rfl (h_st (h_ne rfl (h_st h_cons))))
    refine q_ret (d := topD W (.sieve [[tst s p "is" (.int (z / 36 % 3))]] q) r k) (fr := false) (v_map (v_tup (v_cons (v_tup (v_cons (e_str _ _ _) (v_cons (v_tup (v_cons (v_tup (v_cons (v_var (hr_vis h_eq)) (es_nil _ _)) (Nat.le_of_ble_eq_true rfl)) (es_nil _ _)) (Nat.le_of_ble_eq_true rfl)) (v_cons (v_sub (v_var (hr_vis j1)) (e_int _ _ _) t0) (es_nil _ _)))) (Nat.le_of_ble_eq_true rfl)) (v_cons (v_sub (v_var (hr_vis j1)) (e_int _ _ _) t1) (v_cons (v_sub (v_var (hr_vis j1)) (e_int _ _ _) t2) (v_cons (v_sub (v_var (hr_vis j1)) (e_int _ _ _) t3) (es_nil _ _))))) (Nat.le_of_ble_eq_true rfl)) rfl rfl) rfl ⟨⟨_, _, A, rfl⟩, rfl⟩
  obtain ⟨d, fr, ⟨⟨q', r', h1, rfl⟩, rfl⟩, hr⟩ := rex_call (X := X) (args := [topD W q r k, .int z]) B.so rfl key
  exact ⟨q', r', h1, hr⟩
end

set_option maxRecDepth 100000
set_option maxHeartbeats 800000
/-- what of_two gives: nothing, or one top -/
noncomputable def Made (W : Wd) (c dp : Nat) (d : D) : Prop := d = .list [] ∨ ∃ q r k, TpA W c dp q r k ∧ d = .list [topD W q r k]
section
variable {P : List (String × Fn)} {X : CF} {W : Wd} {c dp : Nat} {q q2 : Q} {r k r2 k2 : Nat}
theorem two_join_eq (B : BN P) (n : Nat) (z : Int) (h : TpA W c dp q r k) (h2 : TpA W c dp q2 r2 k2) : ∃ d fr, Made W (c + 12) (dp + 2) d ∧ (callN P X (n + 3)).call "_law_of_two" [sD "join", .int z, topD W q r k, topD W q2 r2 k2] = some (d, fr) := by
  have hr := h.r; have hr2 := h2.r
  have mk : ∀ (a b : Q) (ra rb : Nat), TpA W c (dp + 1) a ra k → TpA W c (dp + 1) b rb k2 → a.wd W = q.wd W → b.wd W = q2.wd W → ra * rb ≤ 60 → k + k2 ≤ 24 → ∀ σ : St, Has σ "_law_cell" (.int z) → Has σ "_law_one" (topD W a ra k) → Has σ "_law_two" (topD W b rb k2) →
      ∀ rest : List MS, Rex (callN P X (n + 2)) (.assign "_law_query" (.tup [.str "join", .sub (.var "_law_one") (.int 0), .sub (.var "_law_two") (.int 0), .call "_law_pairs_by" [.var "_law_cell", .sub (.var "_law_one") (.int 1), .sub (.var "_law_two") (.int 1)]]) :: .ret (.lst [.tup [.var "_law_query", .bin .Add (.sub (.var "_law_one") (.int 1)) (.sub (.var "_law_two") (.int 1)), .bin .Mult (.sub (.var "_law_one") (.int 2)) (.sub (.var "_law_two") (.int 2)), .bin .Add (.sub (.var "_law_one") (.int 3)) (.sub (.var "_law_two") (.int 3))]]) :: rest) σ fun d _ => Made W (c + 12) (dp + 2) d := by
    intro a b ra rb ha hb ea eb hrr hk σ i1 i2 i3 rest
    obtain ⟨prs, g1, g2, g3⟩ := pairs_by (X := X) B n z (a.wd W) (b.wd W)
    have A : TpA W (c + 12) (dp + 2) (.join a b prs) (ra * rb) (k + k2) := by
      have h1 := ha.wd; have h2 := hb.wd; have h3 := ha.k1; have h4 := ha.cp; have h5 := hb.cp; have h6 := ha.pr; have h7 := hb.pr; have h8 := ha.dp; have h9 := hb.dp
      exact ⟨⟨ha.ok, hb.ok, g1, by omega⟩, by show a.wd W + b.wd W ≤ _; omega, by omega, hk, hrr, by show max _ _ ≤ _; omega, by show max _ (max _ _) ≤ _; omega, ⟨ha.nar, hb.nar, by omega⟩, by show max _ _ + 1 ≤ _; omega⟩
    have s0 : subD (topD W a ra k) (.int 0) = some a.d := rfl
    have s1 : subD (topD W a ra k) (.int 1) = some (.int (a.wd W)) := rfl
    have s2 : subD (topD W a ra k) (.int 2) = some (.int ra) := rfl
    have s3 : subD (topD W a ra k) (.int 3) = some (.int k) := rfl
    have t0 : subD (topD W b rb k2) (.int 0) = some b.d := rfl
    have t1 : subD (topD W b rb k2) (.int 1) = some (.int (b.wd W)) := rfl
    have t2 : subD (topD W b rb k2) (.int 2) = some (.int rb) := rfl
    have t3 : subD (topD W b rb k2) (.int 3) = some (.int k2) := rfl
    have hra := ha.r
    have hmul : binD .Mult (.int ra) (.int rb) = some (.int (ra * rb : Nat)) := by
      rw [Int.natCast_mul]; exact b_mulL (by unfold lim; omega)
    have hadd : binD .Add (.int (a.wd W)) (.int (b.wd W)) = some (.int (a.wd W + b.wd W : Nat)) := by rw [Int.natCast_add]; rfl
    have hadd2 : binD .Add (.int k) (.int k2) = some (.int (k + k2 : Nat)) := by rw [Int.natCast_add]; rfl
    refine q_step (p_assign (d := .tup [sD "join", a.d, b.d, .tup (prs.map prT)]) (fr := false) (v_map (v_tup (v_cons (e_str _ _ _) (v_cons (v_sub (v_var (hr_vis i2)) (e_int _ _ _) s0) (v_cons (v_sub (v_var (hr_vis i3)) (e_int _ _ _) t0) (v_cons (v_callE (v_cons (v_var (hr_vis i1)) (v_cons (v_sub (v_var (hr_vis i2)) (e_int _ _ _) s1) (v_cons (v_sub (v_var (hr_vis i3)) (e_int _ _ _) t1) (es_nil _ _)))) g3) (es_nil _ _))))) (Nat.le_of_ble_eq_true rfl)) rfl rfl)) ?_
    have j2 : ∀ v, Has (setv (settle (.tup [sD "join", a.d, b.d, .tup (prs.map prT)]) (ME.names (.tup [.str "join", .sub (.var "_law_one") (.int 0), .sub (.var "_law_two") (.int 0), .call "_law_pairs_by" [.var "_law_cell", .sub (.var "_law_one") (.int 1), .sub (.var "_law_two") (.int 1)]])) σ) "_law_query" v) "_law_one" (topD W a ra k) := fun _ => h_ne rfl (h_st i2)
    have j3 : ∀ v, Has (setv (settle (.tup [sD "join", a.d, b.d, .tup (prs.map prT)]) (ME.names (.tup [.str "join", .sub (.var "_law_one") (.int 0), .sub (.var "_law_two") (.int 0), .call "_law_pairs_by" [.var "_law_cell", .sub (.var "_law_one") (.int 1), .sub (.var "_law_two") (.int 1)]])) σ) "_law_query" v) "_law_two" (topD W b rb k2) := fun _ => h_ne rfl (h_st i3)
    exact q_ret (d := .list [topD W (.join a b prs) (ra * rb) (k + k2)]) (fr := true) (v_map (v_lst (v_cons (v_tup (v_cons (v_var (hr_vis h_eq)) (v_cons (v_bin (v_sub (v_var (hr_vis (j2 _))) (e_int _ _ _) s1) (v_sub (v_var (hr_vis (j3 _))) (e_int _ _ _) t1) hadd) (v_cons (v_bin (v_sub (v_var (hr_vis (j2 _))) (e_int _ _ _) s2) (v_sub (v_var (hr_vis (j3 _))) (e_int _ _ _) t2) hmul) (v_cons (v_bin (v_sub (v_var (hr_vis (j2 _))) (e_int _ _ _) s3) (v_sub (v_var (hr_vis (j3 _))) (e_int _ _ _) t3) hadd2) (es_nil _ _))))) (Nat.le_of_ble_eq_true rfl)) (es_nil _ _)) (Nat.le_of_ble_eq_true rfl)) rfl rfl) rfl (.inr ⟨_, _, _, A, rfl⟩)
  have c1 := around_cut (X := X) (W := W) (q := q) (r := r) (k := k) B (n + 1)
  have c2 := around_cut (X := X) (W := W) (q := q2) (r := r2) (k := k2) B (n + 1)
  have F1 : TpA W c (dp + 1) (.first 6 q) (min 6 r) k := ⟨h.ok, h.wd, h.k1, h.k2, by omega, h.cp, h.pr, h.nar, Nat.succ_le_succ h.dp⟩
  have F2 : TpA W c (dp + 1) (.first 6 q2) (min 6 r2) k2 := ⟨h2.ok, h2.wd, h2.k1, h2.k2, by omega, h2.cp, h2.pr, h2.nar, Nat.succ_le_succ h2.dp⟩
  have key : Rex (callN P X (n + 2)) fn_law_of_two.body [("_law_word", (false, sD "join")), ("_law_cell", (false, .int z)), ("_law_one", (false, topD W q r k)), ("_law_two", (false, topD W q2 r2 k2))] fun d _ => Made W (c + 12) (dp + 2) d := by
    refine q_if (k := decide ((k : Int) + k2 > 24)) (x := .bool (decide ((k : Int) + k2 > 24))) rfl rfl (fun _ => q_ret (d := .list []) (fr := true) rfl rfl (.inl rfl)) fun hk => ?_
    have hk := of_decide_eq_false hk
    refine q_if (k := true) (x := .bool true) rfl rfl (fun _ => ?_) nofun
    have hmul : binD .Mult (.int r) (.int r2) = some (.int (r * r2 : Nat)) := by
      rw [Int.natCast_mul]; exact b_mulL (by unfold lim; omega)
    refine q_if (k := decide (((r * r2 : Nat) : Int) > 60)) (v_cmp (v_bin (x := .int r) (y := .int r2) rfl rfl hmul) (e_int _ _ _) rfl) rfl (fun _ => ?_) fun hm => ?_
    · refine q_step (p_assign (v_call (v_cons (d := .int 8) rfl (v_cons (d := .int 5) rfl (v_cons (d := topD W q r k) rfl (es_nil _ _)))) c1)) ?_
      refine q_step (p_assign (v_call (v_cons (d := .int 8) rfl (v_cons (d := .int 5) rfl (v_cons (d := topD W q2 r2 k2) rfl (es_nil _ _)))) c2)) ?_
      have hle : min 6 r * min 6 r2 ≤ 60 := Nat.le_trans (Nat.mul_le_mul (Nat.min_le_left 6 r) (Nat.min_le_left 6 r2)) (by decide)
      refine mk (.first 6 q) (.first 6 q2) (min 6 r) (min 6 r2) F1 F2 rfl rfl hle (by omega) _ ?_ ?_ ?_ _
      · exact h_ne rfl (h_st (h_ne rfl (h_st ⟨_, rfl⟩)))
      · exact h_ne rfl (h_st h_eq)
      · exact h_eq
    · have hm := of_decide_eq_false hm
      refine mk q q2 r r2 (h.up (Nat.le_refl _) (Nat.le_succ _)) (h2.up (Nat.le_refl _) (Nat.le_succ _)) rfl rfl (by omega) (by omega) _ ?_ ?_ ?_ _
      all_goals exact ⟨_, rfl⟩
  obtain ⟨d, fr, hm, hr⟩ := rex_call (X := X) (args := [sD "join", .int z, topD W q r k, topD W q2 r2 k2]) B.o2 rfl key
  exact ⟨d, fr, hm, hr⟩
theorem two_both_eq (B : BN P) (n : Nat) (z : Int) (h : TpA W c dp q r k) (h2 : TpA W c dp q2 r2 k2) : ∃ d fr, Made W (c + 12) (dp + 2) d ∧ (callN P X (n + 3)).call "_law_of_two" [sD "both", .int z, topD W q r k, topD W q2 r2 k2] = some (d, fr) := by
  have hr := h.r; have hr2 := h2.r
  have key : Rex (callN P X (n + 2)) fn_law_of_two.body [("_law_word", (false, sD "both")), ("_law_cell", (false, .int z)), ("_law_one", (false, topD W q r k)), ("_law_two", (false, topD W q2 r2 k2))] fun d _ => Made W (c + 12) (dp + 2) d := by
    refine q_if (k := decide ((k : Int) + k2 > 24)) (x := .bool (decide ((k : Int) + k2 > 24))) rfl rfl (fun _ => q_ret (d := .list []) (fr := true) rfl rfl (.inl rfl)) fun hk => ?_
    have hk := of_decide_eq_false hk
    refine q_if (k := false) (x := .bool false) rfl rfl nofun fun _ => ?_
    refine q_if (k := true && ((q.wd W : Int) == (q2.wd W : Int) && decide ((r : Int) + r2 ≤ 60))) (v_and (k := true) rfl fun _ => v_and (k := (q.wd W : Int) == (q2.wd W : Int)) (l := decide ((r : Int) + r2 ≤ 60)) (v_cmp (x := .int (q.wd W)) (y := .int (q2.wd W)) rfl rfl rfl) fun _ => v_bop1 (v_cmp (x := .int ((r : Int) + r2)) (y := .int 60) rfl rfl rfl)) rfl (fun hc => ?_) fun _ => q_ret (d := .list []) (fr := true) rfl rfl (.inl rfl)
    rw [Bool.true_and, Bool.and_eq_true, beq_iff_eq, decide_eq_true_eq] at hc
    obtain ⟨hw, hrr⟩ := hc
    have hw : q.wd W = q2.wd W := by omega
    have A : TpA W (c + 12) (dp + 2) (.both q q2) (r + r2) (k + k2) := by
      have h1 := h.wd; have h3 := h.k1; have h4 := h.cp; have h5 := h2.cp; have h6 := h.pr; have h7 := h2.pr; have h8 := h.dp; have h9 := h2.dp
      exact ⟨⟨h.ok, h2.ok, hw⟩, by show q.wd W ≤ _; omega, by omega, by omega, by omega, by show max _ _ ≤ _; omega, by show max _ _ ≤ _; omega, ⟨h.nar, h2.nar⟩, by show max _ _ + 1 ≤ _; omega⟩
    refine q_ret (d := .list [topD W (.both q q2) (r + r2) (k + k2)]) (fr := true) ?_ rfl (.inr ⟨_, _, _, A, rfl⟩)
    unfold topD
    rw [Int.natCast_add, Int.natCast_add]
    rfl
  obtain ⟨d, fr, hm, hr⟩ := rex_call (X := X) (args := [sD "both", .int z, topD W q r k, topD W q2 r2 k2]) B.o2 rfl key
  exact ⟨d, fr, hm, hr⟩
end

set_option maxRecDepth 100000
set_option maxHeartbeats 800000
noncomputable def fn_law_wide_by : Fn := ⟨["_law_cell"], [
    .ite (.cmp .Eq (.bin .Mod (.bin .FloorDiv (.var "_law_cell") (.int 35)) (.int 6)) (.int 2)) [.ret (.bin .Mod (.bin .FloorDiv (.var "_law_cell") (.int 210)) (.int 13))] [],
    .ret (.sub (.lst [.int 2, .int 1, .int 3, .int 2, .int 0]) (.bin .Mod (.var "_law_cell") (.int 5)))]⟩
noncomputable def fn_law_rows_of : Fn := ⟨["_law_cell"], [
    .ret (.sub (.lst [.int 5, .int 7, .int 4, .int 8, .int 6, .int 2, .int 0]) (.bin .Mod (.bin .FloorDiv (.var "_law_cell") (.int 5)) (.int 7)))]⟩
noncomputable def fn_law_names : Fn := ⟨["_law_script"], [
    .assign "_law_cell" (.call "_law_cell_at" [.var "_law_script", .int 0]),
    .assign "_law_words" (.lst [.str "one", .str "join", .str "table", .str "first", .str "sieve", .str "pick", .str "group", .str "order", .str "both", .str "once"]),
    .assign "_law_word" (.sub (.var "_law_words") (.bin .Mod (.bin .FloorDiv (.var "_law_cell") (.int 35)) (.int 10))),
    .assign "_law_rest" (.bin .FloorDiv (.var "_law_cell") (.int 350)),
    .ite (.cmp .Eq (.bin .Mod (.var "_law_rest") (.int 2)) (.int 0)) [.ret (.lst [.var "_law_word", .bin .Add (.str "Two ") (.call "_law_sign_by" [.bin .FloorDiv (.var "_law_rest") (.int 2)]), .str ""])] [],
    .assign "_law_at" (.bin .Mod (.bin .FloorDiv (.var "_law_rest") (.int 2)) (.bin .Add (.blt "len" [.var "_law_word"]) (.int 1))),
    .ret (.comp (.bin .Add (.bin .Add (.sl (.var "_law_word") .none (.var "_law_at")) (.call "_law_sign_by" [.bin .Add (.bin .FloorDiv (.var "_law_rest") (.int 18)) (.var "_law_k")])) (.sl (.var "_law_word") (.var "_law_at") .none)) "_law_k" (.blt "range" [.int 3]) [])]⟩
noncomputable def fn_law_leaf : Fn := ⟨["_law_script", "_law_k"], [
    .assign "_law_shape" (.call "_law_cell_at" [.var "_law_script", .var "_law_k"]),
    .ret (.tup [.tup [.str "table", .sub (.call "_law_names" [.var "_law_script"]) (.var "_law_k")], .call "_law_wide_by" [.var "_law_shape"], .call "_law_rows_of" [.var "_law_shape"], .int 1])]⟩
noncomputable def fn_law_widths : Fn := ⟨["_law_script"], [
    .assign "_law_names_here" (.call "_law_names" [.var "_law_script"]),
    .assign "_law_widths_here" (.dct [] []),
    .for_ "_law_k" (.blt "range" [.int 3]) [.setk "_law_widths_here" (.sub (.var "_law_names_here") (.var "_law_k")) (.call "_law_wide_by" [.call "_law_cell_at" [.var "_law_script", .var "_law_k"]])],
    .ret (.var "_law_widths_here")]⟩
noncomputable def fn_law_stepped : Fn := ⟨["_law_script"], [
    .assign "_law_top" (.call "_law_leaf" [.var "_law_script", .int 0]),
    .assign "_law_spare" (.call "_law_leaf" [.var "_law_script", .int 1]),
    .for_ "_law_k" (.blt "range" [.sub (.lst [.int 3, .int 5, .int 2, .int 9]) (.bin .Mod (.call "_law_cell_at" [.var "_law_script", .int 2]) (.int 4))]) [.ite (.cmp .GtE (.bin .Add (.int 6) (.bin .Mult (.int 2) (.var "_law_k"))) (.blt "len" [.var "_law_script"])) [.ret (.var "_law_top")] [], .assign "_law_word" (.sub (.lst [.int 0, .int 1, .int 8, .int 5, .int 4, .int 5, .int 6, .int 7, .int 8, .int 9, .int 9, .int 9, .int 12]) (.bin .Mod (.sub (.var "_law_script") (.bin .Add (.int 6) (.bin .Mult (.int 2) (.var "_law_k")))) (.int 13))), .assign "_law_cell" (.call "_law_cell_at" [.var "_law_script", .bin .Add (.int 7) (.bin .Mult (.int 2) (.var "_law_k"))]), .assign "_law_made" (.lst []), .ite (.cmp .Lt (.var "_law_word") (.int 9)) [.assign "_law_made" (.lst [.call "_law_around" [.var "_law_word", .var "_law_cell", .var "_law_top"]]), .ite (.bop .And [.bop .Or [.cmp .Eq (.var "_law_word") (.int 8), .cmp .Eq (.var "_law_word") (.int 5)], .cmp .Gt (.bin .Mod (.var "_law_cell") (.int 4)) (.int 0)]) [.assign "_law_made" (.lst [.call "_law_sieve_on" [.sub (.var "_law_made") (.int 0), .var "_law_cell"]])] []] [.ite (.cmp .Lt (.var "_law_word") (.int 12)) [.assign "_law_made" (.call "_law_of_two" [.str "join", .var "_law_cell", .sub (.lst [.var "_law_top", .var "_law_spare"]) (.bin .Mod (.bin .FloorDiv (.var "_law_cell") (.int 2)) (.int 2)), .sub (.lst [.var "_law_spare", .var "_law_top"]) (.bin .Mod (.bin .FloorDiv (.var "_law_cell") (.int 2)) (.int 2))]), .ite (.bop .And [.cmp .NotEq (.var "_law_made") (.lst []), .cmp .Gt (.bin .Mod (.var "_law_cell") (.int 4)) (.int 0)]) [.assign "_law_made" (.lst [.call "_law_sieve_on" [.sub (.var "_law_made") (.int 0), .var "_law_cell"]])] []] [.ite (.cmp .Eq (.bin .Mod (.var "_law_cell") (.int 3)) (.int 1)) [.assign "_law_made" (.call "_law_of_two" [.str "both", .var "_law_cell", .var "_law_top", .call "_law_around" [.sub (.lst [.int 0, .int 6, .int 7]) (.bin .Mod (.bin .FloorDiv (.var "_law_cell") (.int 3)) (.int 3)), .call "_law_mixed" [.var "_law_cell", .int 5], .var "_law_top"]])] []]], .ite (.cmp .Eq (.var "_law_made") (.lst [])) [.assign "_law_made" (.call "_law_of_two" [.str "both", .var "_law_cell", .var "_law_top", .var "_law_spare"])] [], .ite (.cmp .Eq (.var "_law_made") (.lst [])) [.assign "_law_made" (.lst [.var "_law_spare"]), .assign "_law_spare" (.var "_law_top")] [.ite (.cmp .GtE (.var "_law_word") (.int 9)) [.assign "_law_spare" (.call "_law_leaf" [.var "_law_script", .bin .Mod (.bin .FloorDiv (.var "_law_cell") (.int 36)) (.int 3)])] []], .assign "_law_top" (.sub (.var "_law_made") (.int 0))],
    .ret (.var "_law_top")]⟩
noncomputable def fn_law_built : Fn := ⟨["_law_script"], [
    .assign "_law_top" (.call "_law_stepped" [.var "_law_script"]),
    .assign "_law_last" (.call "_law_cell_at" [.var "_law_script", .int 5]),
    .ite (.cmp .Eq (.bin .Mod (.bin .FloorDiv (.var "_law_last") (.int 3)) (.int 3)) (.int 1)) [.assign "_law_top" (.call "_law_around" [.int 8, .bin .Mod (.bin .FloorDiv (.var "_law_last") (.int 9)) (.int 3), .var "_law_top"])] [],
    .ite (.cmp .Eq (.bin .Mod (.bin .FloorDiv (.var "_law_last") (.int 3)) (.int 3)) (.int 2)) [.assign "_law_top" (.call "_law_around" [.int 5, .bin .Add (.bin .Mult (.bin .FloorDiv (.call "_law_mixed" [.var "_law_last", .int 4]) (.int 4)) (.int 4)) (.int 1), .var "_law_top"])] [],
    .ite (.cmp .Gt (.bin .Mod (.var "_law_last") (.int 3)) (.int 0)) [.assign "_law_top" (.call "_law_around" [.int 0, .bin .Add (.bin .Mult (.bin .FloorDiv (.call "_law_mixed" [.var "_law_last", .int 9]) (.int 4)) (.int 4)) (.int 2), .var "_law_top"])] [],
    .assign "_law_cell" (.bin .FloorDiv (.call "_law_cell_at" [.var "_law_script", .int 1]) (.int 35)),
    .assign "_law_many_here" (.int 0),
    .ite (.cmp .Eq (.bin .Mod (.var "_law_cell") (.int 8)) (.int 1)) [.assign "_law_many_here" (.bin .Mod (.bin .FloorDiv (.var "_law_cell") (.int 8)) (.int 8))] [],
    .ite (.cmp .Eq (.bin .Mod (.var "_law_cell") (.int 32)) (.int 5)) [.assign "_law_top" (.call "_law_leaf" [.var "_law_script", .int 0]), .assign "_law_many_here" (.int 38)] [],
    .for_ "_law_k" (.blt "range" [.var "_law_many_here"]) [.assign "_law_top" (.call "_law_around" [.bin .Mod (.call "_law_mixed" [.var "_law_cell", .var "_law_k"]) (.int 9), .call "_law_mixed" [.var "_law_cell", .bin .Add (.int 50) (.var "_law_k")], .var "_law_top"])],
    .ret (.var "_law_top")]⟩
structure BE (P : List (String × Fn)) : Prop extends BN P where
  wb : P.lookup "_law_wide_by" = some fn_law_wide_by
  ro : P.lookup "_law_rows_of" = some fn_law_rows_of
  nm : P.lookup "_law_names" = some fn_law_names
  lf : P.lookup "_law_leaf" = some fn_law_leaf
  ws : P.lookup "_law_widths" = some fn_law_widths
  st : P.lookup "_law_stepped" = some fn_law_stepped
  bu : P.lookup "_law_built" = some fn_law_built
noncomputable def words10 : List String := ["one", "join", "table", "first", "sieve", "pick", "group", "order", "both", "once"]
theorem sgn_ne : ∀ m < 94, charAt signs m ≠ charAt signs ((m + 1) % 94) ∧ charAt signs m ≠ charAt signs ((m + 2) % 94) := by decide +kernel
theorem app_list (x y : Str) : (x ++ y).cps.toList = x.cps.toList ++ y.cps.toList := Array.toList_append
theorem str_ext {x y : Str} (h : x.cps.toList = y.cps.toList) : x = y := by
  obtain ⟨⟨x⟩⟩ := x; obtain ⟨⟨y⟩⟩ := y
  have h : x = y := h
  rw [h]
theorem app_mid {U V x y : Str} (h : U ++ x ++ V = U ++ y ++ V) : x = y := by
  have h := congrArg (fun s : Str => s.cps.toList) h
  simp only [app_list] at h
  exact str_ext (List.append_cancel_left (List.append_cancel_right h))
theorem two_head : ∀ s ∈ words10, (Str.ofString s).cps.toList.head? ≠ some 84 := by decide +kernel
theorem two_list : (Str.ofString "Two ").cps.toList = [84, 119, 111, 32] := by decide +kernel
theorem empty_len : (Str.ofString "").length = 0 := by decide +kernel
theorem w10_ne : ∀ s ∈ words10, s ≠ "" := by decide
theorem w10_len : ∀ s ∈ words10, (Str.ofString s).length ≤ 8 := by decide +kernel
theorem md94 {y : Int} {m : Nat} (k : Nat) (h : y % 94 = m) : ((y + (k : Int)) % 94).toNat = (m + k) % 94 := by
  rw [← Int.emod_add_emod, h, ← Int.natCast_add]; rfl
section
variable {P : List (String × Fn)} {X : CF}
theorem names_eq (B : BE P) (ns : List Int) : ∃ a b c : Str, (a ≠ b ∧ a ≠ c ∧ b ≠ c) ∧ ∀ n, (callN P X (n + 2)).call "_law_names" [.list (ns.map .int)] = some (.list [.str a, .str b, .str c], true) := by
  have c0 : ∀ n, (callN P X (n + 1)).call "_law_cell_at" [.list (ns.map .int), .int 0] = some (.int (ns.getD 0 0), false) := fun n => cell_at (X := X) B.toBG n ns 0
  generalize ns.getD 0 0 = z at *
  generalize D.list (ns.map .int) = S at *
  obtain ⟨d, ⟨s, hs, rfl⟩, hd⟩ := list_pick (l := [.str (Str.ofString "one"), .str (Str.ofString "join"), .str (Str.ofString "table"), .str (Str.ofString "first"), .str (Str.ofString "sieve"), .str (Str.ofString "pick"), .str (Str.ofString "group"), .str (Str.ofString "order"), .str (Str.ofString "both"), .str (Str.ofString "once")]) (by decide) (z / 35) (R := fun d => ∃ s, s ∈ words10 ∧ d = .str (Str.ofString s)) (by
    intro d hd
    simp only [List.mem_cons, List.not_mem_nil, or_false] at hd
    rcases hd with rfl | rfl | rfl | rfl | rfl | rfl | rfl | rfl | rfl | rfl <;> exact ⟨_, by decide, rfl⟩)
  have hd : subD (.list [.str (Str.ofString "one"), .str (Str.ofString "join"), .str (Str.ofString "table"), .str (Str.ofString "first"), .str (Str.ofString "sieve"), .str (Str.ofString "pick"), .str (Str.ofString "group"), .str (Str.ofString "order"), .str (Str.ofString "both"), .str (Str.ofString "once")]) (.int (z / 35 % 10)) = some (.str (Str.ofString s)) := hd
  have hbig : 100 ≤ big := by decide
  have hl := w10_len s hs
  cases hm : (z / 350 % 2 == 0) with
  | true =>
    have g := fun n => sign_at (X := X) B.toBG n (z / 350 / 2)
    have k0 := bin_ss (u := Str.ofString "Two ") (v := charAt signs (z / 350 / 2 % 94).toNat) (by have h1 : (charAt signs (z / 350 / 2 % 94).toNat).length = 1 := rfl; have h2 : (Str.ofString "Two ").length = 4 := (by decide +kernel); omega)
    refine ⟨Str.ofString s, Str.ofString "Two " ++ charAt signs (z / 350 / 2 % 94).toNat, Str.ofString "", ⟨fun e => ?_, fun e => w10_ne s hs (ofString_inj e), fun e => ?_⟩, fun n => run_call B.nm rfl ?_⟩
    · refine two_head s hs ?_
      rw [e, app_list, two_list]; rfl
    · have := congrArg Str.length e
      rw [len_append, empty_len] at this
      have h1 : (charAt signs (z / 350 / 2 % 94).toNat).length = 1 := rfl
      omega
    · have c1 := c0 n; have g1 := g n
      exact r_step (p_assign (v_call (v_cons (v_var rfl) (v_cons (e_int _ _ _) (es_nil _ _))) c1)) (r_step (p_assign (v_map (v_lst (v_cons (e_str _ _ _) (v_cons (e_str _ _ _) (v_cons (e_str _ _ _) (v_cons (e_str _ _ _) (v_cons (e_str _ _ _) (v_cons (e_str _ _ _) (v_cons (e_str _ _ _) (v_cons (e_str _ _ _) (v_cons (e_str _ _ _) (v_cons (e_str _ _ _) (es_nil _ _))))))))))) (of_decide_eq_true (id (Eq.refl true)))) rfl rfl)) (r_step (p_assign (v_map (v_sub (v_var (hr_vis h_eq)) (v_bin (v_bin (v_var (hr_vis (h_ne rfl (h_st h_eq)))) (e_int _ _ _) (b_div (of_decide_eq_true (id (Eq.refl true))))) (e_int _ _ _) (b_mod (of_decide_eq_true (id (Eq.refl true))))) hd) rfl rfl)) (r_step (p_assign (v_map (v_bin (v_var (hr_vis (h_ne rfl (h_st (h_ne rfl (h_st h_eq)))))) (e_int _ _ _) (b_div (of_decide_eq_true (id (Eq.refl true))))) rfl rfl)) (r_if (v_cmp (v_bin (v_var (hr_vis h_eq)) (e_int _ _ _) (b_mod (of_decide_eq_true (id (Eq.refl true))))) (e_int _ _ _) rfl) rfl (fun hh => r_ret (v_map (v_lst (v_cons (v_var (hr_vis (h_ne rfl (h_st h_eq)))) (v_cons (v_bin (e_str _ _ _) (v_callE (v_cons (v_bin (v_var (hr_vis h_eq)) (e_int _ _ _) (b_div (of_decide_eq_true (id (Eq.refl true))))) (es_nil _ _)) g1) k0) (v_cons (e_str _ _ _) (es_nil _ _)))) (Nat.le_of_ble_eq_true rfl)) rfl rfl) rfl) fun hh => no_tf hm hh))))
  | false =>
    have hb : (Str.ofString s).length ≤ big := by omega
    have l1 := len_s hb
    have w3 : (0 : Int) < ((Str.ofString s).length : Int) + 1 := by omega
    obtain ⟨U, hU, w4⟩ := slD_hi (Str.ofString s) (z / 350 / 2 % (((Str.ofString s).length : Int) + 1)) hb
    obtain ⟨V, hV, w5⟩ := slD_lo (Str.ofString s) (z / 350 / 2 % (((Str.ofString s).length : Int) + 1)) hb
    have hne : ∀ i j : Nat, charAt signs i ≠ charAt signs j → U ++ charAt signs i ++ V ≠ U ++ charAt signs j ++ V := fun i j h e => h (app_mid e)
    obtain ⟨m, em, hm94⟩ := emod_nat (z / 350 / 18) (k := 94) (by decide)
    have em : z / 350 / 18 % 94 = (m : Int) := em
    have e0 : ((z / 350 / 18 + (0 : Nat)) % 94).toNat = m := (md94 0 em).trans (Nat.mod_eq_of_lt hm94)
    have e1 : ((z / 350 / 18 + (1 : Nat)) % 94).toNat = (m + 1) % 94 := md94 1 em
    have e2 : ((z / 350 / 18 + (2 : Nat)) % 94).toNat = (m + 2) % 94 := md94 2 em
    have e3 : (m + 2) % 94 = ((m + 1) % 94 + 1) % 94 := (Nat.mod_add_mod (m + 1) 94 1).symm
    refine ⟨U ++ charAt signs ((z / 350 / 18 + (0 : Nat)) % 94).toNat ++ V, U ++ charAt signs ((z / 350 / 18 + (1 : Nat)) % 94).toNat ++ V, U ++ charAt signs ((z / 350 / 18 + (2 : Nat)) % 94).toNat ++ V, ⟨hne _ _ ?_, hne _ _ ?_, hne _ _ ?_⟩, fun n => run_call B.nm rfl ?_⟩
    · rw [e0, e1]; exact (sgn_ne m hm94).1
    · rw [e0, e2]; exact (sgn_ne m hm94).2
    · rw [e1, e2, e3]; exact (sgn_ne _ (Nat.mod_lt _ (by decide))).1
    · have c1 := c0 n
      have hcomp : ∀ σ : St, Has σ "_law_word" (.str (Str.ofString s)) → Has σ "_law_at" (.int (z / 350 / 2 % (((Str.ofString s).length : Int) + 1))) → Has σ "_law_rest" (.int (z / 350)) → evE (callN P X (n + 1)) (vis σ) (.comp (.bin .Add (.bin .Add (.sl (.var "_law_word") .none (.var "_law_at")) (.call "_law_sign_by" [.bin .Add (.bin .FloorDiv (.var "_law_rest") (.int 18)) (.var "_law_k")])) (.sl (.var "_law_word") (.var "_law_at") .none)) "_law_k" (.blt "range" [.int 3]) []) = some (.list ((List.range 3).map fun (i : Nat) => D.str (U ++ charAt signs ((z / 350 / 18 + (i : Int)) % 94).toNat ++ V))) := by
        intro σ i1 i2 i3
        refine v_comp (x := .rng 0 3) rfl (items_rng 3) (by decide) (compM_mm _ _ _ _ fun i _ => compF_nil ?_)
        have g1 := sign_at (X := X) B.toBG n (z / 350 / 18 + (i : Int))
        have hc : (charAt signs ((z / 350 / 18 + (i : Int)) % 94).toNat).length = 1 := rfl
        have w6 := bin_ss (u := U) (v := charAt signs ((z / 350 / 18 + (i : Int)) % 94).toNat) (by omega)
        have w7 := bin_ss (u := U ++ charAt signs ((z / 350 / 18 + (i : Int)) % 94).toNat) (v := V) (by rw [len_append]; omega)
        exact v_bin (v_bin (v_sl (v_var (hr_ne rfl (hr_vis i1))) (e_none _ _) (v_var (hr_ne rfl (hr_vis i2))) w4) (v_callE (v_cons (v_bin (v_bin (v_var (hr_ne rfl (hr_vis i3))) (e_int _ _ _) (b_div (of_decide_eq_true (id (Eq.refl true))))) (v_var hr_eq) b_add) (es_nil _ _)) g1) w6) (v_sl (v_var (hr_ne rfl (hr_vis i1))) (v_var (hr_ne rfl (hr_vis i2))) (e_none _ _) w5) w7
      refine r_step (p_assign (v_call (v_cons (d := S) rfl (v_cons (d := .int 0) rfl (es_nil _ _))) c1)) ?_
      refine r_step (p_assign (d := .list [.str (Str.ofString "one"), .str (Str.ofString "join"), .str (Str.ofString "table"), .str (Str.ofString "first"), .str (Str.ofString "sieve"), .str (Str.ofString "pick"), .str (Str.ofString "group"), .str (Str.ofString "order"), .str (Str.ofString "both"), .str (Str.ofString "once")]) (fr := true) rfl) ?_
      refine r_step (p_assign (d := .str (Str.ofString s)) (fr := false) (v_map (v_sub (v_var (hr_vis h_eq)) (v_bin (v_bin (v_var (hr_vis (h_ne rfl (h_st h_eq)))) (e_int _ _ _) (b_div (of_decide_eq_true (id (Eq.refl true))))) (e_int _ _ _) (b_mod (of_decide_eq_true (id (Eq.refl true))))) hd) rfl rfl)) ?_
      refine r_step (p_assign (d := .int (z / 350)) (fr := false) (v_map (v_bin (v_var (hr_vis (h_ne rfl (h_st (h_ne rfl (h_st h_eq)))))) (e_int _ _ _) (b_div (of_decide_eq_true (id (Eq.refl true))))) rfl rfl)) ?_
      refine r_if (k := false) (x := .bool false) (by rw [← hm]; exact v_cmp (v_bin (v_var (hr_vis h_eq)) (e_int _ _ _) (b_mod (of_decide_eq_true (id (Eq.refl true))))) (e_int _ _ _) rfl) rfl nofun fun _ => ?_
      refine r_step (p_assign (d := .int (z / 350 / 2 % (((Str.ofString s).length : Int) + 1))) (fr := false) (v_map (v_bin (v_bin (v_var (hr_vis h_eq)) (e_int _ _ _) (b_div (of_decide_eq_true (id (Eq.refl true))))) (v_bin (v_blt (v_cons (v_var (hr_vis (h_ne rfl (h_st h_eq)))) (es_nil _ _)) l1) (e_int _ _ _) b_add) (b_mod w3)) rfl rfl)) ?_
      exact r_ret (v_map (hcomp _ (h_ne rfl (h_st (h_ne rfl (h_st h_eq)))) (h_eq) (h_ne rfl (h_st h_eq))) rfl rfl) rfl
end

set_option maxRecDepth 100000
set_option maxHeartbeats 800000
noncomputable def wideV (c : Int) : Nat := if (c / 35 % 6 == 2) = true then (c / 210 % 13).toNat else [2, 1, 3, 2, 0].getD (c % 5).toNat 0
theorem wide_le (c : Int) : wideV c ≤ 12 := by
  unfold wideV
  split
  · omega
  · obtain ⟨m, e, hm⟩ := emod_nat c (k := 5) (by decide)
    have e : c % 5 = m := e
    rw [e, Int.toNat_natCast]
    exact (by decide : ∀ m < 5, [2, 1, 3, 2, 0].getD m 0 ≤ 12) m hm
section
variable {P : List (String × Fn)} {X : CF}
theorem wide_by (B : BE P) (n : Nat) (c : Int) : (callN P X (n + 1)).call "_law_wide_by" [.int c] = some (.int (wideV c), false) := by
  refine run_call B.wb rfl ?_
  unfold wideV
  cases h : (c / 35 % 6 == 2) with
  | true =>
    rw [if_pos rfl]
    have e : ((c / 210 % 13).toNat : Int) = c / 210 % 13 := by omega
    rw [e]
    exact r_if (v_cmp (v_bin (v_bin (v_var rfl) (e_int _ _ _) (b_div (of_decide_eq_true (id (Eq.refl true))))) (e_int _ _ _) (b_mod (of_decide_eq_true (id (Eq.refl true))))) (e_int _ _ _) rfl) rfl (fun hh => r_ret (v_map (v_bin (v_bin (v_var rfl) (e_int _ _ _) (b_div (of_decide_eq_true (id (Eq.refl true))))) (e_int _ _ _) (b_mod (of_decide_eq_true (id (Eq.refl true))))) rfl rfl) rfl) fun hh => no_tf h hh
  | false =>
    rw [if_neg Bool.false_ne_true]
    obtain ⟨m, e, hm⟩ := emod_nat c (k := 5) (by decide)
    have e : c % 5 = m := e
    have q : subD (.list [.int 2, .int 1, .int 3, .int 2, .int 0]) (.int (c % 5)) = some (.int ([2, 1, 3, 2, 0].getD (c % 5).toNat 0 : Nat)) := by
      rw [e, Int.toNat_natCast]
      refine sub_l (by simpa using hm) ?_
      match m, hm with
      | 0, _ => rfl
      | 1, _ => rfl
      | 2, _ => rfl
      | 3, _ => rfl
      | 4, _ => rfl
    exact r_if (v_cmp (v_bin (v_bin (v_var rfl) (e_int _ _ _) (b_div (of_decide_eq_true (id (Eq.refl true))))) (e_int _ _ _) (b_mod (of_decide_eq_true (id (Eq.refl true))))) (e_int _ _ _) rfl) rfl (fun hh => no_tf hh h) fun hh => r_ret (v_map (v_sub (v_lst (v_cons (e_int _ _ _) (v_cons (e_int _ _ _) (v_cons (e_int _ _ _) (v_cons (e_int _ _ _) (v_cons (e_int _ _ _) (es_nil _ _)))))) (of_decide_eq_true (id (Eq.refl true)))) (v_bin (v_var rfl) (e_int _ _ _) (b_mod (of_decide_eq_true (id (Eq.refl true))))) q) rfl rfl) rfl
theorem rows_of (B : BE P) (n : Nat) (c : Int) : ∃ m : Nat, m ≤ 8 ∧ (callN P X (n + 1)).call "_law_rows_of" [.int c] = some (.int m, false) := by
  obtain ⟨d, ⟨m, rfl, hm⟩, q⟩ := list_pick (l := [.int 5, .int 7, .int 4, .int 8, .int 6, .int 2, .int 0]) (by decide) (c / 5) (R := fun d => ∃ m : Nat, d = .int m ∧ m ≤ 8) (by
    intro d hd
    simp only [List.mem_cons, List.not_mem_nil, or_false] at hd
    rcases hd with rfl | rfl | rfl | rfl | rfl | rfl | rfl <;> first | exact ⟨5, rfl, by decide⟩ | exact ⟨7, rfl, by decide⟩ | exact ⟨4, rfl, by decide⟩ | exact ⟨8, rfl, by decide⟩ | exact ⟨6, rfl, by decide⟩ | exact ⟨2, rfl, by decide⟩ | exact ⟨0, rfl, by decide⟩)
  have q : subD (.list [.int 5, .int 7, .int 4, .int 8, .int 6, .int 2, .int 0]) (.int (c / 5 % 7)) = some (.int m) := q
  refine ⟨m, hm, run_call B.ro rfl ?_⟩
  exact r_ret (v_map (v_sub (v_lst (v_cons (e_int _ _ _) (v_cons (e_int _ _ _) (v_cons (e_int _ _ _) (v_cons (e_int _ _ _) (v_cons (e_int _ _ _) (v_cons (e_int _ _ _) (v_cons (e_int _ _ _) (es_nil _ _)))))))) (of_decide_eq_true (id (Eq.refl true)))) (v_bin (v_bin (v_var rfl) (e_int _ _ _) (b_div (of_decide_eq_true (id (Eq.refl true))))) (e_int _ _ _) (b_mod (of_decide_eq_true (id (Eq.refl true))))) q) rfl rfl) rfl
/-- the tables' widths -/
noncomputable def W3 (a b c : Str) (x y z : Nat) : Wd := [(a, x), (b, y), (c, z)]
theorem str_ne {a b : Str} (h : a ≠ b) : keyEq (.str a) (.str b) = false := by
  show (a == b) = false
  rw [beq_eq_false_iff_ne]; exact h
theorem widths_eq (B : BE P) (n : Nat) (ns : List Int) {a b c : Str} (hab : a ≠ b) (hac : a ≠ c) (hbc : b ≠ c) (hn : (callN P X (n + 2)).call "_law_names" [.list (ns.map .int)] = some (.list [.str a, .str b, .str c], true)) :
    (callN P X (n + 3)).call "_law_widths" [.list (ns.map .int)] = some ((W3 a b c (wideV (ns.getD 0 0)) (wideV (ns.getD 1 0)) (wideV (ns.getD 2 0))).d, true) := by
  have c0 : (callN P X (n + 2)).call "_law_cell_at" [.list (ns.map .int), .int 0] = some (.int (ns.getD 0 0), false) := cell_at (X := X) B.toBG (n + 1) ns 0
  have c1 : (callN P X (n + 2)).call "_law_cell_at" [.list (ns.map .int), .int 1] = some (.int (ns.getD 1 0), false) := cell_at (X := X) B.toBG (n + 1) ns 1
  have c2 : (callN P X (n + 2)).call "_law_cell_at" [.list (ns.map .int), .int 2] = some (.int (ns.getD 2 0), false) := cell_at (X := X) B.toBG (n + 1) ns 2
  have w0 := wide_by (X := X) B (n + 1) (ns.getD 0 0)
  have w1 := wide_by (X := X) B (n + 1) (ns.getD 1 0)
  have w2 := wide_by (X := X) B (n + 1) (ns.getD 2 0)
  generalize ns.getD 0 0 = z0 at *
  generalize ns.getD 1 0 = z1 at *
  generalize ns.getD 2 0 = z2 at *
  generalize D.list (ns.map .int) = S at *
  have nx : ∀ (σ : St) (i : Int) (w z : Int) (nm : Str) (ks vs : List D), Has σ "_law_script" S → Has σ "_law_names_here" (.list [.str a, .str b, .str c]) → OwnV σ "_law_widths_here" (.dict ks vs) → keyOk (.str nm) ks = true → ks.length < 4 →
      subD (.list [.str a, .str b, .str c]) (.int i) = some (.str nm) → (callN P X (n + 2)).call "_law_cell_at" [S, .int i] = some (.int z, false) → (callN P X (n + 2)).call "_law_wide_by" [.int z] = some (.int w, false) →
      ∃ σ', (Has σ' "_law_script" S ∧ Has σ' "_law_names_here" (.list [.str a, .str b, .str c]) ∧ OwnV σ' "_law_widths_here" (.dict (dput ks vs (.str nm) (.int w)).1 (dput ks vs (.str nm) (.int w)).2)) ∧ exSs (callN P X (n + 2)) [.setk "_law_widths_here" (.sub (.var "_law_names_here") (.var "_law_k")) (.call "_law_wide_by" [.call "_law_cell_at" [.var "_law_script", .var "_law_k"]])] (setv σ "_law_k" (false, .int i)) = some (.next, σ') := by
    intro σ i w z nm ks vs i1 i2 i3 hk hl hs hc hw
    have hb : 4 ≤ big := by decide
    obtain ⟨fl, σ', ⟨rfl, q⟩, e⟩ : Out (callN P X (n + 2)) [.setk "_law_widths_here" (.sub (.var "_law_names_here") (.var "_law_k")) (.call "_law_wide_by" [.call "_law_cell_at" [.var "_law_script", .var "_law_k"]])] (setv σ "_law_k" (false, .int i)) fun fl σ' => fl = .next ∧ (Has σ' "_law_script" S ∧ Has σ' "_law_names_here" (.list [.str a, .str b, .str c]) ∧ OwnV σ' "_law_widths_here" (.dict (dput ks vs (.str nm) (.int w)).1 (dput ks vs (.str nm) (.int w)).2)) := by
      refine o_step (p_setk (d := .int w) (dk := .str nm) (ks := ks) (vs := vs) (v_callE (v_cons (v_callE (v_cons (v_var (hr_vis (h_ne rfl i1))) (v_cons (v_var (hr_vis h_eq)) (es_nil _ _))) hc) (es_nil _ _)) hw) (v_sub (v_var (hr_vis (h_ne rfl i2))) (v_var (hr_vis h_eq)) hs) (?_ : OwnV _ _ _) (by rw [hk, decide_eq_true (by omega)]; rfl)) (o_nil ⟨rfl, ?_, ?_, ?_⟩)
      · exact w_st rfl (w_st rfl (w_ne rfl i3))
      · exact h_ne rfl (h_st (h_st (h_ne rfl i1)))
      · exact h_ne rfl (h_st (h_st (h_ne rfl i2)))
      · exact w_eq
    exact ⟨σ', q, e⟩
  refine run_call B.ws rfl ?_
  refine r_step (p_assign (v_call (v_cons (d := S) rfl (es_nil _ _)) hn)) ?_
  refine r_step (p_assign (d := .dict [] []) (fr := true) rfl) ?_
  generalize hσ : setv (settle (.dict [] []) (ME.names (.dct [] [])) (setv (settle (.list [.str a, .str b, .str c]) (ME.names (.call "_law_names" [.var "_law_script"])) _) "_law_names_here" (true, .list [.str a, .str b, .str c]))) "_law_widths_here" (true, D.dict [] []) = σ
  have i1 : Has σ "_law_script" S := by rw [← hσ]; exact ⟨_, rfl⟩
  have i2 : Has σ "_law_names_here" (.list [.str a, .str b, .str c]) := by rw [← hσ]; exact ⟨_, rfl⟩
  have i3 : OwnV σ "_law_widths_here" (.dict [] []) := by rw [← hσ]; exact w_eq
  obtain ⟨σ1, ⟨j1, j2, j3⟩, e1⟩ := nx (freeze (ME.names (.blt "range" [.int 3])) σ) 0 (wideV z0) z0 a [] [] (h_fr i1) (h_fr i2) (w_fr rfl i3) rfl (Nat.le_of_ble_eq_true rfl) rfl c0 w0
  have k1 : OwnV σ1 "_law_widths_here" (.dict [.str a] [.int (wideV z0)]) := j3
  obtain ⟨σ2, ⟨l1, l2, l3⟩, e2⟩ := nx σ1 1 (wideV z1) z1 b [.str a] [.int (wideV z0)] j1 j2 k1 rfl (Nat.le_of_ble_eq_true rfl) rfl c1 w1
  have k2 : OwnV σ2 "_law_widths_here" (.dict [.str a, .str b] [.int (wideV z0), .int (wideV z1)]) := by
    simp only [dput, str_ne hab, Bool.false_eq_true, if_false] at l3
    exact l3
  obtain ⟨σ3, ⟨m1, m2, m3⟩, e3⟩ := nx σ2 2 (wideV z2) z2 c [.str a, .str b] [.int (wideV z0), .int (wideV z1)] l1 l2 k2 rfl (Nat.le_of_ble_eq_true rfl) rfl c2 w2
  have k3 : OwnV σ3 "_law_widths_here" (.dict [.str a, .str b, .str c] [.int (wideV z0), .int (wideV z1), .int (wideV z2)]) := by
    simp only [dput, str_ne hac, str_ne hbc, Bool.false_eq_true, if_false] at m3
    exact m3
  refine r_for (x := .rng 0 3) (its := [.int 0, .int 1, .int 2]) (σ' := σ3) rfl rfl ?_ (r_retv k3)
  rw [forB_cons, e1]; show forD _ _ _ = _; rw [forB_cons, e2]; show forD _ _ _ = _; rw [forB_cons, e3]; rfl
theorem leaf_eq (B : BE P) (n : Nat) (ns : List Int) {a b c : Str} (hab : a ≠ b) (hac : a ≠ c) (hbc : b ≠ c) (hn : (callN P X (n + 2)).call "_law_names" [.list (ns.map .int)] = some (.list [.str a, .str b, .str c], true)) (k : Nat) (hk : k < 3) :
    ∃ q r, TpA (W3 a b c (wideV (ns.getD 0 0)) (wideV (ns.getD 1 0)) (wideV (ns.getD 2 0))) 0 0 q r 1 ∧ (callN P X (n + 3)).call "_law_leaf" [.list (ns.map .int), .int k] = some (topD (W3 a b c (wideV (ns.getD 0 0)) (wideV (ns.getD 1 0)) (wideV (ns.getD 2 0))) q r 1, false) := by
  obtain ⟨nm, h1, h2⟩ : ∃ nm, subD (.list [.str a, .str b, .str c]) (.int k) = some (.str nm) ∧ (W3 a b c (wideV (ns.getD 0 0)) (wideV (ns.getD 1 0)) (wideV (ns.getD 2 0))).lookup nm = some (wideV (ns.getD k 0)) := by
    have e1 : ∀ x : Str, (x == x) = true := fun x => beq_self_eq_true x
    have e2 : (b == a) = false := by rw [beq_eq_false_iff_ne]; exact hab.symm
    have e3 : (c == a) = false := by rw [beq_eq_false_iff_ne]; exact hac.symm
    have e4 : (c == b) = false := by rw [beq_eq_false_iff_ne]; exact hbc.symm
    match k, hk with
    | 0, _ => exact ⟨a, rfl, by unfold W3; rw [List.lookup_cons, e1]⟩
    | 1, _ => exact ⟨b, rfl, by unfold W3; rw [List.lookup_cons, e2]; show List.lookup _ _ = _; rw [List.lookup_cons, e1]⟩
    | 2, _ => exact ⟨c, rfl, by unfold W3; rw [List.lookup_cons, e3]; show List.lookup _ _ = _; rw [List.lookup_cons, e4]; show List.lookup _ _ = _; rw [List.lookup_cons, e1]⟩
  generalize W3 a b c (wideV (ns.getD 0 0)) (wideV (ns.getD 1 0)) (wideV (ns.getD 2 0)) = W at *
  have c0 := cell_at (X := X) B.toBG (n + 1) ns k
  have w0 := wide_by (X := X) B (n + 1) (ns.getD k 0)
  have hw := wide_le (ns.getD k 0)
  obtain ⟨r, hr, r0⟩ := rows_of (X := X) B (n + 1) (ns.getD k 0)
  generalize ns.getD k 0 = z at *
  have hwd : (Q.table nm).wd W = wideV z := by show (W.lookup nm).getD 0 = _; rw [h2]; rfl
  refine ⟨.table nm, r, ⟨⟨_, h2⟩, by rw [hwd]; omega, by decide, by decide, by omega, Nat.le_refl _, Nat.zero_le _, trivial, Nat.le_refl _⟩, ?_⟩
  unfold topD
  rw [hwd]
  show _ = some (D.tup [.tup [.str (Str.ofString "table"), .str nm], .int (wideV z), .int r, .int 1], false)
  generalize D.list (ns.map .int) = S at *
  refine run_call B.lf rfl ?_
  show Run _ fn_law_leaf.body [("_law_script", (false, S)), ("_law_k", (false, .int k))] _ _
  exact r_step (p_assign (v_call (v_cons (v_var (hr_vis h_cons)) (v_cons (v_var (hr_vis (h_consn rfl h_cons))) (es_nil _ _))) c0)) (r_ret (v_map (v_tup (v_cons (v_tup (v_cons (e_str _ _ _) (v_cons (v_sub (v_callE (v_cons (v_var (hr_vis (h_ne rfl (h_st h_cons)))) (es_nil _ _)) hn) (v_var (hr_vis (h_ne rfl (h_st (h_consn rfl h_cons))))) h1) (es_nil _ _))) (Nat.le_of_ble_eq_true rfl)) (v_cons (v_callE (v_cons (v_var (hr_vis h_eq)) (es_nil _ _)) w0) (v_cons (v_callE (v_cons (v_var (hr_vis h_eq)) (es_nil _ _)) r0) (v_cons (e_int _ _ _) (es_nil _ _))))) (Nat.le_of_ble_eq_true rfl)) rfl rfl) rfl)
end

set_option maxRecDepth 100000
set_option maxHeartbeats 800000
theorem o_retv {cf : CF} {σ : St} {z : String} {d : D} {fr : Bool} {r : List MS} {R : Fl → St → Prop} (h : σ.lookup z = some (fr, d)) (q : R (.ret fr d) σ) : Out cf (.ret (.var z) :: r) σ R := ⟨_, _, q, x_end (x_rx h)⟩
/-- a loop that may return -/
theorem loop_out {cf : CF} {body : List MS} {z : String} (I : Nat → St → Prop) (R : D → Bool → Prop) (N : Nat) : ∀ (its : List D) (k : Nat) (σ : St), k + its.length ≤ N → I k σ → (∀ k it σ, k < N → it ∈ its → I k σ → Out cf body (setv σ z (false, it)) fun fl σ' => (fl = .next ∧ I (k + 1) σ') ∨ ∃ d fr, fl = .ret fr d ∧ R d fr) →
    ∃ σ', (I (k + its.length) σ' ∧ forD (bodyF cf body z) its σ = some (.next, σ')) ∨ ∃ d fr, R d fr ∧ forD (bodyF cf body z) its σ = some (.ret fr d, σ')
  | [], k, σ, _, h, _ => ⟨σ, .inl ⟨h, rfl⟩⟩
  | it :: r, k, σ, hN, h, hs => by
    rw [List.length_cons] at hN
    obtain ⟨fl, σ₁, q, e⟩ := hs k it σ (by omega) (.head _) h
    rcases q with ⟨rfl, i1⟩ | ⟨d, fr, rfl, q⟩
    · obtain ⟨σ₂, c⟩ := loop_out I R N r (k + 1) σ₁ (by omega) i1 fun k i s hk hi => hs k i s hk (.tail _ hi)
      refine ⟨σ₂, ?_⟩
      rw [forB_cons, e, List.length_cons, Nat.add_comm r.length 1, ← Nat.add_assoc]
      exact c
    · exact ⟨σ₁, .inr ⟨d, fr, q, by rw [forB_cons, e]; rfl⟩⟩
noncomputable def stepEnd : List MS := [.ite (.cmp .Eq (.var "_law_made") (.lst [])) [.assign "_law_made" (.lst [.var "_law_spare"]), .assign "_law_spare" (.var "_law_top")] [.ite (.cmp .GtE (.var "_law_word") (.int 9)) [.assign "_law_spare" (.call "_law_leaf" [.var "_law_script", .bin .Mod (.bin .FloorDiv (.var "_law_cell") (.int 36)) (.int 3)])] []], .assign "_law_top" (.sub (.var "_law_made") (.int 0))]
noncomputable def stepMid : List MS := .ite (.cmp .Eq (.var "_law_made") (.lst [])) [.assign "_law_made" (.call "_law_of_two" [.str "both", .var "_law_cell", .var "_law_top", .var "_law_spare"])] [] :: stepEnd
noncomputable def stepBody : List MS := [.ite (.cmp .GtE (.bin .Add (.int 6) (.bin .Mult (.int 2) (.var "_law_k"))) (.blt "len" [.var "_law_script"])) [.ret (.var "_law_top")] [], .assign "_law_word" (.sub (.lst [.int 0, .int 1, .int 8, .int 5, .int 4, .int 5, .int 6, .int 7, .int 8, .int 9, .int 9, .int 9, .int 12]) (.bin .Mod (.sub (.var "_law_script") (.bin .Add (.int 6) (.bin .Mult (.int 2) (.var "_law_k")))) (.int 13))), .assign "_law_cell" (.call "_law_cell_at" [.var "_law_script", .bin .Add (.int 7) (.bin .Mult (.int 2) (.var "_law_k"))]), .assign "_law_made" (.lst []), .ite (.cmp .Lt (.var "_law_word") (.int 9)) [.assign "_law_made" (.lst [.call "_law_around" [.var "_law_word", .var "_law_cell", .var "_law_top"]]), .ite (.bop .And [.bop .Or [.cmp .Eq (.var "_law_word") (.int 8), .cmp .Eq (.var "_law_word") (.int 5)], .cmp .Gt (.bin .Mod (.var "_law_cell") (.int 4)) (.int 0)]) [.assign "_law_made" (.lst [.call "_law_sieve_on" [.sub (.var "_law_made") (.int 0), .var "_law_cell"]])] []] [.ite (.cmp .Lt (.var "_law_word") (.int 12)) [.assign "_law_made" (.call "_law_of_two" [.str "join", .var "_law_cell", .sub (.lst [.var "_law_top", .var "_law_spare"]) (.bin .Mod (.bin .FloorDiv (.var "_law_cell") (.int 2)) (.int 2)), .sub (.lst [.var "_law_spare", .var "_law_top"]) (.bin .Mod (.bin .FloorDiv (.var "_law_cell") (.int 2)) (.int 2))]), .ite (.bop .And [.cmp .NotEq (.var "_law_made") (.lst []), .cmp .Gt (.bin .Mod (.var "_law_cell") (.int 4)) (.int 0)]) [.assign "_law_made" (.lst [.call "_law_sieve_on" [.sub (.var "_law_made") (.int 0), .var "_law_cell"]])] []] [.ite (.cmp .Eq (.bin .Mod (.var "_law_cell") (.int 3)) (.int 1)) [.assign "_law_made" (.call "_law_of_two" [.str "both", .var "_law_cell", .var "_law_top", .call "_law_around" [.sub (.lst [.int 0, .int 6, .int 7]) (.bin .Mod (.bin .FloorDiv (.var "_law_cell") (.int 3)) (.int 3)), .call "_law_mixed" [.var "_law_cell", .int 5], .var "_law_top"]])] []]]] ++ stepMid
theorem Made.up {W : Wd} {c dp c' dp' : Nat} {d : D} (h : Made W c dp d) (h1 : c ≤ c') (h2 : dp ≤ dp') : Made W c' dp' d := h.elim .inl fun ⟨q, r, k, a, e⟩ => .inr ⟨q, r, k, a.up h1 h2, e⟩
theorem made_t : cmpD .Eq (.list []) (.list []) = some (.bool true) := rfl
theorem made_f (t : D) : cmpD .Eq (.list [t]) (.list []) = some (.bool false) := rfl
theorem made_nf : cmpD .NotEq (.list []) (.list []) = some (.bool false) := rfl
theorem made_nt (t : D) : cmpD .NotEq (.list [t]) (.list []) = some (.bool true) := rfl
section
variable {P : List (String × Fn)} {X : CF} {W : Wd}
structure SInv (W : Wd) (S : D) (c dp : Nat) (σ : St) : Prop where
  sc : Has σ "_law_script" S
  tp : ∃ q r k, TpA W c dp q r k ∧ Has σ "_law_top" (topD W q r k)
  sp : ∃ q r k, TpA W c dp q r k ∧ Has σ "_law_spare" (topD W q r k)
theorem step_end {cf : CF} {S : D} {c dp : Nat} (hleaf : ∀ k : Nat, k < 3 → ∃ q r, TpA W 0 0 q r 1 ∧ cf.call "_law_leaf" [S, .int k] = some (topD W q r 1, false)) {w z : Int} {d : D} {σ : St} (I : SInv W S c dp σ) (h1 : Has σ "_law_word" (.int w)) (h2 : Has σ "_law_cell" (.int z)) (h3 : Has σ "_law_made" d) (hm : Made W c dp d) :
    Out cf stepEnd σ fun fl σ' => fl = .next ∧ SInv W S c dp σ' := by
  obtain ⟨i0, ⟨q1, r1, k1, t1, i1⟩, ⟨q2, r2, k2, t2, i2⟩⟩ := I
  have hbig : 1 ≤ big := by decide
  rcases hm with rfl | ⟨q, r, k, t, rfl⟩
  · have s0 : subD (.list [topD W q2 r2 k2]) (.int 0) = some (topD W q2 r2 k2) := rfl
    generalize hT2 : topD W q2 r2 k2 = T2 at *
    generalize hT1 : topD W q1 r1 k1 = T1 at *
    refine o_if (k := true) (x := .bool true) (v_cmp (v_var (hr_vis h3)) (v_lst (es_nil _ _) (Nat.zero_le _)) made_t) rfl (fun _ => ?_) nofun
    refine o_step (p_assign (d := .list [T2]) (fr := true) (v_map (v_lst (v_cons (v_var (hr_vis i2)) (es_nil _ _)) (Nat.le_of_ble_eq_true rfl)) rfl rfl)) (o_step (p_assign (d := T1) (fr := frF (.var "_law_top") T1) (v_map (v_var (hr_vis (h_ne rfl (h_st i1)))) rfl rfl)) (o_step (p_assign (d := T2) (fr := frF (.sub (.var "_law_made") (.int 0)) T2) (v_map (v_sub (x := .list [T2]) (y := .int 0) (v_var (hr_vis (h_ne rfl (h_st h_eq)))) (e_int _ _ _) s0) rfl rfl)) (o_nil ⟨rfl, (h_ne rfl (h_st (h_ne rfl (h_st (h_ne rfl (h_st i0)))))), ⟨q2, r2, k2, t2, ?_⟩, ⟨q1, r1, k1, t1, ?_⟩⟩)))
    · rw [hT2]; exact h_eq
    · rw [hT1]; exact h_ne rfl (h_st h_eq)
  · have s0 : subD (.list [topD W q r k]) (.int 0) = some (topD W q r k) := rfl
    generalize hT : topD W q r k = T at *
    refine o_if (k := false) (x := .bool false) (v_cmp (v_var (hr_vis h3)) (v_lst (es_nil _ _) (Nat.zero_le _)) (made_f _)) rfl nofun fun _ => ?_
    refine o_if (k := decide (w ≥ 9)) (v_cmp (v_var (hr_vis h1)) (e_int _ _ _) rfl) rfl (fun _ => ?_) fun _ => ?_
    · obtain ⟨m, em, hm3⟩ := emod_nat (z / 36) (k := 3) (by decide)
      have em : z / 36 % 3 = (m : Int) := em
      obtain ⟨q3, r3, t3, l3⟩ := hleaf m hm3
      rw [← em] at l3
      generalize hT3 : topD W q3 r3 1 = T3 at *
      refine o_step (p_assign (d := T3) (fr := false) (v_call (v_cons (v_var (hr_vis i0)) (v_cons (v_bin (v_bin (v_var (hr_vis h2)) (e_int _ _ _) (b_div (of_decide_eq_true (id (Eq.refl true))))) (e_int _ _ _) (b_mod (of_decide_eq_true (id (Eq.refl true))))) (es_nil _ _))) l3)) (o_step (p_assign (d := T) (fr := frF (.sub (.var "_law_made") (.int 0)) T) (v_map (v_sub (x := .list [T]) (y := .int 0) (v_var (hr_vis (h_ne rfl (h_st h3)))) (e_int _ _ _) s0) rfl rfl)) (o_nil ⟨rfl, (h_ne rfl (h_st (h_ne rfl (h_st i0)))), ⟨q, r, k, t, ?_⟩, ⟨q3, r3, 1, t3.up (Nat.zero_le _) (Nat.zero_le _), ?_⟩⟩))
      · rw [hT]; exact h_eq
      · rw [hT3]; exact h_ne rfl (h_st h_eq)
    · refine o_step (p_assign (d := T) (fr := frF (.sub (.var "_law_made") (.int 0)) T) (v_map (v_sub (x := .list [T]) (y := .int 0) (v_var (hr_vis h3)) (e_int _ _ _) s0) rfl rfl)) (o_nil ⟨rfl, (h_ne rfl (h_st i0)), ⟨q, r, k, t, ?_⟩, ⟨q2, r2, k2, t2, ?_⟩⟩)
      · rw [hT]; exact h_eq
      · exact h_ne rfl (h_st i2)
theorem SInv.up {S : D} {c dp c' dp' : Nat} {σ : St} (I : SInv W S c dp σ) (h1 : c ≤ c') (h2 : dp ≤ dp') : SInv W S c' dp' σ :=
  ⟨I.sc, let ⟨q, r, k, t, h⟩ := I.tp; ⟨q, r, k, t.up h1 h2, h⟩, let ⟨q, r, k, t, h⟩ := I.sp; ⟨q, r, k, t.up h1 h2, h⟩⟩
theorem SInv.set {S : D} {c dp : Nat} {σ : St} {x : String} {v : Bool × D} {e : D} {ns : List String} (I : SInv W S c dp σ) (h1 : ("_law_script" == x) = false) (h2 : ("_law_top" == x) = false) (h3 : ("_law_spare" == x) = false) : SInv W S c dp (setv (settle e ns σ) x v) :=
  ⟨h_ne h1 (h_st I.sc), let ⟨q, r, k, t, h⟩ := I.tp; ⟨q, r, k, t, h_ne h2 (h_st h)⟩, let ⟨q, r, k, t, h⟩ := I.sp; ⟨q, r, k, t, h_ne h3 (h_st h)⟩⟩
theorem step_mid (B : BN P) (n : Nat) {S : D} {c dp : Nat} (hleaf : ∀ k : Nat, k < 3 → ∃ q r, TpA W 0 0 q r 1 ∧ (callN P X (n + 7)).call "_law_leaf" [S, .int k] = some (topD W q r 1, false)) {w z : Int} {d : D} {σ : St} (I : SInv W S c dp σ) (h1 : Has σ "_law_word" (.int w)) (h2 : Has σ "_law_cell" (.int z)) (h3 : Has σ "_law_made" d) (hm : Made W (c + 24) (dp + 3) d) :
    Out (callN P X (n + 7)) stepMid σ fun fl σ' => fl = .next ∧ SInv W S (c + 24) (dp + 3) σ' := by
  obtain ⟨i0, ⟨q1, r1, k1, t1, i1⟩, ⟨q2, r2, k2, t2, i2⟩⟩ := id I
  rcases hm with rfl | ⟨q, r, k, t, rfl⟩
  · obtain ⟨d', fr, m', e'⟩ := two_both_eq (X := X) B (n + 4) z t1 t2
    refine o_if (k := true) (x := .bool true) (v_cmp (v_var (hr_vis h3)) (v_lst (es_nil _ _) (Nat.zero_le _)) made_t) rfl (fun _ => ?_) nofun
    refine o_step (p_assign (v_call (v_cons (e_str _ _ _) (v_cons (v_var (hr_vis h2)) (v_cons (v_var (hr_vis i1)) (v_cons (v_var (hr_vis i2)) (es_nil _ _))))) e')) ?_
    exact step_end hleaf ((I.set rfl rfl rfl).up (Nat.le_add_right _ _) (Nat.le_add_right _ _)) (h_ne rfl (h_st h1)) (h_ne rfl (h_st h2)) h_eq (m'.up (by omega) (by omega))
  · refine o_if (k := false) (x := .bool false) (v_cmp (v_var (hr_vis h3)) (v_lst (es_nil _ _) (Nat.zero_le _)) (made_f _)) rfl nofun fun _ => ?_
    exact step_end hleaf (I.up (Nat.le_add_right _ _) (Nat.le_add_right _ _)) h1 h2 h3 (.inr ⟨q, r, k, t, rfl⟩)
end

set_option maxRecDepth 100000
set_option maxHeartbeats 800000
section
variable {P : List (String × Fn)} {X : CF} {W : Wd}
theorem SInv.var {S : D} {c dp : Nat} {σ : St} {x : String} {v : Bool × D} (I : SInv W S c dp σ) (h1 : ("_law_script" == x) = false) (h2 : ("_law_top" == x) = false) (h3 : ("_law_spare" == x) = false) : SInv W S c dp (setv σ x v) :=
  ⟨h_ne h1 I.sc, let ⟨q, r, k, t, h⟩ := I.tp; ⟨q, r, k, t, h_ne h2 h⟩, let ⟨q, r, k, t, h⟩ := I.sp; ⟨q, r, k, t, h_ne h3 h⟩⟩
theorem script_at (ns : List Int) {k : Nat} (h : k < ns.length) : subD (.list (ns.map .int)) (.int k) = some (.int (ns.getD k 0)) :=
  sub_l (by rw [List.length_map]; exact h) (by rw [List.getElem?_map, List.getElem?_eq_getElem h, List.getD_eq_getElem?_getD, List.getElem?_eq_getElem h]; rfl)
theorem pick_any (l : List Int) (hl : 0 < l.length) (z : Int) : ∃ w : Int, subD (.list (l.map .int)) (.int (z % (l.length : Int))) = some (.int w) := by
  obtain ⟨d, ⟨w, rfl⟩, h⟩ := list_pick (l := l.map .int) (by rw [List.length_map]; exact hl) z (R := fun d => ∃ w : Int, d = .int w) fun d hd => let ⟨w, _, e⟩ := List.mem_map.mp hd; ⟨w, e.symm⟩
  rw [List.length_map] at h
  exact ⟨w, h⟩
theorem step_turn (B : BN P) (n : Nat) {ns : List Int} {c dp : Nat} (hleaf : ∀ k : Nat, k < 3 → ∃ q r, TpA W 0 0 q r 1 ∧ (callN P X (n + 7)).call "_law_leaf" [.list (ns.map .int), .int k] = some (topD W q r 1, false)) (i : Nat) {σ : St} (I : SInv W (.list (ns.map .int)) c dp σ) :
    Out (callN P X (n + 7)) stepBody (setv σ "_law_k" (false, .int i)) fun fl σ' => (fl = .next ∧ SInv W (.list (ns.map .int)) (c + 24) (dp + 3) σ') ∨ ∃ d fr, fl = .ret fr d ∧ ∃ q r k, TpA W c dp q r k ∧ d = topD W q r k := by
  have hlen : bltD "len" [.list (ns.map .int)] = some (.int ns.length) := by show some (D.int ((ns.map D.int).length : Nat)) = _; rw [List.length_map]
  have ck := cell_at (X := X) B.toBG (n + 6) ns (7 + 2 * i)
  have e7 : ((7 + 2 * i : Nat) : Int) = 7 + 2 * (i : Int) := by omega
  rw [e7] at ck
  generalize ns.getD (7 + 2 * i) 0 = z at *
  have I0 := I.var (x := "_law_k") (v := (false, .int i)) rfl rfl rfl
  have hk0 : Has (setv σ "_law_k" (false, .int i)) "_law_k" (.int i) := h_eq
  generalize setv σ "_law_k" (false, .int i) = σ0 at *
  clear I
  obtain ⟨j0, ⟨q1, r1, k1, t1, j1⟩, ⟨q2, r2, k2, t2, j2⟩⟩ := id I0
  have fin : ∀ {σ : St} {d : D} {w : Int}, SInv W (.list (ns.map .int)) c dp σ → Has σ "_law_word" (.int w) → Has σ "_law_cell" (.int z) → Has σ "_law_made" d → Made W (c + 24) (dp + 3) d →
      Out (callN P X (n + 7)) stepMid σ fun fl σ' => (fl = .next ∧ SInv W (.list (ns.map .int)) (c + 24) (dp + 3) σ') ∨ ∃ d fr, fl = .ret fr d ∧ ∃ q r k, TpA W c dp q r k ∧ d = topD W q r k := fun I h1 h2 h3 hm =>
    let ⟨fl, σ', q, e⟩ := step_mid B n hleaf I h1 h2 h3 hm; ⟨fl, σ', .inl q, e⟩
  have hmul : binD .Mult (.int 2) (.int i) = some (.int (2 * i)) := b_mulL (by decide)
  have hcnt : evE (callN P X (n + 7)) (vis σ0) (.bin .Add (.int 6) (.bin .Mult (.int 2) (.var "_law_k"))) = some (.int (6 + 2 * (i : Int))) := v_bin (e_int _ _ _) (v_bin (e_int _ _ _) (v_var (hr_vis hk0)) hmul) b_add
  refine o_if (k := decide (6 + 2 * (i : Int) ≥ ns.length)) (v_cmp hcnt (v_blt (v_cons (v_var (hr_vis j0)) (es_nil _ _)) hlen) rfl) rfl (fun _ => ?_) fun hc => ?_
  · obtain ⟨fr, j1⟩ := j1
    exact o_retv j1 (.inr ⟨_, fr, rfl, q1, r1, k1, t1, rfl⟩)
  have hc := of_decide_eq_false hc
  have s6 := script_at ns (k := 6 + 2 * i) (by omega)
  have e6 : ((6 + 2 * i : Nat) : Int) = 6 + 2 * (i : Int) := by omega
  rw [e6] at s6
  generalize ns.getD (6 + 2 * i) 0 = y at *
  obtain ⟨w, hw⟩ := pick_any [0, 1, 8, 5, 4, 5, 6, 7, 8, 9, 9, 9, 12] (by decide) y
  have hw : subD (.list [.int 0, .int 1, .int 8, .int 5, .int 4, .int 5, .int 6, .int 7, .int 8, .int 9, .int 9, .int 9, .int 12]) (.int (y % 13)) = some (.int w) := hw
  have hb13 : 13 ≤ big := by decide
  clear hc
  have I1 := I0.set (x := "_law_word") (v := (false, .int w)) (e := .int w) (ns := ME.names (.sub (.lst [.int 0, .int 1, .int 8, .int 5, .int 4, .int 5, .int 6, .int 7, .int 8, .int 9, .int 9, .int 9, .int 12]) (.bin .Mod (.sub (.var "_law_script") (.bin .Add (.int 6) (.bin .Mult (.int 2) (.var "_law_k")))) (.int 13)))) rfl rfl rfl
  refine o_step (p_assign (d := .int w) (fr := false) (v_map (v_sub (x := .list [.int 0, .int 1, .int 8, .int 5, .int 4, .int 5, .int 6, .int 7, .int 8, .int 9, .int 9, .int 9, .int 12]) rfl (v_bin (v_sub (v_var (hr_vis j0)) hcnt s6) (e_int _ _ _) (b_mod (by decide))) hw) rfl rfl)) ?_
  have hk1 : Has (setv (settle (.int w) (ME.names (.sub (.lst [.int 0, .int 1, .int 8, .int 5, .int 4, .int 5, .int 6, .int 7, .int 8, .int 9, .int 9, .int 9, .int 12]) (.bin .Mod (.sub (.var "_law_script") (.bin .Add (.int 6) (.bin .Mult (.int 2) (.var "_law_k")))) (.int 13)))) σ0) "_law_word" (false, .int w)) "_law_k" (.int i) := h_ne rfl (h_st hk0)
  have hw1 : Has (setv (settle (.int w) (ME.names (.sub (.lst [.int 0, .int 1, .int 8, .int 5, .int 4, .int 5, .int 6, .int 7, .int 8, .int 9, .int 9, .int 9, .int 12]) (.bin .Mod (.sub (.var "_law_script") (.bin .Add (.int 6) (.bin .Mult (.int 2) (.var "_law_k")))) (.int 13)))) σ0) "_law_word" (false, .int w)) "_law_word" (.int w) := h_eq
  generalize setv (settle (.int w) (ME.names (.sub (.lst [.int 0, .int 1, .int 8, .int 5, .int 4, .int 5, .int 6, .int 7, .int 8, .int 9, .int 9, .int 9, .int 12]) (.bin .Mod (.sub (.var "_law_script") (.bin .Add (.int 6) (.bin .Mult (.int 2) (.var "_law_k")))) (.int 13)))) σ0) "_law_word" (false, .int w) = σ1 at *
  clear j0 t1 j1 t2 j2 hk0 hcnt I0
  have I2 := I1.set (x := "_law_cell") (v := (false, .int z)) (e := .int z) (ns := ME.names (.call "_law_cell_at" [.var "_law_script", .bin .Add (.int 7) (.bin .Mult (.int 2) (.var "_law_k"))])) rfl rfl rfl
  refine o_step (p_assign (d := .int z) (fr := false) (v_call (v_cons (v_var (hr_vis I1.sc)) (v_cons (v_bin (e_int _ _ _) (v_bin (e_int _ _ _) (v_var (hr_vis hk1)) hmul) b_add) (es_nil _ _))) ck)) ?_
  have I3 := I2.set (x := "_law_made") (v := (true, .list [])) (e := .list []) (ns := ME.names (.lst [])) rfl rfl rfl
  refine o_step (p_assign (d := .list []) (fr := true) rfl) ?_
  have hw3 := h_ne (x := "_law_word") (y := "_law_made") (v := (true, .list [])) rfl (h_st (e := .list []) (ns := ME.names (.lst [])) (h_ne (x := "_law_word") (y := "_law_cell") (v := (false, .int z)) rfl (h_st (e := .int z) (ns := ME.names (.call "_law_cell_at" [.var "_law_script", .bin .Add (.int 7) (.bin .Mult (.int 2) (.var "_law_k"))])) hw1)))
  have hz3 := h_ne (x := "_law_cell") (y := "_law_made") (v := (true, .list [])) rfl (h_st (e := .list []) (ns := ME.names (.lst [])) (h_eq (σ := settle (.int z) (ME.names (.call "_law_cell_at" [.var "_law_script", .bin .Add (.int 7) (.bin .Mult (.int 2) (.var "_law_k"))])) σ1) (x := "_law_cell") (fr := false) (d := .int z)))
  have hm3 := h_eq (σ := settle (.list []) (ME.names (.lst [])) (setv (settle (.int z) (ME.names (.call "_law_cell_at" [.var "_law_script", .bin .Add (.int 7) (.bin .Mult (.int 2) (.var "_law_k"))])) σ1) "_law_cell" (false, .int z))) (x := "_law_made") (fr := true) (d := .list [])
  generalize setv (settle (.list []) (ME.names (.lst [])) (setv (settle (.int z) (ME.names (.call "_law_cell_at" [.var "_law_script", .bin .Add (.int 7) (.bin .Mult (.int 2) (.var "_law_k"))])) σ1) "_law_cell" (false, .int z))) "_law_made" (true, .list []) = σ3 at *
  clear I1 I2 hk1 hw1 hlen s6 ck hw
  obtain ⟨j0, ⟨q1, r1, k1, t1, j1⟩, ⟨q2, r2, k2, t2, j2⟩⟩ := id I3
  refine o_if (k := decide (w < 9)) (v_cmp (v_var (hr_vis hw3)) (e_int _ _ _) rfl) rfl (fun _ => ?_) fun _ => ?_
  · obtain ⟨qa, ra, ta, ea⟩ := around_eq (X := X) B (n + 1) w z t1
    refine o_step (p_assign (d := .list [topD W qa ra k1]) (fr := true) (v_map (v_lst (v_cons (v_callE (v_cons (v_var (hr_vis hw3)) (v_cons (v_var (hr_vis hz3)) (v_cons (v_var (hr_vis j1)) (es_nil _ _)))) ea) (es_nil _ _)) (Nat.le_of_ble_eq_true rfl)) rfl rfl)) ?_
    have I4 := I3.set (x := "_law_made") (v := (true, .list [topD W qa ra k1])) (e := .list [topD W qa ra k1]) (ns := ME.names (.lst [.call "_law_around" [.var "_law_word", .var "_law_cell", .var "_law_top"]])) rfl rfl rfl
    refine o_if (k := (w == 8 || w == 5) && decide (z % 4 > 0)) (v_and (k := w == 8 || w == 5) (l := decide (z % 4 > 0)) (v_or (k := w == 8) (l := w == 5) (v_cmp (v_var (hr_vis (h_ne rfl (h_st hw3)))) (e_int _ _ _) rfl) fun _ => v_bop1 (v_cmp (v_var (hr_vis (h_ne rfl (h_st hw3)))) (e_int _ _ _) rfl)) fun _ => v_bop1 (v_cmp (v_bin (v_var (hr_vis (h_ne rfl (h_st hz3)))) (e_int _ _ _) (b_mod (by decide))) (e_int _ _ _) rfl)) rfl (fun _ => ?_) fun _ => ?_
    · obtain ⟨qb, rb, tb, eb⟩ := sieve_on (X := X) B n z ta
      refine o_step (p_assign (d := .list [topD W qb rb k1]) (fr := true) (v_map (v_lst (v_cons (v_callE (v_cons (v_sub (x := .list [topD W qa ra k1]) (y := .int 0) (v_var (hr_vis h_eq)) (e_int _ _ _) rfl) (v_cons (v_var (hr_vis (h_ne rfl (h_st hz3)))) (es_nil _ _))) eb) (es_nil _ _)) (Nat.le_of_ble_eq_true rfl)) rfl rfl)) ?_
      exact fin (I4.set rfl rfl rfl) (h_ne rfl (h_st (h_ne rfl (h_st hw3)))) (h_ne rfl (h_st (h_ne rfl (h_st hz3)))) h_eq (.inr ⟨qb, rb, k1, tb.up (by omega) (by omega), rfl⟩)
    · exact fin I4 (h_ne rfl (h_st hw3)) (h_ne rfl (h_st hz3)) h_eq (.inr ⟨qa, ra, k1, ta.up (by omega) (by omega), rfl⟩)
  · refine o_if (k := decide (w < 12)) (v_cmp (v_var (hr_vis hw3)) (e_int _ _ _) rfl) rfl (fun _ => ?_) fun _ => ?_
    · obtain ⟨d, fr, m, u1, u2, hd, hu1, hu2, e2⟩ : ∃ d fr, ∃ m : Nat, ∃ u1 u2 : D, Made W (c + 12) (dp + 2) d ∧ subD (.list [topD W q1 r1 k1, topD W q2 r2 k2]) (.int (z / 2 % 2)) = some u1 ∧ subD (.list [topD W q2 r2 k2, topD W q1 r1 k1]) (.int (z / 2 % 2)) = some u2 ∧ (callN P X (n + 7)).call "_law_of_two" [sD "join", .int z, u1, u2] = some (d, fr) := by
        rcases (show z / 2 % 2 = 0 ∨ z / 2 % 2 = 1 by omega) with e | e
        · rw [e]
          obtain ⟨d, fr, h1, h2⟩ := two_join_eq (X := X) B (n + 4) z t1 t2
          exact ⟨d, fr, 0, _, _, h1, rfl, rfl, h2⟩
        · rw [e]
          obtain ⟨d, fr, h1, h2⟩ := two_join_eq (X := X) B (n + 4) z t2 t1
          exact ⟨d, fr, 0, _, _, h1, rfl, rfl, h2⟩
      have hdiv : evE (callN P X (n + 7)) (vis σ3) (.bin .Mod (.bin .FloorDiv (.var "_law_cell") (.int 2)) (.int 2)) = some (.int (z / 2 % 2)) := v_bin (v_bin (v_var (hr_vis hz3)) (e_int _ _ _) (b_div (by decide))) (e_int _ _ _) (b_mod (by decide))
      refine o_step (p_assign (v_call (v_cons (e_str _ _ _) (v_cons (v_var (hr_vis hz3)) (v_cons (v_sub (v_lst (v_cons (v_var (hr_vis j1)) (v_cons (v_var (hr_vis j2)) (es_nil _ _))) (Nat.le_of_ble_eq_true rfl)) hdiv hu1) (v_cons (v_sub (v_lst (v_cons (v_var (hr_vis j2)) (v_cons (v_var (hr_vis j1)) (es_nil _ _))) (Nat.le_of_ble_eq_true rfl)) hdiv hu2) (es_nil _ _))))) e2)) ?_
      rcases hd with rfl | ⟨q, r, k, t, rfl⟩
      · refine o_if (k := false) (x := .bool (false && false)) (v_and (k := false) (l := false) (v_cmp (v_var (hr_vis h_eq)) (v_lst (es_nil _ _) (Nat.zero_le _)) made_nf) nofun) rfl nofun fun _ => ?_
        exact fin (I3.set rfl rfl rfl) (h_ne rfl (h_st hw3)) (h_ne rfl (h_st hz3)) h_eq (.inl rfl)
      · refine o_if (k := true && decide (z % 4 > 0)) (v_and (k := true) (l := decide (z % 4 > 0)) (v_cmp (v_var (hr_vis h_eq)) (v_lst (es_nil _ _) (Nat.zero_le _)) (made_nt _)) fun _ => v_bop1 (v_cmp (v_bin (v_var (hr_vis (h_ne rfl (h_st hz3)))) (e_int _ _ _) (b_mod (by decide))) (e_int _ _ _) rfl)) rfl (fun _ => ?_) fun _ => ?_
        · obtain ⟨qb, rb, tb, eb⟩ := sieve_on (X := X) B n z t
          refine o_step (p_assign (d := .list [topD W qb rb k]) (fr := true) (v_map (v_lst (v_cons (v_callE (v_cons (v_sub (x := .list [topD W q r k]) (y := .int 0) (v_var (hr_vis h_eq)) (e_int _ _ _) rfl) (v_cons (v_var (hr_vis (h_ne rfl (h_st hz3)))) (es_nil _ _))) eb) (es_nil _ _)) (Nat.le_of_ble_eq_true rfl)) rfl rfl)) ?_
          exact fin ((I3.set rfl rfl rfl).set rfl rfl rfl) (h_ne rfl (h_st (h_ne rfl (h_st hw3)))) (h_ne rfl (h_st (h_ne rfl (h_st hz3)))) h_eq (.inr ⟨qb, rb, k, tb.up (by omega) (by omega), rfl⟩)
        · exact fin (I3.set rfl rfl rfl) (h_ne rfl (h_st hw3)) (h_ne rfl (h_st hz3)) h_eq (.inr ⟨q, r, k, t.up (by omega) (by omega), rfl⟩)
    · refine o_if (k := z % 3 == 1) (v_cmp (v_bin (v_var (hr_vis hz3)) (e_int _ _ _) (b_mod (by decide))) (e_int _ _ _) rfl) rfl (fun _ => ?_) fun _ => fin I3 hw3 hz3 hm3 (.inl rfl)
      obtain ⟨v, hv⟩ := pick_any [0, 6, 7] (by decide) (z / 3)
      have hv : subD (.list [.int 0, .int 6, .int 7]) (.int (z / 3 % 3)) = some (.int v) := hv
      obtain ⟨x5, _, m5⟩ := mixed (X := X) B.toBG (n + 6) z 5
      obtain ⟨qa, ra, ta, ea⟩ := around_eq (X := X) B (n + 1) v x5 t1
      obtain ⟨d, fr, hd, e2⟩ := two_both_eq (X := X) B (n + 4) z (t1.up (Nat.le_add_right _ 12) (Nat.le_succ _)) ta
      refine o_step (p_assign (v_call (v_cons (e_str _ _ _) (v_cons (v_var (hr_vis hz3)) (v_cons (v_var (hr_vis j1)) (v_cons (v_callE (v_cons (v_sub (x := .list [.int 0, .int 6, .int 7]) (y := .int (z / 3 % 3)) rfl (v_bin (v_bin (v_var (hr_vis hz3)) (e_int _ _ _) (b_div (by decide))) (e_int _ _ _) (b_mod (by decide))) hv) (v_cons (v_callE (v_cons (v_var (hr_vis hz3)) (v_cons (e_int _ _ _) (es_nil _ _))) m5) (v_cons (v_var (hr_vis j1)) (es_nil _ _)))) ea) (es_nil _ _))))) e2)) ?_
      exact fin (I3.set rfl rfl rfl) (h_ne rfl (h_st hw3)) (h_ne rfl (h_st hz3)) h_eq (hd.up (by omega) (by omega))
end

set_option maxRecDepth 100000
set_option maxHeartbeats 800000
noncomputable def built9 : List MS := [.for_ "_law_k" (.blt "range" [.var "_law_many_here"]) [.assign "_law_top" (.call "_law_around" [.bin .Mod (.call "_law_mixed" [.var "_law_cell", .var "_law_k"]) (.int 9), .call "_law_mixed" [.var "_law_cell", .bin .Add (.int 50) (.var "_law_k")], .var "_law_top"])], .ret (.var "_law_top")]
noncomputable def built8 : List MS := .ite (.cmp .Eq (.bin .Mod (.var "_law_cell") (.int 32)) (.int 5)) [.assign "_law_top" (.call "_law_leaf" [.var "_law_script", .int 0]), .assign "_law_many_here" (.int 38)] [] :: built9
noncomputable def built5 : List MS := .assign "_law_cell" (.bin .FloorDiv (.call "_law_cell_at" [.var "_law_script", .int 1]) (.int 35)) :: .assign "_law_many_here" (.int 0) :: .ite (.cmp .Eq (.bin .Mod (.var "_law_cell") (.int 8)) (.int 1)) [.assign "_law_many_here" (.bin .Mod (.bin .FloorDiv (.var "_law_cell") (.int 8)) (.int 8))] [] :: built8
noncomputable def built4 : List MS := .ite (.cmp .Gt (.bin .Mod (.var "_law_last") (.int 3)) (.int 0)) [.assign "_law_top" (.call "_law_around" [.int 0, .bin .Add (.bin .Mult (.bin .FloorDiv (.call "_law_mixed" [.var "_law_last", .int 9]) (.int 4)) (.int 4)) (.int 2), .var "_law_top"])] [] :: built5
section
variable {P : List (String × Fn)} {X : CF} {W : Wd}
noncomputable def IsTop (W : Wd) (c dp : Nat) (d : D) : Prop := ∃ q r k, TpA W c dp q r k ∧ d = topD W q r k
theorem IsTop.up {c dp c' dp' : Nat} {d : D} (h : IsTop W c dp d) (h1 : c ≤ c') (h2 : dp ≤ dp') : IsTop W c' dp' d := let ⟨q, r, k, t, e⟩ := h; ⟨q, r, k, t.up h1 h2, e⟩
theorem stepped_eq (B : BE P) (n : Nat) {ns : List Int} (hleaf : ∀ k : Nat, k < 3 → ∃ q r, TpA W 0 0 q r 1 ∧ (callN P X (n + 7)).call "_law_leaf" [.list (ns.map .int), .int k] = some (topD W q r 1, false)) :
    ∃ d fr, IsTop W 216 27 d ∧ (callN P X (n + 8)).call "_law_stepped" [.list (ns.map .int)] = some (d, fr) := by
  have c2 : (callN P X (n + 7)).call "_law_cell_at" [.list (ns.map .int), .int 2] = some (.int (ns.getD 2 0), false) := cell_at (X := X) B.toBG (n + 6) ns 2
  obtain ⟨q0, r0, t0, l0⟩ := hleaf 0 (by decide)
  obtain ⟨q1, r1, t1, l1⟩ := hleaf 1 (by decide)
  have turn := fun k i σ (I : SInv W (.list (ns.map .int)) (24 * k) (3 * k) σ) => step_turn B.toBN n hleaf (c := 24 * k) (dp := 3 * k) i I
  generalize ns.getD 2 0 = z at *
  generalize D.list (ns.map .int) = S at *
  obtain ⟨d, ⟨m, rfl, hm⟩, hd⟩ := list_pick (l := [.int 3, .int 5, .int 2, .int 9]) (by decide) z (R := fun d => ∃ m : Nat, d = .int m ∧ m ≤ 9) (by
    intro d hd
    simp only [List.mem_cons, List.not_mem_nil, or_false] at hd
    rcases hd with rfl | rfl | rfl | rfl <;> first | exact ⟨3, rfl, by decide⟩ | exact ⟨5, rfl, by decide⟩ | exact ⟨2, rfl, by decide⟩ | exact ⟨9, rfl, by decide⟩)
  have hd : subD (.list [.int 3, .int 5, .int 2, .int 9]) (.int (z % 4)) = some (.int m) := hd
  have hb : 9 ≤ big := by decide
  refine rex_call (X := X) (args := [S]) B.st rfl ?_
  refine q_step (p_assign (v_call (v_cons (d := S) rfl (v_cons (d := .int 0) rfl (es_nil _ _))) l0)) ?_
  refine q_step (p_assign (v_call (v_cons (d := S) rfl (v_cons (d := .int 1) rfl (es_nil _ _))) l1)) ?_
  generalize hσ : setv (settle (topD W q1 r1 1) (ME.names (.call "_law_leaf" [.var "_law_script", .int 1])) (setv (settle (topD W q0 r0 1) (ME.names (.call "_law_leaf" [.var "_law_script", .int 0])) _) "_law_top" (false, topD W q0 r0 1))) "_law_spare" (false, topD W q1 r1 1) = σ
  have i1 : Has σ "_law_script" S := by rw [← hσ]; exact ⟨_, rfl⟩
  have i2 : Has σ "_law_top" (topD W q0 r0 1) := by rw [← hσ]; exact ⟨_, rfl⟩
  have i3 : Has σ "_law_spare" (topD W q1 r1 1) := by rw [← hσ]; exact ⟨_, rfl⟩
  obtain ⟨σ', c⟩ := loop_out (cf := callN P X (n + 7)) (body := stepBody) (z := "_law_k") (fun k σ => SInv W S (24 * k) (3 * k) σ) (fun d _ => IsTop W 216 27 d) m ((List.range m).map fun (i : Nat) => D.int (i : Int)) 0 (freeze (ME.names (.blt "range" [.sub (.lst [.int 3, .int 5, .int 2, .int 9]) (.bin .Mod (.call "_law_cell_at" [.var "_law_script", .int 2]) (.int 4))])) σ) (by rw [List.length_map, List.length_range]; omega) ⟨h_fr i1, ⟨q0, r0, 1, t0, h_fr i2⟩, ⟨q1, r1, 1, t1, h_fr i3⟩⟩ (by
    intro k it σ hk hit I
    obtain ⟨i, _, rfl⟩ := List.mem_map.mp hit
    obtain ⟨fl, σ', q, e⟩ := turn k i σ I
    refine ⟨fl, σ', ?_, e⟩
    rcases q with q | ⟨d, fr, h1, q, r, k', t, h2⟩
    · exact .inl q
    · exact .inr ⟨d, fr, h1, q, r, k', t.up (by omega) (by omega), h2⟩)
  have hsrc : evE (callN P X (n + 7)) (vis σ) (.blt "range" [.sub (.lst [.int 3, .int 5, .int 2, .int 9]) (.bin .Mod (.call "_law_cell_at" [.var "_law_script", .int 2]) (.int 4))]) = some (.rng 0 m) :=
    v_blt (v_cons (v_sub (x := .list [.int 3, .int 5, .int 2, .int 9]) rfl (v_bin (v_callE (v_cons (v_var (hr_vis i1)) (v_cons (e_int _ _ _) (es_nil _ _))) c2) (e_int _ _ _) (b_mod (by decide))) hd) (es_nil _ _)) (blt_rng (Nat.le_trans hm hb))
  rcases c with ⟨I, e⟩ | ⟨d, fr, h, e⟩
  · refine q_for hsrc (items_rng m) e ?_
    obtain ⟨q, r, k, t, fr, h⟩ := I.tp
    rw [List.length_map, List.length_range, Nat.zero_add] at t
    exact q_retv h ⟨q, r, k, t.up (by omega) (by omega), rfl⟩
  · exact q_forR hsrc (items_rng m) e h
theorem built_loop (B : BN P) (n : Nat) {c dp m : Nat} (hm : m ≤ 38) {z : Int} {σ : St} {d : D} (hd : IsTop W c dp d) (h1 : Has σ "_law_cell" (.int z)) (h2 : Has σ "_law_top" d) (h3 : Has σ "_law_many_here" (.int m)) : Rex (callN P X (n + 6)) built9 σ fun d _ => IsTop W (c + 12 * m) (dp + m) d := by
  have hb : 38 ≤ big := by decide
  obtain ⟨σ', e⟩ := loop_out (cf := callN P X (n + 6)) (body := [.assign "_law_top" (.call "_law_around" [.bin .Mod (.call "_law_mixed" [.var "_law_cell", .var "_law_k"]) (.int 9), .call "_law_mixed" [.var "_law_cell", .bin .Add (.int 50) (.var "_law_k")], .var "_law_top"])]) (z := "_law_k") (fun k σ => Has σ "_law_cell" (.int z) ∧ ∃ d, IsTop W (c + 12 * k) (dp + k) d ∧ Has σ "_law_top" d) (fun _ _ => False) m ((List.range m).map fun (i : Nat) => D.int (i : Int)) 0 (freeze (ME.names (.blt "range" [.var "_law_many_here"])) σ) (by rw [List.length_map, List.length_range]; omega) ⟨h_fr h1, d, hd, h_fr h2⟩ (by
    rintro k it σ hk hit ⟨i1, d, ⟨q, r, k', t, rfl⟩, i2⟩
    obtain ⟨i, _, rfl⟩ := List.mem_map.mp hit
    obtain ⟨x, _, mx⟩ := mixed (X := X) B.toBG (n + 5) z i
    obtain ⟨y, _, my⟩ := mixed (X := X) B.toBG (n + 5) z (50 + i)
    obtain ⟨q', r', t', e'⟩ := around_eq (X := X) B n (x % 9) y t
    have hz := h_ne (y := "_law_k") (v := (false, .int i)) rfl i1
    have ht := h_ne (y := "_law_k") (v := (false, .int i)) rfl i2
    have hi : Has (setv σ "_law_k" (false, .int i)) "_law_k" (.int i) := h_eq
    generalize setv σ "_law_k" (false, .int i) = σ at *
    refine o_step (p_assign (v_call (v_cons (v_bin (v_callE (v_cons (v_var (hr_vis hz)) (v_cons (v_var (hr_vis hi)) (es_nil _ _))) mx) (e_int _ _ _) (b_mod (by decide))) (v_cons (v_callE (v_cons (v_var (hr_vis hz)) (v_cons (v_bin (e_int _ _ _) (v_var (hr_vis hi)) b_add) (es_nil _ _))) my) (v_cons (v_var (hr_vis ht)) (es_nil _ _)))) e')) ?_
    exact o_nil (.inl ⟨rfl, h_ne rfl (h_st hz), _, ⟨q', r', k', t'.up (by omega) (by omega), rfl⟩, h_eq⟩))
  rcases e with ⟨⟨_, d, hd, fr, h⟩, e⟩ | ⟨_, _, h, _⟩
  · refine q_for (v_blt (v_cons (v_var (hr_vis h3)) (es_nil _ _)) (blt_rng (Nat.le_trans hm hb))) (items_rng m) e ?_
    rw [List.length_map, List.length_range, Nat.zero_add] at hd
    exact q_retv h hd
  · exact h.elim
theorem built_eq (B : BE P) (n : Nat) {ns : List Int} (hleaf : ∀ n, ∀ k : Nat, k < 3 → ∃ q r, TpA W 0 0 q r 1 ∧ (callN P X (n + 3)).call "_law_leaf" [.list (ns.map .int), .int k] = some (topD W q r 1, false)) :
    ∃ d fr, IsTop W 456 38 d ∧ (callN P X (n + 9)).call "_law_built" [.list (ns.map .int)] = some (d, fr) := by
  have c5 : (callN P X (n + 8)).call "_law_cell_at" [.list (ns.map .int), .int 5] = some (.int (ns.getD 5 0), false) := cell_at (X := X) B.toBG (n + 7) ns 5
  have c1 : (callN P X (n + 8)).call "_law_cell_at" [.list (ns.map .int), .int 1] = some (.int (ns.getD 1 0), false) := cell_at (X := X) B.toBG (n + 7) ns 1
  obtain ⟨d0, fr0, hd0, e0⟩ := stepped_eq (X := X) B n (hleaf (n + 4))
  obtain ⟨ql, rl, tl, el⟩ := hleaf (n + 5) 0 (by decide)
  generalize ns.getD 5 0 = y at *
  generalize ns.getD 1 0 = z at *
  generalize D.list (ns.map .int) = S at *
  have t8 : ∀ {σ : St} {d : D} {m : Nat}, m ≤ 7 → IsTop W 240 29 d → Has σ "_law_script" S → Has σ "_law_cell" (.int (z / 35)) → Has σ "_law_top" d → Has σ "_law_many_here" (.int m) → Rex (callN P X (n + 8)) built8 σ fun d _ => IsTop W 456 38 d := by
    intro σ d m hm hd i1 i2 i3 i4
    refine q_if (k := z / 35 % 32 == 5) (v_cmp (v_bin (v_var (hr_vis i2)) (e_int _ _ _) (b_mod (by decide))) (e_int _ _ _) rfl) rfl (fun _ => ?_) fun _ => ?_
    · refine q_step (p_assign (v_call (v_cons (v_var (hr_vis i1)) (v_cons (e_int _ _ _) (es_nil _ _))) el)) ?_
      refine q_step (p_assign (d := .int (38 : Nat)) (fr := false) rfl) ?_
      obtain ⟨d, fr, h, r⟩ := built_loop (X := X) (W := W) B.toBN (n + 2) (m := 38) (c := 0) (dp := 0) (by decide) ⟨ql, rl, 1, tl, rfl⟩ (h_ne rfl (h_st (h_ne rfl (h_st i2)))) (h_ne rfl (h_st h_eq)) h_eq
      exact ⟨d, fr, h.up (by omega) (by omega), r⟩
    · obtain ⟨d, fr, h, r⟩ := built_loop (X := X) (W := W) B.toBN (n + 2) (by omega) hd i2 i3 i4
      exact ⟨d, fr, h.up (by omega) (by omega), r⟩
  have t5 : ∀ {σ : St} {d : D}, IsTop W 240 29 d → Has σ "_law_script" S → Has σ "_law_top" d → Rex (callN P X (n + 8)) built5 σ fun d _ => IsTop W 456 38 d := by
    intro σ d hd i1 i2
    refine q_step (p_assign (d := .int (z / 35)) (fr := false) (v_map (v_bin (v_callE (v_cons (v_var (hr_vis i1)) (v_cons (e_int _ _ _) (es_nil _ _))) c1) (e_int _ _ _) (b_div (by decide))) rfl rfl)) ?_
    refine q_step (p_assign (d := .int (0 : Nat)) (fr := false) rfl) ?_
    refine q_if (k := z / 35 % 8 == 1) (v_cmp (v_bin (v_var (hr_vis (h_ne rfl (h_st h_eq)))) (e_int _ _ _) (b_mod (by decide))) (e_int _ _ _) rfl) rfl (fun _ => ?_) fun _ => ?_
    · obtain ⟨m, em, hm⟩ := emod_nat (z / 35 / 8) (k := 8) (by decide)
      have hx : binD .Mod (.int (z / 35 / 8)) (.int 8) = some (.int m) := by rw [← em]; exact b_mod (by decide)
      refine q_step (p_assign (d := .int m) (fr := false) (v_map (v_bin (v_bin (v_var (hr_vis (h_ne rfl (h_st h_eq)))) (e_int _ _ _) (b_div (by decide))) (e_int _ _ _) hx) rfl rfl)) ?_
      exact t8 (m := m) (by omega) hd (h_ne rfl (h_st (h_ne rfl (h_st (h_ne rfl (h_st i1)))))) (h_ne rfl (h_st (h_ne rfl (h_st h_eq)))) (h_ne rfl (h_st (h_ne rfl (h_st (h_ne rfl (h_st i2)))))) h_eq
    · exact t8 (m := 0) (by omega) hd (h_ne rfl (h_st (h_ne rfl (h_st i1)))) (h_ne rfl (h_st h_eq)) (h_ne rfl (h_st (h_ne rfl (h_st i2)))) h_eq
  have t4 : ∀ {σ : St} {d : D}, IsTop W 228 28 d → Has σ "_law_script" S → Has σ "_law_last" (.int y) → Has σ "_law_top" d → Rex (callN P X (n + 8)) built4 σ fun d _ => IsTop W 456 38 d := by
    intro σ d hd i1 i3 i2
    refine q_if (k := decide (y % 3 > 0)) (v_cmp (v_bin (v_var (hr_vis i3)) (e_int _ _ _) (b_mod (by decide))) (e_int _ _ _) rfl) rfl (fun _ => ?_) fun _ => t5 (hd.up (by omega) (by omega)) i1 i2
    obtain ⟨q, r, k, t, rfl⟩ := hd
    obtain ⟨x, _, mx⟩ := mixed (X := X) B.toBG (n + 7) y 9
    obtain ⟨q', r', t', e'⟩ := around_eq (X := X) B.toBN (n + 2) 0 (x / 4 * 4 + 2) t
    refine q_step (p_assign (v_call (v_cons (e_int _ _ _) (v_cons (v_bin (v_bin (v_bin (v_callE (v_cons (v_var (hr_vis i3)) (v_cons (e_int _ _ _) (es_nil _ _))) mx) (e_int _ _ _) (b_div (by decide))) (e_int _ _ _) (b_mul (by decide))) (e_int _ _ _) b_add) (v_cons (v_var (hr_vis i2)) (es_nil _ _)))) e')) ?_
    exact t5 ⟨q', r', k, t', rfl⟩ (h_ne rfl (h_st i1)) h_eq
  have hq : ∀ {σ : St}, Has σ "_law_last" (.int y) → evE (callN P X (n + 8)) (vis σ) (.bin .Mod (.bin .FloorDiv (.var "_law_last") (.int 3)) (.int 3)) = some (.int (y / 3 % 3)) := fun i => v_bin (v_bin (v_var (hr_vis i)) (e_int _ _ _) (b_div (by decide))) (e_int _ _ _) (b_mod (by decide))
  refine rex_call (X := X) (args := [S]) B.bu rfl ?_
  refine q_step (p_assign (v_call (v_cons (d := S) rfl (es_nil _ _)) e0)) ?_
  refine q_step (p_assign (v_call (v_cons (v_var (hr_vis (h_ne rfl (h_st h_cons)))) (v_cons (e_int _ _ _) (es_nil _ _))) c5)) ?_
  refine q_if (k := y / 3 % 3 == 1) (v_cmp (hq h_eq) (e_int _ _ _) rfl) rfl (fun h1 => ?_) fun _ => ?_
  · obtain ⟨q, r, k, t, rfl⟩ := hd0
    obtain ⟨q', r', t', e'⟩ := around_eq (X := X) B.toBN (n + 2) 8 (y / 9 % 3) t
    refine q_step (p_assign (v_call (v_cons (e_int _ _ _) (v_cons (v_bin (v_bin (v_var (hr_vis h_eq)) (e_int _ _ _) (b_div (by decide))) (e_int _ _ _) (b_mod (by decide))) (v_cons (v_var (hr_vis (h_ne rfl (h_st h_eq)))) (es_nil _ _)))) e')) ?_
    rw [beq_iff_eq] at h1
    refine q_if (k := false) (x := .bool false) (v_cmp (hq (h_ne rfl (h_st h_eq))) (e_int _ _ _) (by rw [h1]; rfl)) rfl nofun fun _ => ?_
    exact t4 ⟨q', r', k, t', rfl⟩ (h_ne rfl (h_st (h_ne rfl (h_st (h_ne rfl (h_st h_cons)))))) (h_ne rfl (h_st h_eq)) h_eq
  · refine q_if (k := y / 3 % 3 == 2) (v_cmp (hq h_eq) (e_int _ _ _) rfl) rfl (fun _ => ?_) fun _ => t4 (hd0.up (by omega) (by omega)) (h_ne rfl (h_st (h_ne rfl (h_st h_cons)))) h_eq (h_ne rfl (h_st h_eq))
    obtain ⟨q, r, k, t, rfl⟩ := hd0
    obtain ⟨x, _, mx⟩ := mixed (X := X) B.toBG (n + 7) y 4
    obtain ⟨q', r', t', e'⟩ := around_eq (X := X) B.toBN (n + 2) 5 (x / 4 * 4 + 1) t
    refine q_step (p_assign (v_call (v_cons (e_int _ _ _) (v_cons (v_bin (v_bin (v_bin (v_callE (v_cons (v_var (hr_vis h_eq)) (v_cons (e_int _ _ _) (es_nil _ _))) mx) (e_int _ _ _) (b_div (by decide))) (e_int _ _ _) (b_mul (by decide))) (e_int _ _ _) b_add) (v_cons (v_var (hr_vis (h_ne rfl (h_st h_eq)))) (es_nil _ _)))) e')) ?_
    exact t4 ⟨q', r', k, t', rfl⟩ (h_ne rfl (h_st (h_ne rfl (h_st (h_ne rfl (h_st h_cons)))))) (h_ne rfl (h_st h_eq)) h_eq
end

set_option maxRecDepth 100000
set_option maxHeartbeats 400000
noncomputable def fn_law_number : Fn := ⟨["_law_found", "_law_many_here"], [
    .ret (.bop .And [.isi (.var "_law_found") "int", .not (.isi (.var "_law_found") "bool"), .cc .LtE .Lt (.int 0) (.var "_law_found") (.var "_law_many_here")])]⟩
noncomputable def fn_law_places : Fn := ⟨["_law_clause"], [
    .ret (.bin .Add (.comp (.sub (.var "_law_one") (.int 1)) "_law_one" (.var "_law_clause") []) (.comp (.sub (.var "_law_one") (.int 3)) "_law_one" (.var "_law_clause") [.cmp .Eq (.sub (.var "_law_one") (.int 2)) (.str "col")]))]⟩
noncomputable def fn_law_one_right : Fn := ⟨["_law_one", "_law_many_here"], [
    .ite (.bop .Or [.not (.isi (.var "_law_one") "tuple"), .cmp .NotEq (.blt "len" [.var "_law_one"]) (.int 4), .not (.isi (.sub (.var "_law_one") (.int 0)) "str"), .not (.isi (.sub (.var "_law_one") (.int 2)) "str")]) [.ret (.bool false)] [],
    .ite (.cmp .NotIn (.sub (.var "_law_one") (.int 0)) (.tup [.str "same", .str "unlike", .str "before", .str "upto", .str "behind", .str "from"])) [.ret (.bool false)] [],
    .ite (.cmp .Eq (.sub (.var "_law_one") (.int 2)) (.str "col")) [.ret (.bop .And [.call "_law_number" [.sub (.var "_law_one") (.int 1), .var "_law_many_here"], .call "_law_number" [.sub (.var "_law_one") (.int 3), .var "_law_many_here"]])] [],
    .ret (.bop .And [.cmp .Eq (.sub (.var "_law_one") (.int 2)) (.str "is"), .call "_law_number" [.sub (.var "_law_one") (.int 1), .var "_law_many_here"]])]⟩
noncomputable def fn_law_clauses_right : Fn := ⟨["_law_clauses", "_law_many_here"], [
    .ite (.bop .Or [.not (.isi (.var "_law_clauses") "tuple"), .cmp .Eq (.var "_law_clauses") (.tup [])]) [.ret (.bool false)] [],
    .for_ "_law_clause" (.var "_law_clauses") [.ite (.bop .Or [.not (.isi (.var "_law_clause") "tuple"), .comp (.var "_law_one") "_law_one" (.var "_law_clause") [.not (.call "_law_one_right" [.var "_law_one", .var "_law_many_here"])]]) [.ret (.bool false)] []],
    .ret (.bool true)]⟩
noncomputable def fn_law_width : Fn := ⟨["_law_query", "_law_widths_here"], [
    .ite (.cmp .Eq (.sub (.var "_law_query") (.int 0)) (.str "table")) [.ret (.sub (.var "_law_widths_here") (.sub (.var "_law_query") (.int 1)))] [],
    .ite (.cmp .Eq (.sub (.var "_law_query") (.int 0)) (.str "join")) [.ret (.bin .Add (.call "_law_width" [.sub (.var "_law_query") (.int 1), .var "_law_widths_here"]) (.call "_law_width" [.sub (.var "_law_query") (.int 2), .var "_law_widths_here"]))] [],
    .ite (.bop .Or [.cmp .Eq (.sub (.var "_law_query") (.int 0)) (.str "both"), .cmp .Eq (.sub (.var "_law_query") (.int 0)) (.str "once")]) [.ret (.call "_law_width" [.sub (.var "_law_query") (.int 1), .var "_law_widths_here"])] [],
    .ite (.cmp .Eq (.sub (.var "_law_query") (.int 0)) (.str "pick")) [.ret (.blt "len" [.sub (.var "_law_query") (.int 1)])] [],
    .ite (.cmp .Eq (.sub (.var "_law_query") (.int 0)) (.str "group")) [.ret (.bin .Add (.blt "len" [.sub (.var "_law_query") (.int 1)]) (.blt "len" [.sub (.var "_law_query") (.int 2)]))] [],
    .ret (.call "_law_width" [.sub (.var "_law_query") (.int 2), .var "_law_widths_here"])]⟩
noncomputable def fn_law_goes_on : Fn := ⟨["_law_clause", "_law_query", "_law_widths_here"], [
    .assign "_law_places_here" (.call "_law_places" [.var "_law_clause"]),
    .ite (.cmp .Eq (.sub (.var "_law_query") (.int 0)) (.str "group")) [.ret (.not (.comp (.var "_law_place") "_law_place" (.var "_law_places_here") [.cmp .GtE (.var "_law_place") (.blt "len" [.sub (.var "_law_query") (.int 1)])]))] [],
    .ite (.cmp .Eq (.sub (.var "_law_query") (.int 0)) (.str "join")) [.assign "_law_many_here" (.call "_law_width" [.sub (.var "_law_query") (.int 1), .var "_law_widths_here"]), .assign "_law_low" (.comp (.var "_law_place") "_law_place" (.var "_law_places_here") [.cmp .Lt (.var "_law_place") (.var "_law_many_here")]), .assign "_law_lone" (.bop .And [.cmp .Eq (.blt "len" [.var "_law_clause"]) (.int 1), .cmp .Eq (.sub (.sub (.var "_law_clause") (.int 0)) (.int 0)) (.str "same"), .cmp .Eq (.sub (.sub (.var "_law_clause") (.int 0)) (.int 2)) (.str "col")]), .ret (.bop .Or [.cmp .Eq (.var "_law_low") (.lst []), .cmp .Eq (.blt "len" [.var "_law_low"]) (.blt "len" [.var "_law_places_here"]), .var "_law_lone"])] [],
    .ret (.bop .And [.cmp .NotEq (.sub (.var "_law_query") (.int 0)) (.str "table"), .cmp .NotEq (.sub (.var "_law_query") (.int 0)) (.str "first")])]⟩
noncomputable def fn_law_settled : Fn := ⟨["_law_query", "_law_widths_here"], [
    .ite (.cmp .Eq (.sub (.var "_law_query") (.int 0)) (.str "table")) [.ret (.bool true)] [],
    .ite (.bop .Or [.cmp .Eq (.sub (.var "_law_query") (.int 0)) (.str "join"), .cmp .Eq (.sub (.var "_law_query") (.int 0)) (.str "both")]) [.ret (.bop .And [.call "_law_settled" [.sub (.var "_law_query") (.int 1), .var "_law_widths_here"], .call "_law_settled" [.sub (.var "_law_query") (.int 2), .var "_law_widths_here"]])] [],
    .ite (.cmp .Eq (.sub (.var "_law_query") (.int 0)) (.str "once")) [.ret (.call "_law_settled" [.sub (.var "_law_query") (.int 1), .var "_law_widths_here"])] [],
    .ite (.cmp .NotEq (.sub (.var "_law_query") (.int 0)) (.str "sieve")) [.ret (.call "_law_settled" [.sub (.var "_law_query") (.bin .Sub (.blt "len" [.var "_law_query"]) (.int 1)), .var "_law_widths_here"])] [],
    .ite (.bop .Or [.not (.call "_law_settled" [.sub (.var "_law_query") (.int 2), .var "_law_widths_here"]), .not (.call "_law_clauses_right" [.sub (.var "_law_query") (.int 1), .call "_law_width" [.sub (.var "_law_query") (.int 2), .var "_law_widths_here"]])]) [.ret (.bool false)] [],
    .ret (.not (.comp (.var "_law_one") "_law_one" (.sub (.var "_law_query") (.int 1)) [.call "_law_goes_on" [.var "_law_one", .sub (.var "_law_query") (.int 2), .var "_law_widths_here"]]))]⟩
structure BM (P : List (String × Fn)) : Prop where
  nu : P.lookup "_law_number" = some fn_law_number
  pl : P.lookup "_law_places" = some fn_law_places
  o1 : P.lookup "_law_one_right" = some fn_law_one_right
  cr : P.lookup "_law_clauses_right" = some fn_law_clauses_right
  lw : P.lookup "_law_width" = some fn_law_width
  go : P.lookup "_law_goes_on" = some fn_law_goes_on
  se : P.lookup "_law_settled" = some fn_law_settled
noncomputable def p1V (t : D) : Int := match t with
  | .tup [_, .int p, _, _] => p
  | _ => 0
noncomputable def colB (t : D) : Bool := match t with
  | .tup [_, _, .str k, _] => k == Str.ofString "col"
  | _ => false
noncomputable def p3V (t : D) : Int := match t with
  | .tup [_, _, _, .int q] => q
  | _ => 0
/-- the places that the law reads of a clause -/
noncomputable def lpl (c : List D) : List Int := c.map p1V ++ (c.filter colB).map p3V
theorem colB_col (w : String) (p q : Nat) : colB (tst w p "col" (.int q)) = true := col_t
theorem colB_is (w : String) (p : Nat) (o : D) : colB (tst w p "is" o) = false := col_f
theorem lpl_mem {m : Nat} {z : Int} : ∀ {c : List D}, (∀ t ∈ c, Tst m t) → (z ∈ lpl c ↔ z ∈ plsC c)
  | [], _ => Iff.rfl
  | t :: c, h => by
    have ih := lpl_mem (z := z) (c := c) fun u hu => h u (.tail _ hu)
    have e : z ∈ plsC (t :: c) ↔ z ∈ plsV t ∨ z ∈ plsC c := by unfold plsC; rw [List.flatMap_cons, List.mem_append]
    have e2 : z ∈ lpl (t :: c) ↔ (z = p1V t ∨ (colB t = true ∧ z = p3V t)) ∨ z ∈ lpl c := by
      unfold lpl
      rw [List.map_cons, List.filter_cons]
      by_cases hb : colB t = true
      · simp only [hb, if_true, List.map_cons, List.mem_append, List.mem_cons, true_and]
        constructor
        · rintro ((a | a) | a | a)
          · exact .inl (.inl a)
          · exact .inr (.inl a)
          · exact .inl (.inr a)
          · exact .inr (.inr a)
        · rintro ((a | a) | a | a)
          · exact .inl (.inl a)
          · exact .inr (.inl a)
          · exact .inl (.inr a)
          · exact .inr (.inr a)
      · rw [if_neg hb]
        simp only [hb, List.mem_append, List.mem_cons, false_and, or_false, Bool.false_eq_true]
        rw [or_assoc]
    rw [e, e2, ih]
    refine or_congr ?_ Iff.rfl
    obtain ⟨w, p, hw, hp, ⟨q, hq, rfl⟩ | ⟨o, ho, rfl⟩⟩ := h t (.head _)
    · rw [pls_col, colB_col]
      show (z = (p : Int) ∨ true = true ∧ z = (q : Int)) ↔ _
      rw [List.mem_cons, List.mem_singleton]
      exact or_congr Iff.rfl (and_iff_right rfl)
    · rw [pls_is, colB_is]
      show (z = (p : Int) ∨ false = true ∧ _) ↔ _
      rw [List.mem_singleton]
      exact or_iff_left fun h => Bool.false_ne_true h.1
theorem cM_fm {f : D → Option (Option D)} {p : D → Bool} {g : D → D} : ∀ l : List D, (∀ d ∈ l, f d = some (if p d = true then some (g d) else none)) → compM f l = some ((l.filter p).map g)
  | [], _ => rfl
  | d :: l, h => by
    rw [compM, h d (.head _)]
    show (match compM f l with | none => none | some ds => _) = _
    rw [cM_fm l fun i hi => h i (.tail _ hi)]
    cases hp : p d <;> simp [hp]
section
variable {P : List (String × Fn)} {X : CF} {m : Nat} {c : List D} {cf : CF} {ρ : List (String × D)}
theorem v_filt {z : String} {src cnd : ME} {l : List Int} {p : Int → Bool} (hs : evE cf ρ src = some (.list (l.map .int))) (hl : l.length ≤ big) (h : ∀ i, evE cf ((z, .int i) :: ρ) cnd = some (.bool (p i))) : evE cf ρ (.comp (.var z) z src [cnd]) = some (.list ((l.filter p).map .int)) := by
  refine v_comp hs rfl (by rw [List.length_map]; exact hl) ?_
  clear hs hl
  induction l with
  | nil => rfl
  | cons i l ih =>
    rw [List.map_cons, compM, compF_one (y := .int i) (h i) rfl (fun _ => v_var hr_eq)]
    show (match compM _ (l.map D.int) with | none => none | some ds => _) = _
    rw [ih]
    cases hp : p i <;> simp [hp]
theorem v_or2 {a b : ME} {d : D} (ha : evE cf ρ a = some (.bool false)) (hb : evE cf ρ b = some d) : evE cf ρ (.bop .Or [a, b]) = some d := by
  rw [e_bop, b_or, ha, oB_bool]; exact hb
theorem number_ok (B : BM P) (n : Nat) {p m : Nat} (h : p < m) : (callN P X (n + 1)).call "_law_number" [.int p, .int m] = some (.bool true, false) := by
  have h1 : cmpD .LtE (.int 0) (.int p) = some (.bool true) := by
    show some (D.bool (decide ((0 : Int) ≤ p))) = _
    rw [decide_eq_true (by omega)]
  have h2 : cmpD .Lt (.int p) (.int m) = some (.bool true) := by
    show some (D.bool (decide ((p : Int) < m))) = _
    rw [decide_eq_true (by omega)]
  refine run_call B.nu rfl ?_
  exact r_ret (v_map (v_and (k := true) (l := true) (v_isi (x := .int p) rfl rfl) fun _ => v_and (k := true) (l := true) (v_not (k := false) (v_isi (x := .int p) rfl rfl) rfl) fun _ => v_bop1 (v_cc (x := .int 0) (y := .int p) (w' := .int m) rfl rfl h1 rfl h2)) rfl rfl) rfl
theorem places_law (B : BM P) (n : Nat) (hc : ClsOk m c) : (callN P X (n + 1)).call "_law_places" [clD c] = some (.list ((lpl c).map .int), true) := by
  have hb : 1000 ≤ big := by decide
  have hl := hc.2
  refine run_call B.pl rfl ?_
  show Run _ fn_law_places.body [("_law_clause", (false, .tup c))] _ _
  generalize callN P X n = cf
  have e1 : evE cf (vis [("_law_clause", (false, .tup c))]) (.comp (.sub (.var "_law_one") (.int 1)) "_law_one" (.var "_law_clause") []) = some (.list ((c.map p1V).map .int)) := by
    refine v_comp (x := .tup c) (its := c) rfl rfl (by omega) ?_
    have : (c.map p1V).map D.int = (c.filter fun _ => true).map fun t => D.int (p1V t) := by rw [List.filter_eq_self.mpr fun _ _ => rfl, List.map_map]; rfl
    rw [this]
    refine cM_fm c fun t ht => ?_
    obtain ⟨w, p, _, _, ⟨q, _, rfl⟩ | ⟨o, _, rfl⟩⟩ := hc.1 t ht
    · exact compF_nil (v_sub (x := tst w p "col" (.int q)) (y := .int 1) rfl rfl rfl)
    · exact compF_nil (v_sub (x := tst w p "is" o) (y := .int 1) rfl rfl rfl)
  have e2 : evE cf (vis [("_law_clause", (false, .tup c))]) (.comp (.sub (.var "_law_one") (.int 3)) "_law_one" (.var "_law_clause") [.cmp .Eq (.sub (.var "_law_one") (.int 2)) (.str "col")]) = some (.list (((c.filter colB).map p3V).map .int)) := by
    refine v_comp (x := .tup c) (its := c) rfl rfl (by omega) ?_
    rw [List.map_map]
    refine cM_fm (g := D.int ∘ p3V) c fun t ht => ?_
    obtain ⟨w, p, _, _, ⟨q, _, rfl⟩ | ⟨o, _, rfl⟩⟩ := hc.1 t ht
    · rw [colB_col]
      exact compF_one (k := true) (v_cmp (v_sub (x := tst w p "col" (.int q)) (y := .int 2) rfl rfl rfl) (e_str _ _ _) eq_col) rfl fun _ => v_sub (x := tst w p "col" (.int q)) (y := .int 3) rfl rfl rfl
    · rw [colB_is]
      exact compF_one (k := false) (v_cmp (v_sub (x := tst w p "is" o) (y := .int 2) rfl rfl rfl) (e_str _ _ _) eq_is) rfl nofun
  have hf : (c.filter colB).length ≤ c.length := List.length_filter_le _ _
  have h : Run cf fn_law_places.body [("_law_clause", (false, .tup c))] (.list ((c.map p1V).map .int ++ ((c.filter colB).map p3V).map .int)) true :=
    r_ret (v_map (v_bin e1 e2 (bin_ll (by rw [List.length_map, List.length_map, List.length_map, List.length_map]; omega))) rfl rfl) rfl
  unfold lpl; rw [List.map_append]; exact h
theorem one_right (B : BM P) (n : Nat) {t : D} (ht : Tst m t) : (callN P X (n + 2)).call "_law_one_right" [t, .int m] = some (.bool true, false) := by
  have h4 : cmpD .NotEq (.int 4) (.int 4) = some (.bool false) := neq_self _
  have key : ∀ (w k : String) (p : Nat) (o : D), w ∈ words → t = tst w p k o → Run (callN P X (n + 1)) (fn_law_one_right.body.drop 2) [("_law_one", (false, t)), ("_law_many_here", (false, .int m))] (.bool true) false → (callN P X (n + 2)).call "_law_one_right" [t, .int m] = some (.bool true, false) := by
    intro w k p o hw e hr
    refine run_call B.o1 rfl ?_
    subst e
    generalize callN P X (n + 1) = cf at *
    refine r_if (k := false) (x := .bool (false || (false || (false || false)))) (v_or (k := false) (v_not (k := true) (v_isi (x := tst w p k o) rfl rfl) rfl) fun _ => v_or (k := false) (v_cmp (x := .int 4) (y := .int 4) rfl rfl h4) fun _ => v_or (k := false) (l := false) (v_not (k := true) (v_isi (v_sub (x := tst w p k o) (y := .int 0) rfl rfl rfl) rfl) rfl) fun _ => v_bop1 (v_not (k := true) (v_isi (v_sub (x := tst w p k o) (y := .int 2) rfl rfl rfl) rfl) rfl)) rfl nofun fun _ => ?_
    refine r_if (k := false) (x := .bool false) (v_cmp (v_sub (x := tst w p k o) (y := .int 0) rfl rfl rfl) (d := .bool false) (y := .tup [sD "same", sD "unlike", sD "before", sD "upto", sD "behind", sD "from"]) rfl ?_) rfl nofun fun _ => hr
    simp only [words, List.mem_cons, List.not_mem_nil, or_false] at hw
    rcases hw with rfl | rfl | rfl | rfl | rfl | rfl <;> rfl
  obtain ⟨w, p, hw, hp, ⟨q, hq, e⟩ | ⟨o, ho, e⟩⟩ := ht
  · refine key w "col" p (.int q) hw e ?_
    have k1 := number_ok (X := X) B n hp
    have k2 := number_ok (X := X) B n hq
    subst e
    generalize callN P X (n + 1) = cf at *
    refine r_if (k := true) (v_cmp (v_sub (x := tst w p "col" (.int q)) (y := .int 2) rfl rfl rfl) (e_str _ _ _) eq_col) rfl (fun _ => ?_) nofun
    exact r_ret (v_map (two_true (v_callE (v_cons (d := .int p) rfl (v_cons (d := .int m) rfl (es_nil _ _))) k1) (v_callE (v_cons (d := .int q) rfl (v_cons (d := .int m) rfl (es_nil _ _))) k2)) rfl rfl) rfl
  · refine key w "is" p o hw e ?_
    have k1 := number_ok (X := X) B n hp
    subst e
    generalize callN P X (n + 1) = cf at *
    refine r_if (k := false) (v_cmp (v_sub (x := tst w p "is" o) (y := .int 2) rfl rfl rfl) (e_str _ _ _) eq_is) rfl nofun fun _ => ?_
    exact r_ret (v_map (two_true (v_cmp (v_sub (x := tst w p "is" o) (y := .int 2) rfl rfl rfl) (e_str _ _ _) (by show some (D.bool (_ == _)) = _; rw [beq_self_eq_true])) (v_callE (v_cons (d := .int p) rfl (v_cons (d := .int m) rfl (es_nil _ _))) k1)) rfl rfl) rfl
theorem clauses_right (B : BM P) (n : Nat) {cs : List (List D)} (hn : cs ≠ []) (hc : ∀ c ∈ cs, ClsOk m c) : (callN P X (n + 3)).call "_law_clauses_right" [.tup (cs.map clD), .int m] = some (.bool true, false) := by
  have hb : 1000 ≤ big := by decide
  have h0 : cmpD .Eq (.tup (cs.map clD)) (.tup []) = some (.bool false) := by
    cases cs with
    | nil => exact absurd rfl hn
    | cons c cs => rfl
  refine run_call B.cr rfl ?_
  refine r_if (k := false) (x := .bool (false || false)) (v_or (k := false) (l := false) (v_not (k := true) (v_isi (x := .tup (cs.map clD)) rfl rfl) rfl) fun _ => v_bop1 (v_cmp (x := .tup (cs.map clD)) (y := .tup []) rfl rfl h0)) rfl nofun fun _ => ?_
  obtain ⟨σ', _, h3⟩ := loop_inv (cf := callN P X (n + 2)) (body := [.ite (.bop .Or [.not (.isi (.var "_law_clause") "tuple"), .comp (.var "_law_one") "_law_one" (.var "_law_clause") [.not (.call "_law_one_right" [.var "_law_one", .var "_law_many_here"])]]) [.ret (.bool false)] []]) (z := "_law_clause")
    (fun _ σ => Has σ "_law_many_here" (.int m)) (cs.map clD) [] (freeze ["_law_clauses"] [("_law_clauses", (false, .tup (cs.map clD))), ("_law_many_here", (false, .int m))]) (by (repeat' (first | (with_reducible (first | assumption | exact h_eq | exact hr_eq | exact w_eq | exact h_cons | apply h_own; assumption)) | ((with_reducible (first | apply h_ne | apply hr_ne | apply w_ne | apply h_consn | apply w_st | apply w_fr)); (focus (exact rfl))) | (with_reducible (first | apply hr_vis | apply h_st | apply h_fr))))) (by
      rintro a it b σ hab i
      rw [List.nil_append] at hab
      obtain ⟨c, hcm, rfl⟩ := List.mem_map.mp (by rw [hab]; simp : it ∈ cs.map clD)
      have hc := hc c hcm
      have e : evE (callN P X (n + 2)) (vis (setv σ "_law_clause" (false, clD c))) (.comp (.var "_law_one") "_law_one" (.var "_law_clause") [.not (.call "_law_one_right" [.var "_law_one", .var "_law_many_here"])]) = some (.list []) := by
        refine v_comp (v_var (hr_vis h_eq)) rfl (by have := hc.2; omega) (compM_none _ _ fun t ht => ?_)
        exact compF_one (k := false) (y := .none) (v_not (v_callE (v_cons (v_var hr_eq) (v_cons (v_var (hr_ne rfl (hr_vis (h_ne rfl i)))) (es_nil _ _))) (one_right B n (hc.1 t ht))) rfl) rfl nofun
      exact o_if (k := false) (v_or2 (v_not (k := true) (v_isi (v_var (hr_vis h_eq)) rfl) rfl) e) rfl nofun fun _ => o_nil ⟨rfl, h_ne rfl i⟩)
  exact r_for (x := .tup (cs.map clD)) (its := cs.map clD) rfl rfl h3 (r_ret (v_map (e_bool _ _ _) rfl rfl) rfl)
theorem qw {w w2 : String} {ms : List D} (h : HasR ρ "_law_query" (.tup (sD w :: ms))) : evE cf ρ (.cmp .Eq (.sub (.var "_law_query") (.int 0)) (.str w2)) = some (.bool (Str.ofString w == Str.ofString w2)) :=
  v_cmp (v_sub (v_var h) (e_int _ _ _) (sub_t (k := 0) (Nat.zero_lt_succ _) rfl)) (e_str _ _ _) rfl
theorem qn {w w2 : String} {ms : List D} (h : HasR ρ "_law_query" (.tup (sD w :: ms))) : evE cf ρ (.cmp .NotEq (.sub (.var "_law_query") (.int 0)) (.str w2)) = some (.bool (!(Str.ofString w == Str.ofString w2))) :=
  v_cmp (v_sub (v_var h) (e_int _ _ _) (sub_t (k := 0) (Nat.zero_lt_succ _) rfl)) (e_str _ _ _) rfl
theorem qo {w w1 w2 : String} {ms : List D} (h : HasR ρ "_law_query" (.tup (sD w :: ms))) : evE cf ρ (.bop .Or [.cmp .Eq (.sub (.var "_law_query") (.int 0)) (.str w1), .cmp .Eq (.sub (.var "_law_query") (.int 0)) (.str w2)]) = some (.bool ((Str.ofString w == Str.ofString w1) || (Str.ofString w == Str.ofString w2))) :=
  v_or (qw h) fun _ => v_bop1 (qw h)
/-- a test that fails, one that holds -/
theorem skX {e : ME} {σ : St} {t r : List MS} {R : D} {fr k : Bool} (h : evE cf (vis σ) e = some (.bool k)) (hk : k = false) (z : Run cf r σ R fr) : Run cf (.ite e t [] :: r) σ R fr := r_if (k := false) (x := .bool false) (hk ▸ h) rfl nofun fun _ => z
theorem hitX {e : ME} {σ : St} {t r : List MS} {R : D} {fr k : Bool} (h : evE cf (vis σ) e = some (.bool k)) (hk : k = true) (z : Run cf (t ++ r) σ R fr) : Run cf (.ite e t [] :: r) σ R fr := r_if (k := true) (x := .bool true) (hk ▸ h) rfl (fun _ => z) nofun
theorem n11 {d n : Nat} (h : d + 1 ≤ n) : ∃ n', n = n' + 1 := ⟨n - 1, by omega⟩
theorem lw_eq (B : BM P) {W : Wd} : ∀ (q : Q) (n : Nat), q.ok W → q.dp ≤ n → (callN P X (n + 1)).call "_law_width" [q.d, W.d] = some (.int (q.wd W), false)
  | .table nm => by
    intro n h _
    obtain ⟨k, h⟩ := h
    obtain ⟨_, h2⟩ := wd_mem h
    rw [show (Q.table nm).wd W = k from by show (W.lookup nm).getD 0 = k; rw [h]; rfl]
    exact run_call B.lw rfl (hitX (qw rfl) rfl (r_ret (v_map (v_sub (x := W.d) (y := .str nm) rfl rfl h2) rfl rfl) rfl))
  | .join a b prs => by
    intro n h hn
    obtain ⟨n, rfl⟩ := n11 hn
    obtain ⟨h1, h2, _⟩ := h
    have i1 := lw_eq B a n h1 (Nat.le_trans (Nat.le_max_left _ _) (Nat.le_of_succ_le_succ hn))
    have i2 := lw_eq B b n h2 (Nat.le_trans (Nat.le_max_right _ _) (Nat.le_of_succ_le_succ hn))
    refine run_call B.lw rfl (skX (qw rfl) rfl (hitX (qw rfl) rfl (r_ret (v_map (v_bin (v_callE (v_cons (d := a.d) rfl (v_cons (d := W.d) rfl (es_nil _ _))) i1) (v_callE (v_cons (d := b.d) rfl (v_cons (d := W.d) rfl (es_nil _ _))) i2) ?_) rfl rfl) rfl)))
    show some (D.int ((a.wd W : Int) + (b.wd W : Int))) = some (.int ((a.wd W + b.wd W : Nat) : Int))
    rw [Int.natCast_add]
  | .both a b => by
    intro n h hn
    obtain ⟨n, rfl⟩ := n11 hn
    obtain ⟨h1, _, _⟩ := h
    have i1 := lw_eq B a n h1 (Nat.le_trans (Nat.le_max_left _ _) (Nat.le_of_succ_le_succ hn))
    exact run_call B.lw rfl (skX (qw rfl) rfl (skX (qw rfl) rfl (hitX (qo rfl) rfl (r_ret (v_call (v_cons (d := a.d) rfl (v_cons (d := W.d) rfl (es_nil _ _))) i1) rfl))))
  | .once q => by
    intro n h hn
    obtain ⟨n, rfl⟩ := n11 hn
    have i1 := lw_eq B q n h (Nat.le_of_succ_le_succ hn)
    exact run_call B.lw rfl (skX (qw rfl) rfl (skX (qw rfl) rfl (hitX (qo rfl) rfl (r_ret (v_call (v_cons (d := q.d) rfl (v_cons (d := W.d) rfl (es_nil _ _))) i1) rfl))))
  | .pick ps q => by
    intro n h hn
    obtain ⟨n, rfl⟩ := n11 hn
    refine run_call B.lw rfl (skX (qw rfl) rfl (skX (qw rfl) rfl (skX (qo rfl) rfl (hitX (qw rfl) rfl (r_ret (v_map (v_blt (v_cons (d := .tup (ps.map natD)) rfl (es_nil _ _)) ?_) rfl rfl) rfl)))))
    show some (D.int ((ps.map natD).length : Nat)) = some (.int (ps.length : Nat))
    rw [List.length_map]
  | .group ps ss q => by
    intro n h hn
    obtain ⟨n, rfl⟩ := n11 hn
    refine run_call B.lw rfl (skX (qw rfl) rfl (skX (qw rfl) rfl (skX (qo rfl) rfl (skX (qw rfl) rfl (hitX (qw rfl) rfl (r_ret (v_map (v_bin (v_blt (v_cons (d := .tup (ps.map natD)) rfl (es_nil _ _)) rfl) (v_blt (v_cons (d := .tup (ss.map sumT)) rfl (es_nil _ _)) rfl) ?_) rfl rfl) rfl))))))
    show some (D.int (((ps.map natD).length : Nat) + ((ss.map sumT).length : Nat) : Int)) = some (.int ((ps.length + ss.length : Nat) : Int))
    rw [List.length_map, List.length_map, Int.natCast_add]
  | .sieve cs q => by
    intro n h hn
    obtain ⟨n, rfl⟩ := n11 hn
    have i1 := lw_eq B q n h.1 (Nat.le_of_succ_le_succ hn)
    exact run_call B.lw rfl (skX (qw rfl) rfl (skX (qw rfl) rfl (skX (qo rfl) rfl (skX (qw rfl) rfl (skX (qw rfl) rfl (r_ret (v_call (v_cons (d := q.d) rfl (v_cons (d := W.d) rfl (es_nil _ _))) i1) rfl))))))
  | .order ks q => by
    intro n h hn
    obtain ⟨n, rfl⟩ := n11 hn
    have i1 := lw_eq B q n h.1 (Nat.le_of_succ_le_succ hn)
    exact run_call B.lw rfl (skX (qw rfl) rfl (skX (qw rfl) rfl (skX (qo rfl) rfl (skX (qw rfl) rfl (skX (qw rfl) rfl (r_ret (v_call (v_cons (d := q.d) rfl (v_cons (d := W.d) rfl (es_nil _ _))) i1) rfl))))))
  | .first k q => by
    intro n h hn
    obtain ⟨n, rfl⟩ := n11 hn
    have i1 := lw_eq B q n h (Nat.le_of_succ_le_succ hn)
    exact run_call B.lw rfl (skX (qw rfl) rfl (skX (qw rfl) rfl (skX (qo rfl) rfl (skX (qw rfl) rfl (skX (qw rfl) rfl (r_ret (v_call (v_cons (d := q.d) rfl (v_cons (d := W.d) rfl (es_nil _ _))) i1) rfl))))))
end

set_option maxRecDepth 100000
set_option maxHeartbeats 400000
section
variable {P : List (String × Fn)} {X : CF} {m : Nat} {c : List D} {cf : CF} {ρ : List (String × D)}
theorem v_pair {z : String} (hc : ClsOk m c) (h : HasR ρ z (.tup c)) : evE cf ρ (.bop .And [.cmp .Eq (.blt "len" [.var z]) (.int 1), .cmp .Eq (.sub (.sub (.var z) (.int 0)) (.int 0)) (.str "same"), .cmp .Eq (.sub (.sub (.var z) (.int 0)) (.int 2)) (.str "col")]) = some (.bool (pairB c)) := by
  match c, hc with
  | [], _ => exact v_and (k := false) (l := false) (v_cmp (v_blt (v_cons (v_var h) (es_nil _ _)) rfl) (e_int _ _ _) rfl) nofun
  | t :: u :: r, _ =>
    have h1 : cmpD .Eq (.int ((t :: u :: r).length : Nat)) (.int 1) = some (.bool false) := by
      show some (D.bool (((t :: u :: r).length : Int) == 1)) = _
      rw [show ((((t :: u :: r).length : Nat) : Int) == 1) = false from by rw [beq_eq_false_iff_ne]; simp; omega]
    rw [pairB_two]
    exact v_and (k := false) (l := false) (v_cmp (v_blt (v_cons (v_var h) (es_nil _ _)) rfl) (e_int _ _ _) h1) nofun
  | [t], hc =>
    obtain ⟨w, k, o, p, rfl, hk⟩ := tst_parts (hc.1 t (.head _))
    have e : pairB [.tup [.str w, .int p, .str k, o]] = (true && ((w == Str.ofString "same") && (k == Str.ofString "col"))) := rfl
    rw [e]
    have h0 : evE cf ρ (.sub (.var z) (.int 0)) = some (.tup [.str w, .int p, .str k, o]) := v_sub (v_var h) (e_int _ _ _) rfl
    exact v_and (k := true) (v_cmp (v_blt (v_cons (v_var h) (es_nil _ _)) rfl) (e_int _ _ _) rfl) fun _ => v_and (k := w == Str.ofString "same") (l := k == Str.ofString "col") (v_cmp (v_sub h0 (e_int _ _ _) rfl) (e_str _ _ _) rfl) fun _ => v_bop1 (v_cmp (v_sub h0 (e_int _ _ _) rfl) (e_str _ _ _) rfl)
theorem lpl_len (hc : ClsOk m c) : (lpl c).length ≤ big := by
  have hb : 1000 ≤ big := by decide
  have hl := hc.2
  have hf : (c.filter colB).length ≤ c.length := List.length_filter_le _ _
  unfold lpl
  rw [List.length_append, List.length_map, List.length_map]
  omega
theorem goes_group (B : BM P) (n : Nat) {ps : List Nat} {S I T : D} (hc : ClsOk m c) (ha : aheadB ps.length c = false) : (callN P X (n + 2)).call "_law_goes_on" [clD c, .tup [sD "group", .tup (ps.map natD), S, I], T] = some (.bool false, false) := by
  have hp := places_law (X := X) B n hc
  refine run_call B.go rfl ?_
  refine r_step (p_assign (v_call (v_cons (d := clD c) rfl (es_nil _ _)) hp)) ?_
  refine hitX (qw rfl) rfl ?_
  have ht : truth (.list (((lpl c).filter fun z => decide (z ≥ (ps.length : Int))).map .int)) = some true := by
    unfold aheadB at ha
    rw [List.all_eq_false] at ha
    obtain ⟨z, hz, hn⟩ := ha
    have hz := (lpl_mem hc.1).mpr hz
    have : z ∈ (lpl c).filter fun z => decide (z ≥ (ps.length : Int)) := List.mem_filter.mpr ⟨hz, by simpa using hn⟩
    cases e : (lpl c).filter fun z => decide (z ≥ (ps.length : Int)) with
    | nil => rw [e] at this; cases this
    | cons a r => rfl
  refine r_ret (v_map (v_not (v_filt (l := lpl c) (p := fun z => decide (z ≥ (ps.length : Int))) rfl (lpl_len hc) fun i => v_cmp (v_var hr_eq) (v_blt (v_cons (d := .tup (ps.map natD)) rfl (es_nil _ _)) rfl) ?_) ht) rfl rfl) rfl
  show some (D.bool (decide (i ≥ ((ps.map natD).length : Nat)))) = _
  rw [List.length_map]
theorem goes_join (B : BM P) (n : Nat) {own : Nat} {I J K T : D} (hc : ClsOk m c) (h3 : cat own c = 3) (hw : (callN P X (n + 1)).call "_law_width" [I, T] = some (.int own, false)) : (callN P X (n + 2)).call "_law_goes_on" [clD c, .tup [sD "join", I, J, K], T] = some (.bool false, false) := by
  obtain ⟨ha, hb, hpr⟩ : aheadB own c = false ∧ behindB own c = false ∧ pairB c = false := by
    unfold cat at h3
    cases h1 : aheadB own c with
    | true => rw [if_pos h1] at h3; cases h3
    | false =>
      rw [if_neg (by rw [h1]; exact Bool.false_ne_true)] at h3
      cases h2 : behindB own c with
      | true => rw [if_pos h2] at h3; cases h3
      | false =>
        rw [if_neg (by rw [h2]; exact Bool.false_ne_true)] at h3
        cases h4 : pairB c with
        | true => rw [if_pos h4] at h3; cases h3
        | false => exact ⟨rfl, rfl, rfl⟩
  have hp := places_law (X := X) B n hc
  obtain ⟨z1, hz1, hn1⟩ : ∃ z ∈ lpl c, ¬ z < (own : Int) := by
    unfold aheadB at ha
    rw [List.all_eq_false] at ha
    obtain ⟨z, hz, hn⟩ := ha
    exact ⟨z, (lpl_mem hc.1).mpr hz, by simpa using hn⟩
  obtain ⟨z2, hz2, hn2⟩ : ∃ z ∈ lpl c, z < (own : Int) := by
    unfold behindB at hb
    rw [List.all_eq_false] at hb
    obtain ⟨z, hz, hn⟩ := hb
    exact ⟨z, (lpl_mem hc.1).mpr hz, by simpa using hn⟩
  have hlen : ((lpl c).filter fun z => decide (z < (own : Int))).length ≠ (lpl c).length := fun e => by
    have := List.filter_eq_self.mp (List.length_filter_eq_length_iff.mp e |> List.filter_eq_self.mpr) z1 hz1
    exact hn1 (by simpa using this)
  have hne : ((lpl c).filter fun z => decide (z < (own : Int))) ≠ [] := fun e => by
    have : z2 ∈ (lpl c).filter fun z => decide (z < (own : Int)) := List.mem_filter.mpr ⟨hz2, by simpa using hn2⟩
    rw [e] at this; cases this
  refine run_call B.go rfl ?_
  refine r_step (p_assign (v_call (v_cons (d := clD c) rfl (es_nil _ _)) hp)) ?_
  refine skX (qw rfl) rfl (hitX (qw rfl) rfl ?_)
  refine r_step (p_assign (v_call (v_cons (d := I) rfl (v_cons (d := T) rfl (es_nil _ _))) hw)) ?_
  refine r_step (p_assign (v_map (v_filt (l := lpl c) (p := fun z => decide (z < (own : Int))) rfl (lpl_len hc) fun i => v_cmp (v_var hr_eq) (d := .bool (decide (i < (own : Int)))) (y := .int own) rfl rfl) rfl rfl)) ?_
  generalize hF : (lpl c).filter (fun z => decide (z < (own : Int))) = F at *
  have e1 : cmpD .Eq (.list (F.map .int)) (.list []) = some (.bool false) := by
    cases F with
    | nil => exact absurd rfl hne
    | cons a r => rfl
  have e2 : cmpD .Eq (.int ((F.map D.int).length : Nat)) (.int (((lpl c).map D.int).length : Nat)) = some (.bool false) := by
    show some (D.bool (_ == _)) = _
    rw [List.length_map, List.length_map, show (((F.length : Nat) : Int) == ((lpl c).length : Nat)) = false from by rw [beq_eq_false_iff_ne]; omega]
  refine r_step (p_assign (v_map (v_pair (z := "_law_clause") hc rfl) rfl rfl)) ?_
  rw [hpr]
  exact r_ret (v_map (v_or (k := false) (l := false) (v_cmp (x := .list (F.map .int)) (y := .list []) rfl rfl e1) fun _ => v_or (k := false) (l := false) (v_cmp (v_blt (v_cons (d := .list (F.map .int)) rfl (es_nil _ _)) rfl) (v_blt (v_cons (d := .list ((lpl c).map .int)) rfl (es_nil _ _)) rfl) e2) fun _ => v_bop1 rfl) rfl rfl) rfl
theorem goes_not (B : BM P) (n : Nat) {w : String} {ms : List D} {T : D} (hc : ClsOk m c) (hw : w = "table" ∨ w = "first") : (callN P X (n + 2)).call "_law_goes_on" [clD c, .tup (sD w :: ms), T] = some (.bool false, false) := by
  have hp := places_law (X := X) B n hc
  refine run_call B.go rfl ?_
  refine r_step (p_assign (v_call (v_cons (d := clD c) rfl (es_nil _ _)) hp)) ?_
  have e : ∀ w2, evE (callN P X (n + 1)) (vis (setv (settle (D.list ((lpl c).map .int)) ["_law_clause"] [("_law_clause", (false, clD c)), ("_law_query", (false, .tup (sD w :: ms))), ("_law_widths_here", (false, T))]) "_law_places_here" (true, D.list ((lpl c).map .int)))) (.cmp .NotEq (.sub (.var "_law_query") (.int 0)) (.str w2)) = some (.bool (!(Str.ofString w == Str.ofString w2))) := fun w2 => qn rfl
  rcases hw with rfl | rfl
  · exact skX (qw rfl) rfl (skX (qw rfl) rfl (r_ret (v_map (v_and (k := false) (l := false) (e "table") nofun) rfl rfl) rfl))
  · exact skX (qw rfl) rfl (skX (qw rfl) rfl (r_ret (v_map (v_and (k := true) (l := false) (e "table") fun _ => v_bop1 (e "first")) rfl rfl) rfl))
end
noncomputable def goesF (W : Wd) (c : List D) : Q → Prop
  | .table _ | .first _ _ => True
  | .group ps _ _ => aheadB ps.length c = false
  | .join a _ _ => cat (a.wd W) c = 3
  | _ => False
/-- no clause could go on -/
noncomputable def Q.St (W : Wd) : Q → Prop
  | table _ => True
  | sieve cs q => q.St W ∧ cs ≠ [] ∧ ∀ c ∈ cs, goesF W c q
  | pick _ q | group _ _ q | order _ q | once q | first _ q => q.St W
  | join a b _ | both a b => a.St W ∧ b.St W
theorem over_st {W : Wd} {cs : List (List D)} {q : Q} (h : q.St W) (hc : ∀ c ∈ cs, goesF W c q) : (overQ cs q).St W := by
  cases cs with
  | nil => exact h
  | cons c cs => exact ⟨h, nofun, hc⟩
structure Fit (W : Wd) (q : Q) (cl : List (List D)) : Prop where
  ok : q.ok W
  hc : ∀ c ∈ cl, ClsOk (q.wd W) c
  hl : q.cp + cl.length ≤ 1000
  hp : q.pr + q.cp + cl.length ≤ 5000
  hn : q.nar W 5000
theorem placed_st {W : Wd} : ∀ (q : Q) (cl : List (List D)), Fit W q cl → (q.placed W cl).St W
  | .table nm => fun cl F => over_st (q := .table nm) trivial fun _ _ => trivial
  | .sieve cs q => fun cl F => by
    have e : cs.length + q.cp + cl.length = q.cp + (cs ++ cl).length := by rw [List.length_append]; omega
    have e2 : q.pr + (cs.length + q.cp) + cl.length = q.pr + q.cp + (cs ++ cl).length := by rw [List.length_append]; omega
    exact placed_st q (cs ++ cl) ⟨F.ok.1, fun c hm => (List.mem_append.mp hm).elim (F.ok.2.1 c) (F.hc c), Nat.le_trans (Nat.le_of_eq e.symm) F.hl, Nat.le_trans (Nat.le_of_eq e2.symm) F.hp, F.hn⟩
  | .pick ps q => fun cl F => by
    have hle : (pickC ps cl).length = cl.length := by unfold pickC; rw [List.length_map]
    exact placed_st q (pickC ps cl) ⟨F.ok.1, pickC_ok F.hc F.ok.2.1, by rw [hle]; exact F.hl, by rw [hle]; exact F.hp, F.hn⟩
  | .group ps ss q => fun cl F => by
    have g1 : (innerC ps cl).length ≤ cl.length := group_len ps cl ▸ Nat.le_add_right _ _
    exact over_st (q := .group ps ss _) (placed_st q (innerC ps cl) ⟨F.ok.1, innerC_ok F.hc F.ok.2.1, Nat.le_trans (Nat.add_le_add_left g1 _) F.hl, Nat.le_trans (Nat.add_le_add_left g1 _) F.hp, F.hn⟩) fun c hcm => (Bool.not_eq_true' _).mp (List.mem_filter.mp hcm).2
  | .order ks q => fun cl F => placed_st q cl ⟨F.ok.1, F.hc, F.hl, F.hp, F.hn⟩
  | .once q => fun cl F => placed_st q cl ⟨F.ok, F.hc, F.hl, F.hp, F.hn⟩
  | .first c q => fun cl F => over_st (q := .first c _) (placed_st q [] ⟨F.ok, (fun _ h => nomatch h), Nat.le_trans (Nat.le_add_right _ _) F.hl, Nat.le_trans (Nat.le_add_right _ _) F.hp, F.hn⟩) fun _ _ => trivial
  | .both a b => fun cl F =>
    ⟨placed_st a cl ⟨F.ok.1, F.hc, Nat.le_trans (Nat.add_le_add_right (Nat.le_max_left _ _) _) F.hl, Nat.le_trans (Nat.add_le_add_right (Nat.add_le_add (Nat.le_max_left _ _) (Nat.le_max_left _ _)) _) F.hp, F.hn.1⟩,
      placed_st b cl ⟨F.ok.2.1, F.ok.2.2 ▸ F.hc, Nat.le_trans (Nat.add_le_add_right (Nat.le_max_right _ _) _) F.hl, Nat.le_trans (Nat.add_le_add_right (Nat.add_le_add (Nat.le_max_right _ _) (Nat.le_max_right _ _)) _) F.hp, F.hn.2⟩⟩
  | .join a b prs => fun cl F => by
    obtain ⟨g1, g2, g3, g4⟩ := four_le (a.wd W) cl
    have m1 : a.pr ≤ max prs.length (max a.pr b.pr) := Nat.le_trans (Nat.le_max_left _ _) (Nat.le_max_right _ _)
    have m2 : b.pr ≤ max prs.length (max a.pr b.pr) := Nat.le_trans (Nat.le_max_right _ _) (Nat.le_max_right _ _)
    have F1 : Fit W a (aheadC (a.wd W) cl) := ⟨F.ok.1, aheadC_ok F.hc, Nat.le_trans (Nat.add_le_add (Nat.le_max_left _ _) g1) F.hl, Nat.le_trans (Nat.add_le_add (Nat.add_le_add m1 (Nat.le_max_left _ _)) g1) F.hp, F.hn.1⟩
    have F2 : Fit W b (behindC (a.wd W) cl) := ⟨F.ok.2.1, behindC_ok F.hc, Nat.le_trans (Nat.add_le_add (Nat.le_max_right _ _) g2) F.hl, Nat.le_trans (Nat.add_le_add (Nat.add_le_add m2 (Nat.le_max_right _ _)) g2) F.hp, F.hn.2.1⟩
    have t1 := placed_ok a (aheadC (a.wd W) cl) F1.ok F1.hc F1.hl F1.hp F1.hn
    refine over_st (q := .join _ _ _) ⟨placed_st a _ F1, placed_st b _ F2⟩ fun c hcm => ?_
    show cat _ c = 3
    rw [t1.wd]
    exact eq_of_beq (List.mem_filter.mp hcm).2
section
variable {P : List (String × Fn)} {X : CF}
theorem goes_eq (B : BM P) (n : Nat) {W : Wd} {c : List D} {m : Nat} (hc : ClsOk m c) : ∀ (q : Q), goesF W c q → q.ok W → q.dp ≤ n → (callN P X (n + 2)).call "_law_goes_on" [clD c, q.d, W.d] = some (.bool false, false)
  | .table nm, _, _, _ => goes_not B n hc (.inl rfl)
  | .first k q, _, _, _ => goes_not B n hc (.inr rfl)
  | .group ps ss q, h, _, _ => goes_group B n hc h
  | .join a b prs, h, ho, hn => goes_join B n hc h (lw_eq B a n ho.1 (Nat.le_trans (Nat.le_trans (Nat.le_max_left _ _) (Nat.le_succ _)) hn))
theorem n41 {d n : Nat} (h : d + 1 + 4 ≤ n) : ∃ n', n = n' + 1 := ⟨n - 1, by omega⟩
theorem n43 {d n : Nat} (h : d + 1 + 4 ≤ n + 1) : ∃ n', n = n' + 3 := ⟨n - 3, by omega⟩
theorem n42 {d n : Nat} (h : d + 1 + 4 ≤ n + 3 + 1) : d ≤ n + 2 := by omega
theorem settled_eq (B : BM P) {W : Wd} : ∀ (q : Q) (n : Nat), q.St W → q.ok W → q.dp + 4 ≤ n → (callN P X (n + 1)).call "_law_settled" [q.d, W.d] = some (.bool true, false)
  | .table nm => fun n _ _ _ => run_call B.se rfl (hitX (qw rfl) rfl (r_ret (v_map (e_bool _ _ _) rfl rfl) rfl))
  | .join a b prs => by
    intro n s h hn
    obtain ⟨n, rfl⟩ := n41 hn
    obtain ⟨s1, s2⟩ := s
    have i1 := settled_eq B a n s1 h.1 (Nat.le_trans (Nat.add_le_add_right (Nat.le_max_left _ _) 4) (Nat.le_of_succ_le_succ hn))
    have i2 := settled_eq B b n s2 h.2.1 (Nat.le_trans (Nat.add_le_add_right (Nat.le_max_right _ _) 4) (Nat.le_of_succ_le_succ hn))
    exact run_call B.se rfl (skX (qw rfl) rfl (hitX (qo rfl) rfl (r_ret (v_map (two_true (v_callE (v_cons (d := a.d) rfl (v_cons (d := W.d) rfl (es_nil _ _))) i1) (v_callE (v_cons (d := b.d) rfl (v_cons (d := W.d) rfl (es_nil _ _))) i2)) rfl rfl) rfl)))
  | .both a b => by
    intro n s h hn
    obtain ⟨n, rfl⟩ := n41 hn
    obtain ⟨s1, s2⟩ := s
    have i1 := settled_eq B a n s1 h.1 (Nat.le_trans (Nat.add_le_add_right (Nat.le_max_left _ _) 4) (Nat.le_of_succ_le_succ hn))
    have i2 := settled_eq B b n s2 h.2.1 (Nat.le_trans (Nat.add_le_add_right (Nat.le_max_right _ _) 4) (Nat.le_of_succ_le_succ hn))
    exact run_call B.se rfl (skX (qw rfl) rfl (hitX (qo rfl) rfl (r_ret (v_map (two_true (v_callE (v_cons (d := a.d) rfl (v_cons (d := W.d) rfl (es_nil _ _))) i1) (v_callE (v_cons (d := b.d) rfl (v_cons (d := W.d) rfl (es_nil _ _))) i2)) rfl rfl) rfl)))
  | .once q => by
    intro n s h hn
    obtain ⟨n, rfl⟩ := n41 hn
    have i1 := settled_eq B q n s h (Nat.le_of_succ_le_succ hn)
    exact run_call B.se rfl (skX (qw rfl) rfl (skX (qo rfl) rfl (hitX (qw rfl) rfl (r_ret (v_call (v_cons (d := q.d) rfl (v_cons (d := W.d) rfl (es_nil _ _))) i1) rfl))))
  | .pick ps q => by
    intro n s h hn
    obtain ⟨n, rfl⟩ := n41 hn
    have i1 := settled_eq B q n s h.1 (Nat.le_of_succ_le_succ hn)
    exact run_call B.se rfl (skX (qw rfl) rfl (skX (qo rfl) rfl (skX (qw rfl) rfl (hitX (qn rfl) rfl (r_ret (v_call (v_cons (d := q.d) rfl (v_cons (d := W.d) rfl (es_nil _ _))) i1) rfl)))))
  | .group ps ss q => by
    intro n s h hn
    obtain ⟨n, rfl⟩ := n41 hn
    have i1 := settled_eq B q n s h.1 (Nat.le_of_succ_le_succ hn)
    exact run_call B.se rfl (skX (qw rfl) rfl (skX (qo rfl) rfl (skX (qw rfl) rfl (hitX (qn rfl) rfl (r_ret (v_call (v_cons (d := q.d) rfl (v_cons (d := W.d) rfl (es_nil _ _))) i1) rfl)))))
  | .order ks q => by
    intro n s h hn
    obtain ⟨n, rfl⟩ := n41 hn
    have i1 := settled_eq B q n s h.1 (Nat.le_of_succ_le_succ hn)
    exact run_call B.se rfl (skX (qw rfl) rfl (skX (qo rfl) rfl (skX (qw rfl) rfl (hitX (qn rfl) rfl (r_ret (v_call (v_cons (d := q.d) rfl (v_cons (d := W.d) rfl (es_nil _ _))) i1) rfl)))))
  | .first k q => by
    intro n s h hn
    obtain ⟨n, rfl⟩ := n41 hn
    have i1 := settled_eq B q n s h (Nat.le_of_succ_le_succ hn)
    exact run_call B.se rfl (skX (qw rfl) rfl (skX (qo rfl) rfl (skX (qw rfl) rfl (hitX (qn rfl) rfl (r_ret (v_call (v_cons (d := q.d) rfl (v_cons (d := W.d) rfl (es_nil _ _))) i1) rfl)))))
  | .sieve cs q => by
    intro n s h hn
    obtain ⟨n, rfl⟩ := n41 hn
    obtain ⟨s, s1, s2⟩ := s
    have i1 := settled_eq B q n s h.1 (Nat.le_of_succ_le_succ hn)
    have i2 := lw_eq (X := X) B q n h.1 (Nat.le_trans (Nat.le_add_right _ 4) (Nat.le_of_succ_le_succ hn))
    obtain ⟨n, rfl⟩ : ∃ n', n = n' + 3 := n43 hn
    have hb : 1000 ≤ big := by decide
    have i3 := clauses_right (X := X) B (n + 1) s1 h.2.1
    refine run_call B.se rfl (skX (qw rfl) rfl (skX (qo rfl) rfl (skX (qw rfl) rfl (skX (qn rfl) rfl (skX (k := false || false) (v_or (k := false) (l := false) (v_not (k := true) (v_callE (v_cons (d := q.d) rfl (v_cons (d := W.d) rfl (es_nil _ _))) i1) rfl) fun _ => v_bop1 (v_not (k := true) (v_callE (v_cons (d := .tup (cs.map clD)) rfl (v_cons (v_callE (v_cons (d := q.d) rfl (v_cons (d := W.d) rfl (es_nil _ _))) i2) (es_nil _ _))) i3) rfl)) rfl (r_ret (v_map (v_not (k := false) (v_comp (x := .tup (cs.map clD)) (its := cs.map clD) (ds := []) rfl rfl (by rw [List.length_map]; have := h.2.2; omega) (compM_none _ _ fun it hit => ?_)) rfl) rfl rfl) rfl))))))
    obtain ⟨c, hcm, rfl⟩ := List.mem_map.mp hit
    exact compF_one (k := false) (y := .none) (v_callE (v_cons (v_var hr_eq) (v_cons (d := q.d) rfl (v_cons (d := W.d) rfl (es_nil _ _)))) (goes_eq B (n + 2) (h.2.1 c hcm) q (s2 c hcm) h.1 (n42 hn))) rfl nofun
end

set_option maxRecDepth 100000
set_option maxHeartbeats 800000
noncomputable def fn_law : Fn := ⟨["_law_script"], [
    .assign "_law_query" (.sub (.call "_law_built" [.var "_law_script"]) (.int 0)),
    .assign "_law_widths_here" (.call "_law_widths" [.var "_law_script"]),
    .assign "_law_found" (.call "plan" [.var "_law_query", .var "_law_widths_here"]),
    .ite (.bop .Or [.not (.call "_law_like" [.var "_law_found", .var "_law_query"]), .not (.call "_law_settled" [.var "_law_found", .var "_law_widths_here"])]) [.ret (.bool false)] [],
    .assign "_law_names_here" (.call "_law_names" [.var "_law_script"]),
    .assign "_law_wider" (.call "_law_widths" [.var "_law_script"]),
    .setk "_law_wider" (.sub (.var "_law_names_here") (.int 0)) (.bin .Add (.sub (.var "_law_widths_here") (.sub (.var "_law_names_here") (.int 0))) (.int 1)),
    .assign "_law_clauses" (.call "_law_clauses_by" [.bin .Add (.bin .Mult (.call "_law_cell_at" [.var "_law_script", .int 6]) (.int 4)) (.int 3), .bin .Add (.sub (.var "_law_widths_here") (.sub (.var "_law_names_here") (.int 0))) (.sub (.var "_law_widths_here") (.sub (.var "_law_names_here") (.int 1)))]),
    .assign "_law_query" (.tup [.str "sieve", .var "_law_clauses", .tup [.str "join", .tup [.str "table", .sub (.var "_law_names_here") (.int 0)], .tup [.str "table", .sub (.var "_law_names_here") (.int 1)], .tup []]]),
    .for_ "_law_some" (.lst [.var "_law_widths_here", .var "_law_wider", .var "_law_widths_here"]) [.assign "_law_found" (.call "plan" [.var "_law_query", .var "_law_some"]), .ite (.bop .Or [.not (.call "_law_like" [.var "_law_found", .var "_law_query"]), .not (.call "_law_settled" [.var "_law_found", .var "_law_some"])]) [.ret (.bool false)] []],
    .ret (.bool true)]⟩
noncomputable def PP : List (String × Fn) := [("_law_thing_by", fn_law_thing_by), ("_law_number", fn_law_number), ("is_pair", fn_is_pair), ("places_of", fn_places_of), ("need_columns", fn_need_columns), ("_law_many", fn_law_many), ("_law_pairs_by", fn_law_pairs_by), ("_law_one_by", fn_law_one_by), ("_law_places", fn_law_places), ("_law_one_right", fn_law_one_right), ("over", fn_over), ("through_group", fn_through_group), ("through_join", fn_through_join), ("turned", fn_turned), ("width_upon", fn_width_upon), ("width_of_two", fn_width_of_two), ("_law_rows_of", fn_law_rows_of), ("_law_keys_by", fn_law_keys_by), ("_law_sums_by", fn_law_sums_by), ("_law_places_by", fn_law_places_by), ("_law_of_two", fn_law_of_two), ("_law_sieve_on", fn_law_sieve_on), ("_law_clause_by", fn_law_clause_by), ("_law_sign_by", fn_law_sign_by), ("_law_goes_on", fn_law_goes_on), ("_law_width", fn_law_width), ("_law_clauses_right", fn_law_clauses_right), ("_law_part_is", fn_law_part_is), ("_law_cell_is", fn_law_cell_is), ("_law_bare", fn_law_bare), ("placed", fn_placed), ("width", fn_width), ("_law_wide_by", fn_law_wide_by), ("_law_leaf", fn_law_leaf), ("_law_mixed", fn_law_mixed), ("_law_around", fn_law_around), ("_law_stepped", fn_law_stepped), ("_law_cell_at", fn_law_cell_at), ("_law_clauses_by", fn_law_clauses_by), ("_law_names", fn_law_names), ("_law_settled", fn_law_settled), ("_law_like", fn_law_like), ("plan", fn_plan), ("_law_widths", fn_law_widths), ("_law_built", fn_law_built), ("law", fn_law)]
noncomputable def X7 : CF := ⟨fun _ _ => none, fun x => if x = "STEPS" then some (.tup steps) else none⟩
theorem be : BE PP := ⟨⟨⟨⟨rfl, rfl, rfl, rfl⟩, rfl, rfl⟩, rfl, rfl, rfl, rfl, rfl, rfl, rfl, rfl, rfl⟩, rfl, rfl, rfl, rfl, rfl, rfl, rfl⟩
theorem bl : BL PP := ⟨⟨rfl, rfl, rfl⟩, rfl⟩
theorem bp : BP PP := ⟨⟨rfl, rfl, rfl, rfl, rfl⟩, rfl, rfl, rfl, rfl, rfl, rfl, rfl⟩
theorem bm : BM PP := ⟨rfl, rfl, rfl, rfl, rfl, rfl, rfl⟩
section
variable {cf : CF}
theorem r_asg {z : String} {e : ME} {r : List MS} {σ : St} {d R : D} {fr f : Bool} (h : evF cf (vis σ) e = some (d, fr)) (k : ∀ σ' : St, (∀ x u, (x == z) = false → Has σ x u → Has σ' x u) → σ'.lookup z = some (fr, d) → (∀ x u, (x == z) = false → e.names.contains x = false → OwnV σ x u → OwnV σ' x u) → Run cf r σ' R f) : Run cf (.assign z e :: r) σ R f :=
  r_step (p_assign h) (k _ (fun x u hx i => h_ne hx (h_st i)) (by rw [lookup_setv, if_pos rfl]) fun x u hx hn i => w_ne hx (w_st hn i))
theorem r_stk {z : String} {e ke : ME} {r : List MS} {σ : St} {d dk R : D} {ks vs : List D} {f : Bool} (h : evE cf (vis σ) e = some d) (hk : evE cf (vis σ) ke = some dk) (hl : OwnV σ z (.dict ks vs)) (h1 : e.names.contains z = false) (h2 : ke.names.contains z = false) (hb : (keyOk dk ks && decide (ks.length < big)) = true)
    (k : ∀ σ' : St, (∀ x u, (x == z) = false → Has σ x u → Has σ' x u) → OwnV σ' z (.dict (dput ks vs dk d).1 (dput ks vs dk d).2) → Run cf r σ' R f) : Run cf (.setk z ke e :: r) σ R f :=
  r_step (p_setk h hk (w_st h2 (w_st h1 hl)) hb) (k _ (fun x u hx i => h_ne hx (h_st (h_st i))) w_eq)
end
theorem round (n : Nat) {W : Wd} {q : Q} (ok : q.ok W) (hc : q.cp ≤ 480) (hp : q.pr ≤ 100) (hd : q.dp ≤ 40) (nar : q.nar W 5000) : ∃ F, (callN PP X7 (n + 279)).call "plan" [q.d, W.d] = some (F, false) ∧ (callN PP X7 (n + 279)).call "_law_like" [F, q.d] = some (.bool true, false) ∧ (callN PP X7 (n + 279)).call "_law_settled" [F, W.d] = some (.bool true, false) := by
  have hX : X7.glob "STEPS" = some (.tup steps) := rfl
  have g1 : q.cp + ([] : List (List D)).length ≤ 1000 := by show q.cp + 0 ≤ 1000; omega
  have g2 : q.pr + q.cp + ([] : List (List D)).length ≤ 5000 := by show q.pr + q.cp + 0 ≤ 5000; omega
  have pk := placed_ok (W := W) q [] ok (fun _ h => nomatch h) g1 g2 nar
  have hf : (q.placed W []).dp ≤ 81 := by have := pk.dp; omega
  exact ⟨_, plan_eq bp hX q (n + 272) ok (by omega) nar (by omega), like_eq bl (n + 277) (Lk.placed [] (Lk.refl q)) ok (by omega) (by omega) (by omega),
    settled_eq bm (q.placed W []) (n + 278) (placed_st q [] ⟨ok, (fun _ h => nomatch h), g1, g2, nar⟩) pk.ok (by omega)⟩
theorem tst_up {m m' : Nat} (h : m ≤ m') {t : D} (ht : Tst m t) : Tst m' t := by
  obtain ⟨w, p, hw, hp, ⟨q, hq, rfl⟩ | ⟨o, ho, rfl⟩⟩ := ht
  · exact ⟨w, p, hw, Nat.lt_of_lt_of_le hp h, .inl ⟨q, Nat.lt_of_lt_of_le hq h, rfl⟩⟩
  · exact ⟨w, p, hw, Nat.lt_of_lt_of_le hp h, .inr ⟨o, ho, rfl⟩⟩
noncomputable def body12 : List MS := [.assign "_law_found" (.call "plan" [.var "_law_query", .var "_law_some"]), .ite (.bop .Or [.not (.call "_law_like" [.var "_law_found", .var "_law_query"]), .not (.call "_law_settled" [.var "_law_found", .var "_law_some"])]) [.ret (.bool false)] []]
theorem loop12 {cf : CF} {G : D} {its : List D} (h : ∀ it ∈ its, ∃ F, cf.call "plan" [G, it] = some (F, false) ∧ cf.call "_law_like" [F, G] = some (.bool true, false) ∧ cf.call "_law_settled" [F, it] = some (.bool true, false)) {σ : St} (i : Has σ "_law_query" G) :
    ∃ σ', Has σ' "_law_query" G ∧ forD (bodyF cf body12 "_law_some") its σ = some (.next, σ') := by
  refine loop_inv (cf := cf) (body := body12) (z := "_law_some") (fun _ σ => Has σ "_law_query" G) its [] σ i ?_
  rintro a it b σ hab i
  rw [List.nil_append] at hab
  obtain ⟨F, k1, k2, k3⟩ := h it (by rw [hab]; simp)
  refine o_step (p_assign (v_call (v_cons (v_var (hr_vis (h_ne rfl i))) (v_cons (v_var (hr_vis h_eq)) (es_nil _ _))) k1)) ?_
  have j1 := h_ne (y := "_law_found") (v := (false, F)) rfl (h_st (e := F) (ns := ME.names (.call "plan" [.var "_law_query", .var "_law_some"])) (h_ne (y := "_law_some") (v := (false, it)) rfl i))
  have j2 := h_ne (y := "_law_found") (v := (false, F)) rfl (h_st (e := F) (ns := ME.names (.call "plan" [.var "_law_query", .var "_law_some"])) (h_eq (σ := σ) (x := "_law_some") (fr := false) (d := it)))
  exact o_if (k := false) (x := .bool (false || false)) (v_or (k := false) (l := false) (v_not (k := true) (v_callE (v_cons (v_var (hr_vis h_eq)) (v_cons (v_var (hr_vis j1)) (es_nil _ _))) k2) rfl) fun _ => v_bop1 (v_not (k := true) (v_callE (v_cons (v_var (hr_vis h_eq)) (v_cons (v_var (hr_vis j2)) (es_nil _ _))) k3) rfl)) rfl nofun fun _ => o_nil ⟨rfl, j1⟩
theorem w3_at {a b c : Str} {x y z : Nat} (hab : a ≠ b) : (W3 a b c x y z).lookup a = some x ∧ (W3 a b c x y z).lookup b = some y := by
  unfold W3
  refine ⟨by rw [List.lookup_cons, beq_self_eq_true], ?_⟩
  rw [List.lookup_cons, show (b == a) = false from by simpa using hab.symm, List.lookup_cons, beq_self_eq_true]
theorem pure_ok (n : Nat) (ns : List Int) : ∃ fr, (callN PP X7 (n + 280)).call "law" [.list (ns.map .int)] = some (.bool true, fr) := by
  have hX : X7.glob "STEPS" = some (.tup steps) := rfl
  obtain ⟨a, b, c, ⟨hab, hac, hbc⟩, hn⟩ := names_eq (X := X7) be ns
  have hw : (callN PP X7 (n + 279)).call "_law_widths" [.list (ns.map .int)] = _ := widths_eq be (n + 276) ns hab hac hbc (hn (n + 276))
  have hl := fun n k hk => leaf_eq be n ns hab hac hbc (hn n) k hk
  have hc6 := cell_at (X := X7) be.toBN.toBD.toBG (n + 278) ns 6
  have hnm := hn (n + 277)
  have wx := wide_le (ns.getD 0 0)
  have wy := wide_le (ns.getD 1 0)
  generalize ns.getD 6 0 = z6 at *
  generalize wideV (ns.getD 0 0) = x at *
  generalize wideV (ns.getD 1 0) = y at *
  generalize wideV (ns.getD 2 0) = z at *
  obtain ⟨d, fr, ⟨q, r, k, t, rfl⟩, hb⟩ := built_eq be (n + 270) hl
  have h1 := t.cp; have h2 := t.pr; have h3 := t.dp
  obtain ⟨F, k1, k2, k3⟩ := round n t.ok (by omega) (by omega) (by omega) t.nar
  obtain ⟨cs, c1, c2, c3⟩ := clauses_by (X := X7) be.toBN (n + 274) (z6 * 4 + 3) (x + y) (by omega)
  obtain ⟨wa, wb⟩ := w3_at (c := c) (x := x) (y := y) (z := z) hab
  obtain ⟨wa', wb'⟩ := w3_at (c := c) (x := x + 1) (y := y) (z := z) hab
  have rd : ∀ W : Wd, ∀ x', W.lookup a = some x' → W.lookup b = some y → x ≤ x' → x' ≤ 13 → ∃ F, (callN PP X7 (n + 279)).call "plan" [(Q.sieve cs (.join (.table a) (.table b) [])).d, W.d] = some (F, false) ∧ (callN PP X7 (n + 279)).call "_law_like" [F, (Q.sieve cs (.join (.table a) (.table b) [])).d] = some (.bool true, false) ∧ (callN PP X7 (n + 279)).call "_law_settled" [F, W.d] = some (.bool true, false) := fun W x' e1 e2 hx hx2 => by
    have w1 : (Q.table a).wd W = x' := by show (W.lookup a).getD 0 = x'; rw [e1]; rfl
    have w2 : (Q.table b).wd W = y := by show (W.lookup b).getD 0 = y; rw [e2]; rfl
    have w3 : (Q.join (.table a) (.table b) []).wd W = x' + y := by show (Q.table a).wd W + (Q.table b).wd W = _; rw [w1, w2]
    refine round n ⟨⟨⟨_, e1⟩, ⟨_, e2⟩, (fun _ h => nomatch h), Nat.zero_le _⟩, fun c hc => ?_, by omega⟩ (by show cs.length + max 0 0 ≤ 480; omega) (by show max 0 (max 0 0) ≤ 100; decide) (by show max 0 0 + 1 + 1 ≤ 40; decide) ⟨trivial, trivial, by rw [w1, w2]; omega⟩
    rw [w3]
    exact ⟨fun t ht => tst_up (by omega) ((c1 c hc).1 t ht), (c1 c hc).2⟩
  have R1 := rd _ x wa wb (by omega) (by omega)
  have R2 := rd _ (x + 1) wa' wb' (by omega) (by omega)
  refine ⟨false, run_call (by rfl : PP.lookup "law" = some fn_law) rfl ?_⟩
  have s0 : subD (topD (W3 a b c x y z) q r k) (.int 0) = some q.d := rfl
  have sa : subD (W3 a b c x y z).d (.str a) = some (.int x) := (wd_mem wa).2
  have sb : subD (W3 a b c x y z).d (.str b) = some (.int y) := (wd_mem wb).2
  have hput : (D.dict (dput [.str a, .str b, .str c] [natD x, natD y, natD z] (.str a) (.int (x + 1 : Int))).1 (dput [.str a, .str b, .str c] [natD x, natD y, natD z] (.str a) (.int (x + 1 : Int))).2) = (W3 a b c (x + 1) y z).d := by
    have e : keyEq (.str a) (.str a) = true := by show (a == a) = true; exact beq_self_eq_true a
    unfold dput
    rw [if_pos e]
    rfl
  have hVe : (W3 a b c x y z).d = .dict [.str a, .str b, .str c] [natD x, natD y, natD z] := rfl
  generalize topD (W3 a b c x y z) q r k = T at *
  generalize hG : q.d = G at *
  generalize hV2 : (W3 a b c (x + 1) y z).d = V2 at *
  generalize hV : (W3 a b c x y z).d = V at *
  generalize hG2 : (Q.sieve cs (.join (.table a) (.table b) [])).d = G2 at *
  generalize D.list (ns.map .int) = S at *
  have hb : (callN PP X7 (n + 279)).call "_law_built" [S] = some (T, fr) := hb
  have c3 : (callN PP X7 (n + 279)).call "_law_clauses_by" [.int (z6 * 4 + 3), .int (x + y : Nat)] = some (.tup (cs.map clD), false) := c3
  show Run _ fn_law.body [("_law_script", (false, S))] _ _
  generalize callN PP X7 (n + 279) = cf at *
  refine r_asg (d := G) (v_map (v_sub (v_callE (v_cons (d := S) rfl (es_nil _ _)) hb) (e_int _ _ _) s0) rfl rfl) fun σ1 p1 z1 _ => ?_
  have i0 := p1 "_law_script" S rfl h_cons
  refine r_asg (v_call (v_cons (v_var (hr_vis i0)) (es_nil _ _)) hw) fun σ2 p2 z2 _ => ?_
  have j0 := p2 _ _ rfl i0
  have j1 := p2 "_law_query" G rfl ⟨_, z1⟩
  refine r_asg (v_call (v_cons (v_var (hr_vis j1)) (v_cons (v_var (hr_vis ⟨_, z2⟩)) (es_nil _ _))) k1) fun σ3 p3 z3 _ => ?_
  have l0 := p3 _ _ rfl j0
  have l1 := p3 _ _ rfl j1
  have l2 := p3 "_law_widths_here" V rfl ⟨_, z2⟩
  refine skX (k := false || false) (v_or (k := false) (l := false) (v_not (k := true) (v_callE (v_cons (v_var (hr_vis ⟨_, z3⟩)) (v_cons (v_var (hr_vis l1)) (es_nil _ _))) k2) rfl) fun _ => v_bop1 (v_not (k := true) (v_callE (v_cons (v_var (hr_vis ⟨_, z3⟩)) (v_cons (v_var (hr_vis l2)) (es_nil _ _))) k3) rfl)) rfl ?_
  refine r_asg (v_call (v_cons (v_var (hr_vis l0)) (es_nil _ _)) hnm) fun σ4 p4 z4 _ => ?_
  have m0 := p4 _ _ rfl l0
  have m2 := p4 _ _ rfl l2
  refine r_asg (v_call (v_cons (v_var (hr_vis m0)) (es_nil _ _)) hw) fun σ5 p5 z5 _ => ?_
  have n0 := p5 _ _ rfl m0
  have n2 := p5 _ _ rfl m2
  have n3 := p5 "_law_names_here" (.list [.str a, .str b, .str c]) rfl ⟨_, z4⟩
  have va : ∀ {σ : St}, Has σ "_law_names_here" (.list [.str a, .str b, .str c]) → evE cf (vis σ) (.sub (.var "_law_names_here") (.int 0)) = some (.str a) := fun h => v_sub (v_var (hr_vis h)) (e_int _ _ _) rfl
  have vb : ∀ {σ : St}, Has σ "_law_names_here" (.list [.str a, .str b, .str c]) → evE cf (vis σ) (.sub (.var "_law_names_here") (.int 1)) = some (.str b) := fun h => v_sub (v_var (hr_vis h)) (e_int _ _ _) rfl
  refine r_stk (ks := [.str a, .str b, .str c]) (vs := [natD x, natD y, natD z]) (v_bin (v_sub (v_var (hr_vis n2)) (va n3) sa) (e_int _ _ _) b_add) (va n3) (hVe ▸ z5) rfl rfl rfl fun σ6 p6 z6' => ?_
  rw [hput] at z6'
  have o0 := p6 _ _ rfl n0
  have o2 := p6 _ _ rfl n2
  have o3 := p6 _ _ rfl n3
  have hxy : binD .Add (.int x) (.int y) = some (.int (x + y : Nat)) := by show some (D.int ((x : Int) + y)) = _; rw [Int.natCast_add]
  refine r_asg (v_call (v_cons (v_bin (v_bin (v_callE (v_cons (v_var (hr_vis o0)) (v_cons (e_int _ _ _) (es_nil _ _))) hc6) (e_int _ _ _) (b_mul (by decide))) (e_int _ _ _) b_add) (v_cons (v_bin (v_sub (v_var (hr_vis o2)) (va o3) sa) (v_sub (v_var (hr_vis o2)) (vb o3) sb) hxy) (es_nil _ _))) c3) fun σ7 p7 z7 _ => ?_
  have u2 := p7 _ _ rfl o2
  have u3 := p7 _ _ rfl o3
  have u4 := p7 _ _ rfl (h_own z6')
  have q2 : evE cf (vis σ7) (.tup [.str "sieve", .var "_law_clauses", .tup [.str "join", .tup [.str "table", .sub (.var "_law_names_here") (.int 0)], .tup [.str "table", .sub (.var "_law_names_here") (.int 1)], .tup []]]) = some G2 := by
    rw [← hG2]
    exact v_tup (v_cons (e_str _ _ _) (v_cons (v_var (hr_vis ⟨_, z7⟩)) (v_cons (v_tup (v_cons (e_str _ _ _) (v_cons (v_tup (v_cons (e_str _ _ _) (v_cons (va u3) (es_nil _ _))) (Nat.le_of_ble_eq_true rfl)) (v_cons (v_tup (v_cons (e_str _ _ _) (v_cons (vb u3) (es_nil _ _))) (Nat.le_of_ble_eq_true rfl)) (v_cons (v_tup (es_nil _ _) (Nat.le_of_ble_eq_true rfl)) (es_nil _ _))))) (Nat.le_of_ble_eq_true rfl)) (es_nil _ _)))) (Nat.le_of_ble_eq_true rfl)
  refine r_asg (d := G2) (fr := false) (v_map q2 rfl rfl) fun σ8 p8 z8 _ => ?_
  have x2 := p8 _ _ rfl u2
  have x4 := p8 _ _ rfl u4
  obtain ⟨σ9, _, hfor⟩ := loop12 (cf := cf) (G := G2) (its := [V, V2, V]) (by
    intro it hit
    simp only [List.mem_cons, List.not_mem_nil, or_false] at hit
    rcases hit with rfl | rfl | rfl
    · exact R1
    · exact R2
    · exact R1) (σ := freeze ["_law_widths_here", "_law_wider", "_law_widths_here"] σ8) (h_fr ⟨_, z8⟩)
  exact r_for (x := .list [V, V2, V]) (its := [V, V2, V]) (v_lst (v_cons (v_var (hr_vis x2)) (v_cons (v_var (hr_vis x4)) (v_cons (v_var (hr_vis x2)) (es_nil _ _)))) (Nat.le_of_ble_eq_true rfl)) rfl hfor (r_ret (v_map (e_bool _ _ _) rfl rfl) rfl)

noncomputable def GlobOk (mg : Str → Option Value) (h : Heap) : Prop := ∃ a vs n, mg (Str.ofString "STEPS") = some (.ref a) ∧ h.get? a = some (tupO vs n) ∧ strsAre vs.toList stepNames = true
theorem GlobOk.keeps {mg : Str → Option Value} {h h' : Heap} (x : GlobOk mg h) (hk : ∀ b o, h.get? b = some o → h'.get? b = some o) : GlobOk mg h' := let ⟨a, vs, n, h1, h2, h3⟩ := x; ⟨a, vs, n, h1, hk _ _ h2, h3⟩
theorem glob_of (s : Shared) (e : stepsAt s = true) : GlobOk (s.heap.nsMap mainGlobals) s.heap := by
  unfold stepsAt at e
  split at e
  · rename_i a ha
    split at e
    · rename_i o ho
      unfold stepsObj at e
      simp only [Bool.and_eq_true, beq_iff_eq, Option.isNone_iff_eq_none, Array.isEmpty_iff] at e
      obtain ⟨⟨⟨e1, e2⟩, e3⟩, e4⟩ := e
      split at e1
      · rename_i vs n hd
        refine ⟨a, vs, n, ha, ?_, e1⟩
        rw [ho]
        obtain ⟨c, d, dt, sl⟩ := o
        dsimp only at e2 e3 e4 hd
        subst e2 e3 e4 hd
        rfl
      · cases e1
    · cases e
  · cases e
theorem reps_strs {P : Params} {h : Heap} {H : Addr → Prop} : ∀ {vs : List Value} {ys : List Str}, strsAre vs ys = true → RepAll P h H vs (ys.map .str)
  | [], [], _ => .nil
  | [], _ :: _, e => by cases e
  | _ :: _, [], e => by cases e
  | v :: vs, y :: ys, e => by
    rw [strsAre, Bool.and_eq_true] at e
    obtain ⟨e1, e2⟩ := e
    refine .cons ?_ (reps_strs e2)
    cases v <;> first | (cases e1; done) | skip
    rename_i x t
    have e3 : (x == y) = true := e1
    rw [beq_iff_eq] at e3
    subst e3
    exact .str _ _
theorem hx7 {prog : Program} {w : World} {base : Heap} {mg : Str → Option Value} {A : Around} (g : GlobOk mg base) : CSound prog w base mg X7 A := by
  refine ⟨(fun _ _ _ _ h => nomatch h), fun x d h => ?_⟩
  have h : (if x = "STEPS" then some (D.tup steps) else none) = some d := h
  split at h
  · rename_i hx
    cases h
    subst hx
    obtain ⟨a, vs, n, h1, h2, h3⟩ := g
    refine ⟨_, h1, .tup h2 (fun q => q) (by decide) ?_⟩
    exact reps_strs h3
  · cases h
end Mine
namespace Mine
open PySem PySem.W PyProof.Rows
set_option maxRecDepth 100000
set_option maxHeartbeats 0
theorem chkd : chkProg (recsOf vw) PP = true := by decide +kernel
theorem freed : bltFree vw (looseW vw []) = true := by decide +kernel
end Mine
open PySem PySem.W PyProof.Rows
set_option maxRecDepth 100000 in
set_option maxHeartbeats 8000000 in
theorem PySem.Challenge.cw_uf030018_12_holds : PySem.Challenge.rw_uf030018_12.Holds := by
  refine holds_law Mine.ws fun said => ?_
  refine holds_open (q := Mine.vw) (loose := []) (Xt := fun s => (xlAt Mine.vw [] s && recOk (RowW.records PySem.Challenge.rw_uf030018_12.row.toRowW) s) && (Mine.tbAt s && Mine.stepsAt s)) (XP := (fun mg h => XL Mine.vw [] mg h ∧ Mine.TbOk mg h ∧ Mine.GlobOk mg h)) (Yf := Hook.obs Hook.none) (Ya := Hook.val Hook.none) (YP := Hook.says Hook.none) (N := 20000) Mine.left (Hook.of Hook.none) (Hook.keeps Hook.none) (fun s e => ⟨xl_of s (Bool.and_eq_true_iff.mp (Bool.and_eq_true_iff.mp e).1).1, Mine.tb_of s (Bool.and_eq_true_iff.mp (Bool.and_eq_true_iff.mp e).2).1, Mine.glob_of s (Bool.and_eq_true_iff.mp (Bool.and_eq_true_iff.mp e).2).2⟩) (fun mg h h' x k => ⟨XL.keeps mg h h' x.1 k, Mine.TbOk.keeps x.2.1 k, Mine.GlobOk.keeps x.2.2 k⟩) Mine.dlDef Mine.dlIs Mine.dlKw (fun s e => recFacts_of (Bool.and_eq_true_iff.mp (Bool.and_eq_true_iff.mp e).1).2) (by rfl) said Mine.okAll ⟨rfl, rfl, rfl, rfl, rfl, by decide +kernel⟩ ?hw ?hc
  (case hw => w_witness2)
  intro w s₀ s₁ mg mb G Y fa o pm cd doc dV kV ho hd hcd hD hmg hg args vals as hpre hlay hrd hwl hlo
  rw [Mine.dlName] at hmg
  refine Ground.open G ?_
  intro T B D TE TW
  wrow_args hpre hlay hrd hwl hlo
  exact Mine.law_fin (P := Mine.PP) (X := Mine.X7) 280 T Mine.chkd Mine.freed (by decide) (fun _ _ => Mine.hx7 G.X.2.2) G.X.2.1 hmg hg (by assumption) (by assumption) (Mine.pure_ok _ _)
