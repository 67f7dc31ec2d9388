import PyProof.Rows.All
import Wide.All
import OpenK.AllK
import Wide.FinOn
import PyProof.Cells
import PyProof.RangeIter
import PyProof.CodeObjX
import PyProof.FactsAll.tuple
import PyProof.DictKinds
import PyProof.CompMap
import PyProof.DictKind
import PyProof.Rows.Tup
import PyProof.DictRoads
import PyProof.DictDisplay
import PyProof.NeKinds
import PyProof.DictRoadsH
import PyProof.StrBlockI
import PyProof.StrBlock2
import PyProof.CompFree
import PyProof.Rows.IntRules
import PyProof.Rows.RuleB_mul
import PyProof.Rows.RuleB_floordiv
import PyProof.Rows.RuleB_pow
import PyProof.Rows.RuleB_mod
import PyProof.Rows.RuleC_int
import PyProof.Rows.RuleU_int
import PyProof.Rows.StrRules
import PyProof.Rows.Nodes
import PyProof.Rows.TupSub
import PyProof.ListOps
import PyProof.TupleOps
import PyProof.DictStraight
import PyProof.Rows.Lst
import PyProof.Rows.TupMore
import PyProof.Rows.StrTemp
import PyProof.ListTruth
import PyProof.TupleOfSeq
import PyProof.CallStr
import PyProof.RangeFor
import PyProof.Conv_int_bool
import PyProof.SliceStr2
import PyProof.SliceMore
import PyProof.ListIndexNeg
import PyProof.IsiPairs
import PyProof.IsiHeapPairs
import PyProof.Rows.Exc
import PyProof.Rows.Globals
import PyProof.IsiTuple
import PyProof.ListCopy
import PyProof.WalkInts
import PyProof.Rows.SumAny
import KE.KDictList
import PyProof.WalksMore
import PyProof.Rows.StrTempNeg
import PyProof.Rows.SortRuns
import KE.KSortTup
import PyProof.Rows.RuleB_bool
import PyProof.SetKind
import PyProof.SetRoads
import PyProof.Rows.SetFrom
import PyProof.Rows.SortShell
import KE.KLam
import PyProof.ForAppend
import KE.KRevIter
import PyProof.TupleCall
import PyProof.CallTypeRange
import PyProof.Rows.Walk
import PySem.Challenge.RW_uf030018_07
set_option Elab.async false
set_option linter.all false
set_option backward.eqns.nonrecursive false
set_option genSizeOf false
namespace Mine
open PySem
/-- the place of the table of inner codes of the def that makes lambdas (a law's own number: join3 sets it; no proof looks at it) -/
noncomputable def tb : Addr := 125
/-- the place of that def's code (a law's own number, too) -/
noncomputable def oc : Addr := 129
/-- that def's name (a law's own, too), and its lambdas' -/
noncomputable def lamN : Str := Str.ofString "ordered"
noncomputable def lamP : Str := lamN ++ ".<locals>."
noncomputable def lamQ : Str := lamP ++ "<lambda>"
/-- a table of inner codes or a code: what a lambda's making looks at and changes -/
noncomputable def isTab (o : Obj) : Bool := match o.cls, o.data with
  | .none, .fields _ => true
  | .type "code", .fields _ => true
  | _, _ => false
noncomputable abbrev tabE : Obj := { cls := .none, data := .fields #[] }
/-- a lambda's code -/
noncomputable def LamAt (h : Heap) (c : Addr) : Prop := ∃ o vs t, h.get? c = some o ∧ o.cls = .type "code" ∧ o.data = .fields vs ∧ vs[1]? = some (.str lamQ t)
noncomputable def TrOk (h : Heap) : List Value → Prop
  | [] => True
  | .int _ _ :: .int _ _ :: .ref c :: r => LamAt h c ∧ TrOk h r
  | _ => False
/-- a table of lambdas' codes -/
noncomputable def GoodT (h : Heap) (o : Obj) : Prop := ∃ xs, o = { cls := .none, data := .fields xs } ∧ TrOk h xs.toList
open Classical in
/-- the heap with that table blanked, if it is good -/
noncomputable def gat (h : Heap) (a : Addr) : Option Obj :=
  if a = tb then (h.get? a).bind fun o => if isTab o = true then (if GoodT h o then some tabE else none) else some o else h.get? a

section
variable {h h' : Heap} {a : Addr} {o : Obj}
theorem isTab_code (hc : o.cls = .type "code") {vs : Array Value} (hd : o.data = .fields vs) : isTab o = true := by
  unfold isTab; rw [hc, hd]; rfl
theorem LamAt.mono {c : Addr} (x : LamAt h c) (hk : ∀ b o, h.get? b = some o → isTab o = true → o.cls ≠ .none → h'.get? b = some o) : LamAt h' c :=
  let ⟨o, vs, t, e, hc, hd, r⟩ := x; ⟨o, vs, t, hk _ _ e (isTab_code hc hd) (by rw [hc]; nofun), hc, hd, r⟩
theorem TrOk.mono (hk : ∀ b o, h.get? b = some o → isTab o = true → o.cls ≠ .none → h'.get? b = some o) : ∀ l, TrOk h l → TrOk h' l := fun l => by
  fun_induction TrOk h l with
  | case1 => exact id
  | case2 a t b u c r ih => exact fun x => ⟨x.1.mono hk, ih x.2⟩
  | case3 l h1 h2 => exact False.elim
theorem TrOk.triples : ∀ l, TrOk h l → TriplesOk l := fun l => by
  fun_induction TrOk h l with
  | case1 => exact fun _ => trivial
  | case2 a t b u c r ih => exact fun x => ih x.2
  | case3 l h1 h2 => exact False.elim
theorem TrOk.snoc {c : Addr} (a b : Int) (hc : LamAt h c) : ∀ l, TrOk h l → TrOk h (l ++ [rawInt a, rawInt b, .ref c]) := fun l => by
  fun_induction TrOk h l with
  | case1 => exact fun _ => ⟨hc, trivial⟩
  | case2 a t b u c r ih => exact fun x => ⟨x.1, ih x.2⟩
  | case3 l h1 h2 => exact False.elim
theorem TrOk.among {pos : Pos} {v : Value} : ∀ l, TrOk h l → codeAmong pos l = some v → ∃ c, v = .ref c ∧ LamAt h c := fun l => by
  fun_induction TrOk h l with
  | case1 => intro _ e; simp [codeAmong] at e
  | case2 a t b u c r ih =>
    intro x e
    simp only [codeAmong] at e
    split at e
    · cases e; exact ⟨c, rfl, x.1⟩
    · exact ih x.2 e
  | case3 l h1 h2 => exact False.elim
theorem GoodT.mono (x : GoodT h o) (hk : ∀ b o, h.get? b = some o → isTab o = true → o.cls ≠ .none → h'.get? b = some o) : GoodT h' o := let ⟨xs, e, r⟩ := x; ⟨xs, e, r.mono hk⟩
theorem GoodT.tab (x : GoodT h o) : isTab o = true := let ⟨_, e, _⟩ := x; e ▸ rfl
theorem GoodT.empty : GoodT h tabE := ⟨#[], rfl, trivial⟩

theorem Heap.gt_ne (hn : a ≠ tb) : gat h a = h.get? a := by unfold gat; rw [if_neg hn]
theorem Heap.gt_of (e : h.get? a = some o) (ht : isTab o = false := by rfl) : gat h a = some o := by
  unfold gat; split
  · rw [e, Option.bind_some, if_neg (by rw [ht]; nofun)]
  · exact e
theorem Heap.gt_good (e : h.get? tb = some o) (g : GoodT h o) : gat h tb = some tabE := by
  unfold gat; rw [if_pos rfl, e, Option.bind_some, if_pos g.tab, if_pos g]
theorem Heap.gt_some (e : gat h a = some o) : ∃ o', h.get? a = some o' ∧ (o' = o ∧ (a = tb → isTab o = false) ∨ a = tb ∧ o = tabE ∧ GoodT h o') := by
  unfold gat at e
  split at e
  · rename_i q
    rw [Option.bind_eq_some_iff] at e
    obtain ⟨o', e1, e2⟩ := e
    split at e2
    · split at e2
      · rename_i g; cases e2; exact ⟨o', e1, .inr ⟨q, rfl, g⟩⟩
      · cases e2
    · rename_i ht; cases e2; exact ⟨_, e1, .inl ⟨rfl, fun _ => by simpa using ht⟩⟩
  · rename_i q; exact ⟨o, e, .inl ⟨rfl, fun e => absurd e q⟩⟩
theorem Heap.of_gt' (e : gat h a = some o) (hne : o.cls ≠ .none) : h.get? a = some o := by
  obtain ⟨o', e1, ⟨rfl, _⟩ | ⟨_, e2, _⟩⟩ := gt_some e
  · exact e1
  · subst e2; exact absurd rfl hne
theorem Heap.of_gt (e : gat h a = some o) (ht : isTab o = false := by rfl) : h.get? a = some o := by
  obtain ⟨o', e1, ⟨rfl, _⟩ | ⟨_, e2, _⟩⟩ := gt_some e
  · exact e1
  · subst e2; cases ht
theorem Heap.gt_lt (e : gat h a = some o) : @LT.lt Nat _ a h.objs.size := let ⟨_, e, _⟩ := gt_some e; Heap.lt_size e
theorem Heap.gt_lift {F : Addr → Prop} (hF : ∀ b o, h.get? b = some o → isTab o = true → F b) (hk : ∀ b o, F b → h.get? b = some o → h'.get? b = some o) : ∀ b o, F b → gat h b = some o → gat h' b = some o := fun b o f e => by
  obtain ⟨o', e', ⟨rfl, q⟩ | ⟨rfl, rfl, g⟩⟩ := gt_some e
  · by_cases hb : b = tb
    · exact gt_of (hk b o' f e') (q hb)
    · rw [gt_ne hb]; exact hk b o' f e'
  · exact gt_good (hk _ o' f e') (g.mono fun b o e ht _ => hk b o (hF b o e ht) e)
/-- what was there is there -/
noncomputable def KH (h h' : Heap) : Prop := ∀ b o, gat h b = some o → gat h' b = some o
theorem Heap.gt_up (hk : ∀ b o, h.get? b = some o → h'.get? b = some o) : KH h h' :=
  fun b o e => gt_lift (F := fun _ => True) (fun _ _ _ _ => trivial) (fun b o _ e => hk b o e) b o trivial e
theorem Heap.gt_push_of_some (x : Obj) (e : gat h a = some o) : gat (h.push x) a = some o := gt_up (fun _ _ e => Heap.get?_push_of_some _ e) a o e
theorem Heap.gt_push_size (x : Obj) (hf : x.isFreed = false) (ht : isTab x = false := by rfl) : gat (h.push x) h.objs.size = some x := gt_of (Heap.get?_push_size _ hf) ht
theorem Heap.gt_none_of_le (e : @LE.le Nat _ h.objs.size a) : gat h a = none := by
  cases q : gat h a with
  | none => rfl
  | some o => obtain ⟨o', e', _⟩ := gt_some q; rw [Heap.get?_none_of_le e] at e'; cases e'
theorem g1 {b : Addr} (hs : Heap.SameBut b h h') (n : ∀ o, h.get? b = some o → isTab o = false) (a : Addr) (hn : a ≠ b) (e : gat h a = some o) : gat h' a = some o :=
  Heap.gt_lift (F := fun x => x ≠ b) (fun x o e ht q => by rw [n o (q ▸ e)] at ht; cases ht) (fun x o hx e => (hs.2 x hx).trans e) a o hn e
/-- the same but for one place, where no table and no code lies -/
structure Heap.SB (b : Addr) (h h' : Heap) : Prop where
  s : Heap.SameBut b h h'
  n : ∀ o, h.get? b = some o → isTab o = false
  n' : ∀ o, h'.get? b = some o → isTab o = false
theorem Heap.SB.g {b : Addr} (hs : Heap.SB b h h') (a : Addr) (hn : a ≠ b) : gat h' a = gat h a := by
  have one : ∀ {h h' : Heap}, Heap.SB b h h' → ∀ o, gat h a = some o → gat h' a = some o := fun {h h'} hs o e =>
    gt_lift (F := fun x => x ≠ b) (fun x o e ht q => by rw [hs.n o (q ▸ e)] at ht; cases ht) (fun x o hx e => (hs.s.2 x hx).trans e) a o hn e
  have hs' : Heap.SB b h' h := ⟨⟨hs.s.1.symm, fun x hx => (hs.s.2 x hx).symm⟩, hs.n', hs.n⟩
  cases q : gat h a with
  | some o => exact one hs o q
  | none =>
    cases q' : gat h' a with
    | none => rfl
    | some o => rw [one hs' o q'] at q; cases q
theorem notTab_of {o : Obj} (h : ∀ v, o.data ≠ .fields v) : isTab o = false := by
  unfold isTab
  split
  · next e => exact absurd e (h _)
  · next e => exact absurd e (h _)
  · rfl
theorem notTab_cls {o : Obj} (h : o.cls ≠ .none) (h2 : o.cls ≠ .type "code") : isTab o = false := by
  unfold isTab
  split
  · next e _ => exact absurd e h
  · next e _ => exact absurd e h2
  · rfl
theorem notTab_at (e : h.get? a = some o) (ht : isTab o = false := by rfl) : ∀ o, h.get? a = some o → isTab o = false := fun o' e' => by
  rw [e] at e'; cases e'; exact ht
theorem notTab_ns {m : Str → Option Value} (x : h.Ns a m) : ∀ o, h.get? a = some o → isTab o = false :=
  let ⟨_, _, _, e, hd, _⟩ := x; notTab_at e (notTab_of (by rw [hd]; nofun))
theorem notTab_cell {v : Option Value} (x : h.IsCell a v) : ∀ o, h.get? a = some o → isTab o = false :=
  let ⟨_, e, hd⟩ := x; notTab_at e (notTab_of (by rw [hd]; nofun))
theorem gt_ns {m : Str → Option Value} (x : h.Ns a m) : ∃ o, gat h a = some o := let ⟨_, _, _, e, _⟩ := id x; ⟨_, Heap.gt_of e (notTab_ns x _ e)⟩
theorem gt_cell {v : Option Value} (x : h.IsCell a v) : ∃ o, gat h a = some o := let ⟨_, e, _⟩ := id x; ⟨_, Heap.gt_of e (notTab_cell x _ e)⟩
end
end Mine
namespace Mine
open PySem

/-- by-value data -/
inductive D where
  | none
  | bool (b : Bool)
  | int (i : Int)
  | str (x : Str)
  | tup (ds : List D)
  | list (ds : List D)
  | dict (ks : List D) (vs : List D)
  | rng (a b : Int)

noncomputable def big : Nat := 2 ^ 24

/-- hashes of keys: ints, strs, tuples of these -/
noncomputable def hashC (P : Params) : D → Int
  | .int i => hashInt i
  | .str x => if x.cps.isEmpty = true then 0 else reduceHash (P.strHash x.cps)
  | _ => 0
noncomputable def hashK (P : Params) : D → Int
  | .tup ds => reduceHash (Builtin.Tuple.tupleHashOf (ds.map (hashC P)))
  | d => hashC P d
noncomputable def D.isCell : D → Bool
  | .int _ | .str _ => true
  | _ => false
noncomputable def D.isKey : D → Bool
  | .int _ | .str _ => true
  | .tup ds => ds.all D.isCell
  | _ => false

noncomputable abbrev tupO (vs : Array Value) (n : Nat) : Obj := { cls := .type "tuple", dict := Option.none, data := .seq vs n, slots := #[] }
noncomputable abbrev lstO (vs : Array Value) (n : Nat) : Obj := { cls := .type "list", dict := Option.none, data := .seq vs n, slots := #[] }
noncomputable abbrev dicO (es : Array DictEntry) (n : Nat) : Obj := { cls := .type "dict", dict := Option.none, data := .dict es n, slots := #[] }

mutual
/-- the value v stands for d in the heap h, by objects that lie outside of H -/
inductive Rep (P : Params) (h : Heap) (H : Addr → Prop) : Value → D → Prop
  | none : Rep P h H .none .none
  | bool (b : Bool) : Rep P h H (.bool b) (.bool b)
  | int (i : Int) (t : Tok) : Rep P h H (.int i t) (.int i)
  | str (x : Str) (t : Tok) : Rep P h H (.str x t) (.str x)
  | tup {a : Addr} {vs : Array Value} {n : Nat} {ds : List D} : h.get? a = some (tupO vs n) → ¬ H a → ds.length ≤ big → RepAll P h H vs.toList ds → Rep P h H (.ref a) (.tup ds)
  | list {a : Addr} {vs : Array Value} {n : Nat} {ds : List D} : h.get? a = some (lstO vs n) → ¬ H a → ds.length ≤ big → RepAll P h H vs.toList ds → Rep P h H (.ref a) (.list ds)
  | dict {a : Addr} {es : Array DictEntry} {n : Nat} {ks vs : List D} : h.get? a = some (dicO es n) → ¬ H a → ks.length ≤ big → RepAll P h H (es.toList.map (·.key)) ks → RepAll P h H (es.toList.map (·.val)) vs →
      es.toList.map (·.hash) = ks.map (hashK P) → ks.all D.isKey = true → ks.Nodup → (a == sysModules) = false → Rep P h H (.ref a) (.dict ks vs)
  | rng {a : Addr} {lo hi : Int} {t u v : Tok} : IsRange h a lo hi 1 t u v → ¬ H a → (-big ≤ lo ∧ lo ≤ big ∧ -big ≤ hi ∧ hi ≤ big) → Rep P h H (.ref a) (.rng lo hi)
inductive RepAll (P : Params) (h : Heap) (H : Addr → Prop) : List Value → List D → Prop
  | nil : RepAll P h H [] []
  | cons {v : Value} {d : D} {vs : List Value} {ds : List D} : Rep P h H v d → RepAll P h H vs ds → RepAll P h H (v :: vs) (d :: ds)
end

mutual
theorem Rep.mono {P : Params} {h h' : Heap} {H H' : Addr → Prop} (hk : ∀ a o, ¬ H a → gat h a = some o → gat h' a = some o) (hH : ∀ a o, gat h a = some o → H' a → H a) :
    ∀ {v : Value} {d : D}, Rep P h H v d → Rep P h' H' v d
  | _, _, .none => .none
  | _, _, .bool b => .bool b
  | _, _, .int i t => .int i t
  | _, _, .str x t => .str x t
  | _, _, .tup ho hn hl hr => .tup (Heap.of_gt (hk _ _ hn (Heap.gt_of ho))) (fun x => hn (hH _ _ (Heap.gt_of ho) x)) hl (RepAll.mono hk hH hr)
  | _, _, .list ho hn hl hr => .list (Heap.of_gt (hk _ _ hn (Heap.gt_of ho))) (fun x => hn (hH _ _ (Heap.gt_of ho) x)) hl (RepAll.mono hk hH hr)
  | _, _, .dict ho hn hl hr hr' e1 e2 e3 e4 => .dict (Heap.of_gt (hk _ _ hn (Heap.gt_of ho))) (fun x => hn (hH _ _ (Heap.gt_of ho) x)) hl (RepAll.mono hk hH hr) (RepAll.mono hk hH hr') e1 e2 e3 e4
  | _, _, .rng hr hn hl => .rng (Heap.of_gt (hk _ _ hn (Heap.gt_of hr))) (fun x => hn (hH _ _ (Heap.gt_of hr) x)) hl
theorem RepAll.mono {P : Params} {h h' : Heap} {H H' : Addr → Prop} (hk : ∀ a o, ¬ H a → gat h a = some o → gat h' a = some o) (hH : ∀ a o, gat h a = some o → H' a → H a) :
    ∀ {vs : List Value} {ds : List D}, RepAll P h H vs ds → RepAll P h' H' vs ds
  | _, _, .nil => .nil
  | _, _, .cons hv hr => .cons (Rep.mono hk hH hv) (RepAll.mono hk hH hr)
end

theorem Rep.keeps {P : Params} {h h' : Heap} {H : Addr → Prop} {v : Value} {d : D} (hr : Rep P h H v d) (hk : KH h h') : Rep P h' H v d :=
  hr.mono (fun a o _ e => hk a o e) (fun _ _ _ x => x)
theorem RepAll.keeps {P : Params} {h h' : Heap} {H : Addr → Prop} {v : List Value} {d : List D} (hr : RepAll P h H v d) (hk : KH h h') : RepAll P h' H v d :=
  hr.mono (fun a o _ e => hk a o e) (fun _ _ _ x => x)
theorem Rep.sub {P : Params} {h : Heap} {H H' : Addr → Prop} {v : Value} {d : D} (hr : Rep P h H v d) (hH : ∀ a, H' a → H a) : Rep P h H' v d :=
  hr.mono (fun _ _ _ e => e) (fun a _ _ x => hH a x)

theorem RepAll.length {P : Params} {h : Heap} {H : Addr → Prop} : ∀ {vs : List Value} {ds : List D}, RepAll P h H vs ds → vs.length = ds.length
  | _, _, .nil => rfl
  | _, _, .cons _ hr => by simp [RepAll.length hr]
theorem RepAll.append {P : Params} {h : Heap} {H : Addr → Prop} : ∀ {vs ws : List Value} {ds es : List D}, RepAll P h H vs ds → RepAll P h H ws es → RepAll P h H (vs ++ ws) (ds ++ es)
  | _, _, _, _, .nil, k => k
  | _, _, _, _, .cons hv hr, k => .cons hv (RepAll.append hr k)
theorem RepAll.get {P : Params} {h : Heap} {H : Addr → Prop} : ∀ {vs : List Value} {ds : List D} (i : Nat) {d : D}, RepAll P h H vs ds → ds[i]? = some d → ∃ v, vs[i]? = some v ∧ Rep P h H v d
  | _, _, _, _, .nil, e => by simp at e
  | _, _, 0, _, .cons hv hr, e => by simp at e; subst e; exact ⟨_, rfl, hv⟩
  | _, _, i + 1, _, .cons hv hr, e => by simpa using RepAll.get i hr (by simpa using e)
theorem Rep.off {P : Params} {h : Heap} {H : Addr → Prop} {a : Addr} {d : D} (hr : Rep P h H (.ref a) d) : ¬ H a := by
  cases hr <;> assumption
noncomputable def D.scalar : D → Bool
  | .none | .bool _ | .int _ | .str _ => true
  | _ => false
theorem Rep.scalar {P : Params} {h h' : Heap} {H H' : Addr → Prop} {v : Value} {d : D} (hr : Rep P h H v d) (hs : d.scalar = true) : Rep P h' H' v d := by
  cases hr <;> first | exact .none | exact .bool _ | exact .int _ _ | exact .str _ _ | cases hs

theorem ofString_inj {a b : String} (h : Str.ofString a = Str.ofString b) : a = b := by
  rw [Str.ofString_eq_toList, Str.ofString_eq_toList] at h
  have h1 : a.toList.map Char.toNat = b.toList.map Char.toNat := by simpa using h
  have h2 : a.toList = b.toList := by
    generalize a.toList = l at h1; generalize b.toList = m at h1
    induction l generalizing m with
    | nil => cases m <;> simp_all
    | cons x l ih =>
      cases m with
      | nil => simp at h1
      | cons y m =>
        simp only [List.map_cons, List.cons.injEq] at h1
        have : x = y := by
          have := h1.1
          exact Char.toNat_inj.mp this
        rw [this, ih _ h1.2]
  exact String.toList_inj.mp h2

end Mine
namespace Mine
open PySem PySem.SeqAt
/-! dicts with keys that are ints and strs -/
noncomputable abbrev CK := Int ⊕ Str
noncomputable def ofCK : CK → D
  | .inl i => .int i
  | .inr x => .str x
noncomputable def CK.is : CK → Value → Bool
  | .inl i, v => Value.isInt i v
  | .inr x, v => Value.isStrOf x v
theorem CK.is_inl {i : Int} {v : Value} (h : CK.is (.inl i) v = true) : ∃ t, v = .int i t := Value.isInt_shape h
theorem CK.is_inr {x : Str} {v : Value} (h : CK.is (.inr x) v = true) : ∃ t, v = .str x t := Value.isStrOf_shape h
noncomputable def cellKind (prog : Program) (w : World) : KeyKind prog w CK where
  is := CK.is
  hash := fun k => hashK w.params (ofCK k)
  inj := fun v a b ha hb => by
    cases a <;> cases b
    · obtain ⟨t, rfl⟩ := CK.is_inl ha
      obtain ⟨u, e⟩ := CK.is_inl hb
      cases e; rfl
    · obtain ⟨t, rfl⟩ := CK.is_inl ha
      obtain ⟨u, e⟩ := CK.is_inr hb
      cases e
    · obtain ⟨t, rfl⟩ := CK.is_inr ha
      obtain ⟨u, e⟩ := CK.is_inl hb
      cases e
    · obtain ⟨t, rfl⟩ := CK.is_inr ha
      obtain ⟨u, e⟩ := CK.is_inr hb
      cases e; rfl
  byValue := fun k v h => by
    cases k
    · obtain ⟨t, rfl⟩ := CK.is_inl h; rfl
    · obtain ⟨t, rfl⟩ := CK.is_inr h; rfl
  pyHash := fun {A E s k v Q} hv h => by
    cases k
    · obtain ⟨t, rfl⟩ := CK.is_inl hv; exact wpAny_pyHash_int h
    · obtain ⟨t, rfl⟩ := CK.is_inr hv; exact wpAny_pyHash_str h
  eqBool := fun {A E s a b u v Q} hu hv h => by
    cases a <;> cases b
    · rename_i i j
      obtain ⟨t, rfl⟩ := CK.is_inl hu
      obtain ⟨u, rfl⟩ := CK.is_inl hv
      have h' : Q (decide (i = j)) s := by simpa using h
      exact wpAny_eqBool_int h'
    · obtain ⟨t, rfl⟩ := CK.is_inl hu
      obtain ⟨u, rfl⟩ := CK.is_inr hv
      exact EqAt.int_str _ _ _ _ prog w E Q (by simpa using h)
    · obtain ⟨t, rfl⟩ := CK.is_inr hu
      obtain ⟨u, rfl⟩ := CK.is_inl hv
      exact EqAt.str_int _ _ _ _ prog w E Q (by simpa using h)
    · rename_i i j
      obtain ⟨t, rfl⟩ := CK.is_inr hu
      obtain ⟨u, rfl⟩ := CK.is_inr hv
      have h' : Q (decide (i = j)) s := by simpa using h
      exact wpAny_eqBool_str h'
  «strs» := fun k x t v h => by
    cases k
    · obtain ⟨u, e⟩ := CK.is_inl h; cases e
    · exact (strKind prog w).strs _ x t v h
theorem ofCK_inj {a b : CK} (h : ofCK a = ofCK b) : a = b := by
  cases a <;> cases b <;> cases h <;> rfl
theorem cell_ck {d : D} (h : d.isCell = true) : ∃ k, d = ofCK k := by
  cases d <;> first | cases h | skip
  · exact ⟨.inl _, rfl⟩
  · exact ⟨.inr _, rfl⟩
theorem cells_ck : ∀ {ks : List D}, ks.all D.isCell = true → ∃ cs : List CK, ks = cs.map ofCK
  | [], _ => ⟨[], rfl⟩
  | k :: ks, h => by
    simp only [List.all_cons, Bool.and_eq_true] at h
    obtain ⟨c, rfl⟩ := cell_ck h.1
    obtain ⟨cs, rfl⟩ := cells_ck h.2
    exact ⟨c :: cs, rfl⟩
theorem rep_ck {P : Params} {h : Heap} {H : Addr → Prop} {v : Value} {k : CK} (r : Rep P h H v (ofCK k)) : CK.is k v = true := by
  cases k <;> cases r <;> simp [CK.is, Value.isInt, Value.isStrOf]
theorem ck_rep {P : Params} {h : Heap} {H : Addr → Prop} {v : Value} {k : CK} (r : CK.is k v = true) : Rep P h H v (ofCK k) := by
  cases k
  · obtain ⟨t, rfl⟩ := CK.is_inl r; exact .int _ _
  · obtain ⟨t, rfl⟩ := CK.is_inr r; exact .str _ _
theorem pairs_of {prog : Program} {w : World} {h : Heap} {H : Addr → Prop} : ∀ {es : List DictEntry} {cs : List CK}, RepAll w.params h H (es.map (·.key)) (cs.map ofCK) → Pairs (cellKind prog w) es (cs.zip (es.map (·.val)))
  | [], cs, r => by
    cases cs with
    | nil => exact .nil
    | cons _ _ => cases r
  | e :: es, cs, r => by
    cases cs with
    | nil => cases r
    | cons c cs =>
      cases r with
      | cons r1 r2 => exact .cons (rep_ck r1) rfl (pairs_of r2)
theorem of_pairs {prog : Program} {w : World} {h : Heap} {H : Addr → Prop} : ∀ {es : List DictEntry} {kvs : List (CK × Value)}, Pairs (cellKind prog w) es kvs → RepAll w.params h H (es.map (·.key)) (kvs.map fun p => ofCK p.1) ∧ es.map (·.val) = kvs.map (·.2)
  | [], _, .nil => ⟨.nil, rfl⟩
  | e :: es, _, .cons h1 h2 h3 => by
    obtain ⟨a, b⟩ := of_pairs (h := h) (H := H) h3
    exact ⟨.cons (ck_rep h1) a, by simp [h2, b]⟩
theorem zip_fst {α β : Type} : ∀ {a : List α} {b : List β}, a.length = b.length → (a.zip b).map (·.1) = a
  | [], [], _ => rfl
  | x :: a, y :: b, h => by simp [zip_fst (a := a) (b := b) (by simpa using h)]
theorem zip_snd {α β : Type} : ∀ {a : List α} {b : List β}, a.length = b.length → (a.zip b).map (·.2) = b
  | [], [], _ => rfl
  | x :: a, y :: b, h => by simp [zip_snd (a := a) (b := b) (by simpa using h)]
theorem dictOf_rep {prog : Program} {w : World} {h : Heap} {H : Addr → Prop} {a : Addr} {es : Array DictEntry} {n : Nat} {cs : List CK} (ho : h.get? a = some (dicO es n)) (hr : RepAll w.params h H (es.toList.map (·.key)) (cs.map ofCK))
    (hh : es.toList.map (·.hash) = (cs.map ofCK).map (hashK w.params)) (hn : (cs.map ofCK).Nodup) : h.DictOf (cellKind prog w) a (cs.zip (es.toList.map (·.val))) := by
  have hl : cs.length = (es.toList.map (·.val)).length := by have := hr.length; simp at this ⊢; omega
  refine ⟨_, es, n, ho, ⟨rfl, rfl, rfl⟩, rfl, ?_, pairs_of hr, ?_⟩
  · intro e he
    obtain ⟨i, hi, rfl⟩ := List.mem_iff_getElem.mp (Array.mem_toList_iff.mpr he)
    have hc : i < cs.length := by rw [hl]; simpa using hi
    refine ⟨cs[i], ?_, ?_⟩
    · obtain ⟨v, h1, h2⟩ := hr.get i (d := ofCK cs[i]) (by simp [hc])
      have : v = es.toList[i].key := by simpa [List.getElem?_eq_getElem hi] using h1.symm
      exact rep_ck (this ▸ h2)
    · have := congrArg (fun l => l[i]?) hh
      show _ = hashK w.params (ofCK cs[i])
      simpa [List.getElem?_eq_getElem hi, hc] using this
  · rw [zip_fst hl]
    exact (List.pairwise_map.mp hn).imp fun h e => h (by rw [e])
theorem rep_dictOf {prog : Program} {w : World} {h : Heap} {H : Addr → Prop} {a : Addr} {kvs : List (CK × Value)} (hd : h.DictOf (cellKind prog w) a kvs) :
    ∃ es n, h.get? a = some (dicO es n) ∧ RepAll w.params h H (es.toList.map (·.key)) (kvs.map fun p => ofCK p.1) ∧ es.toList.map (·.val) = kvs.map (·.2) ∧ es.toList.map (·.hash) = (kvs.map fun p => ofCK p.1).map (hashK w.params) ∧
      (kvs.map fun p => ofCK p.1).all D.isKey = true ∧ (kvs.map fun p => ofCK p.1).Nodup := by
  obtain ⟨o, es, ep, ho, ⟨c1, c2, c3⟩, hdat, hk, hp, hn⟩ := hd
  obtain ⟨p1, p2⟩ := of_pairs (h := h) (H := H) hp
  have ho' : o = dicO es ep := by obtain ⟨a, b, c, d⟩ := o; dsimp only at c1 c2 c3 hdat; subst c1 c2 c3 hdat; rfl
  refine ⟨es, ep, ho' ▸ ho, p1, p2, ?_, ?_, ?_⟩
  · have key : ∀ (l : List DictEntry) (kvs : List (CK × Value)), (∀ e ∈ l, ∃ k, (cellKind prog w).is k e.key = true ∧ e.hash = (cellKind prog w).hash k) → Pairs (cellKind prog w) l kvs → l.map (·.hash) = (kvs.map fun p => ofCK p.1).map (hashK w.params) := by
      intro l kvs hk hp
      induction hp with
      | nil => rfl
      | cons h1 h2 h3 ih =>
        obtain ⟨k, q1, q2⟩ := hk _ (List.mem_cons_self)
        have e := (cellKind prog w).inj _ _ _ q1 h1
        rw [e] at q2
        rw [List.map_cons, List.map_cons, List.map_cons, ih fun e he => hk e (List.mem_cons_of_mem _ he), q2]
        rfl
    exact key _ _ (fun e he => hk e (Array.mem_toList_iff.mp he)) hp
  · rw [List.all_eq_true]
    intro d hd
    obtain ⟨p, _, rfl⟩ := List.mem_map.mp hd
    cases p.1 <;> rfl
  · have : (kvs.map fun p => ofCK p.1) = (kvs.map (·.1)).map ofCK := by simp
    rw [this]
    exact List.pairwise_map.mpr (hn.imp fun h e => h (ofCK_inj e))

noncomputable def cellEq (a b : D) : Bool := match a with
  | .int i => (match b with | .int j => i == j | _ => false)
  | .str x => (match b with | .str y => x == y | _ => false)
  | _ => false
noncomputable def cellsEq : List D → List D → Bool
  | [], [] => true
  | a :: r, b :: r' => cellEq a b && cellsEq r r'
  | _, _ => false
noncomputable def keyEq (a b : D) : Bool := match a with
  | .tup x => (match b with | .tup y => cellsEq x y | _ => false)
  | a => cellEq a b
noncomputable def dget : List D → List D → D → Option D
  | k :: ks, v :: vs, x => if keyEq k x then some v else dget ks vs x
  | _, _, _ => Option.none
noncomputable def dput : List D → List D → D → D → List D × List D
  | k' :: ks, v' :: vs, k, v => if keyEq k' k then (k' :: ks, v :: vs) else (k' :: (dput ks vs k v).1, v' :: (dput ks vs k v).2)
  | _, _, k, v => ([k], [v])
theorem cellEq_ck (a b : CK) : cellEq (ofCK a) (ofCK b) = decide (a = b) := by
  cases a <;> cases b
  · simp only [ofCK, cellEq, Sum.inl.injEq]; rfl
  · rfl
  · rfl
  · simp only [ofCK, cellEq, Sum.inr.injEq]; rfl
theorem keyEq_ck (a b : CK) : keyEq (ofCK a) (ofCK b) = decide (a = b) := by
  rw [← cellEq_ck]; cases a <;> rfl
theorem dget_valueAt {P : Params} {h : Heap} {H : Addr → Prop} {k : CK} {d : D} : ∀ {cs : List CK} {vals : List Value} {vs : List D}, RepAll P h H vals vs → dget (cs.map ofCK) vs (ofCK k) = some d → ∃ v, valueAt (cs.zip vals) k = some v ∧ Rep P h H v d
  | [], _, _, _, e => by simp [dget] at e
  | c :: cs, _, _, .nil, e => by simp [dget] at e
  | c :: cs, _, _, .cons (v := v) (vs := vals) (ds := vs) hv hr, e => by
    simp only [List.map_cons, dget, keyEq_ck] at e
    by_cases hc : c = k
    · rw [if_pos (by simpa using hc)] at e
      cases e
      exact ⟨v, by simp [valueAt, hc], hv⟩
    · rw [if_neg (by simpa using hc)] at e
      obtain ⟨u, h1, h2⟩ := dget_valueAt hr e
      refine ⟨u, ?_, h2⟩
      unfold valueAt at h1 ⊢
      rw [List.zip_cons_cons, List.find?_cons_of_neg (by simpa using hc)]
      exact h1
theorem any_valueAt {k : CK} : ∀ {cs : List CK} {vals : List Value}, cs.length = vals.length → (valueAt (cs.zip vals) k).isSome = (cs.map ofCK).any fun x => keyEq x (ofCK k)
  | [], [], _ => rfl
  | c :: cs, v :: vals, e => by
    have ih := any_valueAt (k := k) (cs := cs) (vals := vals) (by simpa using e)
    simp only [List.map_cons, List.any_cons, keyEq_ck]
    unfold valueAt at ih ⊢
    by_cases hc : c = k
    · simp [hc]
    · rw [List.zip_cons_cons, List.find?_cons_of_neg (by simpa using hc), ih]
      simp [hc]
theorem stored_dput {P : Params} {h : Heap} {H : Addr → Prop} {k : CK} {v : Value} {d : D} (hv : Rep P h H v d) {cs : List CK} : ∀ {vals : List Value} {vs : List D}, cs.length = vals.length → cs.Nodup → RepAll P h H vals vs →
    ((stored (cs.zip vals) k v).map fun p => ofCK p.1) = (dput (cs.map ofCK) vs (ofCK k) d).1 ∧ RepAll P h H ((stored (cs.zip vals) k v).map (·.2)) (dput (cs.map ofCK) vs (ofCK k) d).2 := by
  induction cs with
  | nil =>
    intro vals vs e _ hr
    cases hr with
    | nil => exact ⟨rfl, .cons hv .nil⟩
    | cons _ _ => simp at e
  | cons c cs IH =>
    intro vals' vs' e hn hr'
    cases hr' with
    | nil => simp at e
    | cons hu hr =>
    rename_i u _ vals vs
    have hl : cs.length = vals.length := by simpa using e
    obtain ⟨hnc, hn'⟩ := List.nodup_cons.mp hn
    obtain ⟨ih1, ih2⟩ := IH hl hn' hr
    simp only [List.map_cons, dput, keyEq_ck, List.zip_cons_cons]
    by_cases hc : c = k
    · subst hc
      have hs : stored ((c, u) :: cs.zip vals) c v = (c, v) :: cs.zip vals := by
        unfold stored
        rw [if_pos (by simp)]
        simp only [List.map_cons, if_true]
        rw [map_store_of_not_mem _ _ _ (by rw [zip_fst hl]; exact hnc)]
      rw [hs, if_pos (by simp)]
      refine ⟨?_, ?_⟩
      · simp only [List.map_cons]
        congr 1
        have : (cs.zip vals).map (fun p => ofCK p.1) = ((cs.zip vals).map (·.1)).map ofCK := by simp
        rw [this, zip_fst hl]
      · simp only [List.map_cons]
        rw [zip_snd hl]
        exact .cons hv hr
    · have hs : stored ((c, u) :: cs.zip vals) k v = (c, u) :: stored (cs.zip vals) k v := by
        unfold stored
        by_cases ha : (cs.zip vals).any (fun kv => decide (kv.1 = k)) = true
        · rw [if_pos ha, if_pos (by simp [ha, hc])]
          simp [hc]
        · rw [if_neg ha, if_neg (by simpa [hc] using ha)]
          rfl
      rw [hs, if_neg (by simpa using hc)]
      exact ⟨by simp only [List.map_cons]; rw [ih1], .cons hu ih2⟩
end Mine
namespace Mine
open PySem PySem.SeqAt
/-! dicts with keys that are tuples of ints and strs -/
section
variable {prog : Program} {w : World} {h : Heap} {H : Addr → Prop}
end
end Mine
namespace Mine
open PySem

/-! the mini language -/
inductive ME where
  | var (x : String)
  | glob (x : String)
  | int (i : Int)
  | str (s : String)
  | bool (b : Bool)
  | none
  | bin (op : Operator) (a b : ME)
  | cmp (op : CmpOp) (a b : ME)
  | bop (op : BoolOp) (es : List ME)
  | not (a : ME)
  | neg (a : ME)
  | tup (es : List ME)
  | lst (es : List ME)
  | sub (a i : ME)
  | sl (a lo hi : ME)
  | dct (ks vs : List ME)
  | comp (elt : ME) (x : String) (src : ME) (cs : List ME)
  | call (f : String) (args : List ME)
  | isi (a : ME) (T : String)
  | blt (f : String) (args : List ME)
  | lcp (a : ME)
  | srt (a : ME) (f x p : String) (rev : Bool)

inductive MS where
  | assign (x : String) (e : ME)
  | append (x : String) (e : ME)
  | setk (x : String) (k e : ME)
  | ite (c : ME) (t f : List MS)
  | for_ (x : String) (src : ME) (body : List MS)
  | ret (e : ME)
  | bad
  | forr (x : String) (src : ME) (body : List MS)

noncomputable def D.isList : D → Bool
  | .list _ => true
  | _ => false
/-! data operations -/
noncomputable def D.items : D → Option (List D)
  | .list ds | .tup ds => some ds
  | .rng a b => some ((List.range (b - a).toNat).map fun (i : Nat) => D.int (a + (i : Int)))
  | _ => Option.none

noncomputable def truth : D → Option Bool
  | .bool b => some b
  | .none => some false
  | .int i => some (i != 0)
  | .list ds | .tup ds => some (!ds.isEmpty)
  | _ => Option.none

noncomputable def eqS (a b : D) : Option Bool := match a with
  | .bool x => (match b with | .bool y => some (x == y) | _ => Option.none)
  | .int x => (match b with | .int y => some (x == y) | .str _ => some false | _ => Option.none)
  | .str x => (match b with | .str y => some (x == y) | .int _ => some false | _ => Option.none)
  | _ => Option.none
/-- == of two data -/
noncomputable def eqD (a b : D) : Option Bool := match a with
  | a => eqS a b

noncomputable def lim : Int := 2 ^ 64
noncomputable def powLim : Int := 2 ^ 1000
noncomputable def strLim : Int := 10 ^ 100
noncomputable def binI (op : Operator) (a b : Int) : Option D := match op with
  | .Add => some (.int (a + b))
  | .Sub => some (.int (a - b))
  | .Mult => if (-lim < a ∧ a < lim) ∨ (-lim < b ∧ b < lim) then some (.int (a * b)) else Option.none
  | .FloorDiv => if 0 < b ∧ b < lim then some (.int (a / b)) else Option.none
  | .Mod => if 0 < b then some (.int (a % b)) else Option.none
  | .Pow => if -powLim < a ∧ a < powLim ∧ 0 ≤ b ∧ b ≤ 100 then some (.int (a ^ b.toNat)) else Option.none
  | _ => Option.none
noncomputable def binS (op : Operator) (a : Str) (d : D) : Option D := match op with
  | .Add => (match d with | .str b => if a.length + b.length ≤ big then some (.str (a ++ b)) else Option.none | _ => Option.none)
  | .Mult => (match d with | .int n => if 0 ≤ n ∧ n ≤ 1000 ∧ a.length ≤ 1000 then some (.str (Txt.mul a n)) else Option.none | _ => Option.none)
  | _ => Option.none
noncomputable def binT (op : Operator) (a : List D) (d : D) : Option D := match op with
  | .Add => (match d with | .tup b => if a.length + b.length ≤ big then some (.tup (a ++ b)) else Option.none | _ => Option.none)
  | _ => Option.none
noncomputable def binD (op : Operator) (x y : D) : Option D := match x with
  | .int a => (match y with | .int b => binI op a b | _ => Option.none)
  | .str a => binS op a y
  | .tup a => binT op a y
  | _ => Option.none

noncomputable def cmpI (op : CmpOp) (a b : Int) : Option D := match op with
  | .Lt => some (.bool (decide (a < b)))
  | .LtE => some (.bool (decide (a ≤ b)))
  | .Gt => some (.bool (decide (a > b)))
  | .GtE => some (.bool (decide (a ≥ b)))
  | _ => Option.none
noncomputable def ordD (op : CmpOp) (x y : D) : Option D := match x with
  | .int a => (match y with | .int b => cmpI op a b | _ => Option.none)
  | .str a => (match y with | .str b => (match op with | .Lt => some (.bool (decide (a.cps.toList < b.cps.toList))) | _ => Option.none) | _ => Option.none)
  | _ => Option.none
noncomputable def keyOk (k : D) (ks : List D) : Bool := (k.isCell && ks.all D.isCell) || false
/-- k in c -/
noncomputable def memD (k c : D) : Option Bool := match c with
  | .dict ks _ => if keyOk k ks then some (ks.any fun x => keyEq x k) else Option.none
  | .tup ds => if k.isCell && ds.all D.isCell then some (ds.any fun x => cellEq x k) else Option.none
  | _ => Option.none
noncomputable def cmpD (op : CmpOp) (a b : D) : Option D := match op with
  | .Eq => (eqD a b).map .bool
  | .NotEq => (eqD a b).map fun x => .bool (!x)
  | .In => (memD a b).map .bool
  | .NotIn => (memD a b).map fun x => .bool (!x)
  | op => ordD op a b

/-- the place of an index -/
noncomputable def idx (k : Int) (n : Nat) : Option Nat := if 0 ≤ k ∧ k < n then some k.toNat else if -(n : Int) ≤ k ∧ k < 0 then some (k + n).toNat else Option.none
noncomputable def charAt (x : Str) (j : Nat) : Str := ⟨#[x.cps.getD j 0]⟩
noncomputable def subD (d i : D) : Option D := match d with
  | .list ds => (match i with | .int k => (idx k ds.length).bind fun j => ds[j]? | _ => Option.none)
  | .tup ds => (match i with | .int k => (idx k ds.length).bind fun j => ds[j]? | _ => Option.none)
  | .str x => (match i with | .int k => if 0 ≤ k ∧ k < x.length ∧ x.length ≤ big then some (.str (charAt x k.toNat)) else Option.none | _ => Option.none)
  | .dict ks vs => if keyOk i ks then dget ks vs i else Option.none
  | _ => Option.none

noncomputable def bndS (lo : D) : Option (Option Int) := match lo with
  | .none => some Option.none
  | .int i => some (some i)
  | _ => Option.none
noncomputable def slD (d lo hi : D) : Option D := match d with
  | .str x => if x.length ≤ big then (bndS lo).bind fun a => (bndS hi).map fun b => .str (Txt.slice x a b) else Option.none
  | _ => Option.none

noncomputable def isiD (d : D) (T : String) : Option Bool :=
  if T = "str" ∨ T = "bool" ∨ T = "int" ∨ T = "tuple" ∨ T = "list" then (match d with
    | .str _ => some (T == "str")
    | .int _ => some (T == "int")
    | .bool _ => some (T == "int" || T == "bool")
    | .tup _ => some (T == "tuple")
    | .list _ => some (T == "list")
    | _ => Option.none) else Option.none

noncomputable def lenD (d : D) : Option D := match d with
  | .list ds => some (.int ds.length)
  | .tup ds => some (.int ds.length)
  | .str x => if x.length ≤ big then some (.int x.length) else Option.none
  | _ => Option.none
noncomputable def rngD (a n : Int) : Option D := if (-(big : Int) ≤ n ∧ n ≤ big) ∧ -(big : Int) ≤ a ∧ a ≤ big then some (.rng a n) else Option.none
noncomputable def bltI (f : String) (i : Int) : Option D :=
  if f = "range" then rngD 0 i else if f = "str" then (if -strLim < i ∧ i < strLim then some (.str (Str.ofString (toString i))) else Option.none) else Option.none
noncomputable def bltI2 (_ : String) (_ _ : Int) : Option D := Option.none
/-- the built-ins, but for list -/
noncomputable def bltD (f : String) (as : List D) : Option D := match as with
  | [d] => if f = "len" then lenD d else (match d with
    | .list ds => if f = "tuple" then some (.tup ds) else Option.none
    | .int i => bltI f i
    | .bool b => if f = "int" then some (.int (if b then 1 else 0)) else Option.none
    | .str x => if f = "str" then some (.str x) else Option.none
    | _ => Option.none)
  | [a, b] => (match a with
    | .int i => (match b with | .int j => bltI2 f i j | _ => Option.none)
    | _ => Option.none)
  | _ => Option.none
/-- list of it -/
noncomputable def lstD (d : D) : Option (List D) := match d with
  | .list ds => some ds
  | .tup ds => some ds
  | .dict ks _ => if ks.all D.isCell then some ks else Option.none
  | _ => Option.none

noncomputable def dputs (ks vs : List D) : List D × List D := (ks.zip vs).foldl (fun acc p => dput acc.1 acc.2 p.1 p.2) ([], [])

/-! sorted(rows, key=lambda x: f(x[p]), reverse=rev), where f(c) is (is c a text, c) -/
noncomputable def isStrD : D → Bool
  | .str _ => true
  | _ => false
noncomputable def cellLt : D → D → Bool
  | .int i, .int j => decide (i < j)
  | .int _, .str _ => true
  | .str x, .str y => decide (x.cps.toList < y.cps.toList)
  | _, _ => false
noncomputable def keyOf (ds : List D) (p : Nat) : D := ds.getD p (.int 0)
noncomputable def klOf (ds : List D) (rev : Bool) (p q : Nat) : Bool := if rev then cellLt (keyOf ds q) (keyOf ds p) else cellLt (keyOf ds p) (keyOf ds q)
noncomputable def rkb (kl : Nat → Nat → Bool) (p q : Nat) : Bool := kl p q || (!kl q p && decide (p < q))
noncomputable def srtIx (ks : List D) (rev : Bool) : List Nat := (List.range ks.length).mergeSort fun p q => p == q || rkb (klOf ks rev) p q
noncomputable def keyD (k : D) : Option D := match k with
  | .tup [.bool b, c] => if c.isCell && b == isStrD c then some c else Option.none
  | _ => Option.none
noncomputable def keysD (g : D → Option D) : List D → Option (List D)
  | [] => some []
  | d :: r => match g d with
    | some k => (match keyD k with
      | some c => (keysD g r).map (c :: ·)
      | Option.none => Option.none)
    | Option.none => Option.none
noncomputable def srtD (g : D → Option D) (rev : Bool) (d : D) : Option D := match d with
  | .list ds => if ds.length < 128 then (keysD g ds).map fun ks => .list ((srtIx ks rev).map fun j => ds.getD j .none) else Option.none
  | _ => Option.none
/-! the evaluator -/
noncomputable def compM (f : D → Option (Option D)) : List D → Option (List D)
  | [] => some []
  | it :: r => match f it with
    | Option.none => Option.none
    | some o => match compM f r with
      | Option.none => Option.none
      | some ds => some (match o with | Option.none => ds | some d => d :: ds)

structure CF where
  call : String → List D → Option (D × Bool)
  glob : String → Option D

noncomputable def rowKey (cf : CF) (f : String) (i d : D) : Option D := match subD d i with
  | some c => (cf.call f [c]).map (·.1)
  | Option.none => Option.none
mutual
noncomputable def evE (cf : CF) (ρ : List (String × D)) (me : ME) : Option D := match me with
  | .var x => ρ.lookup x
  | .glob x => cf.glob x
  | .int i => some (.int i)
  | .str s => some (.str (Str.ofString s))
  | .bool b => some (.bool b)
  | .none => some .none
  | .bin op a b => match evE cf ρ a with
    | some x => (match evE cf ρ b with | some y => binD op x y | Option.none => Option.none)
    | Option.none => Option.none
  | .cmp op a b => match evE cf ρ a with
    | some x => (match evE cf ρ b with | some y => cmpD op x y | Option.none => Option.none)
    | Option.none => Option.none
  | .bop op es => evBop cf ρ op es
  | .not a => match evE cf ρ a with
    | some x => (truth x).map fun t => .bool (!t)
    | Option.none => Option.none
  | .neg a => match evE cf ρ a with
    | some (.int i) => some (.int (-i))
    | _ => Option.none
  | .tup es => match evEs cf ρ es with
    | some ds => if ds.length ≤ big then some (.tup ds) else Option.none
    | Option.none => Option.none
  | .lst es => match evEs cf ρ es with
    | some ds => if ds.length ≤ big then some (.list ds) else Option.none
    | Option.none => Option.none
  | .dct ks vs => match evEs cf ρ ks with
    | some ds => (match evEs cf ρ vs with
      | some es => if ds.all D.isCell && ds.length == es.length && decide (ds.length ≤ 15) then some (.dict (dputs ds es).1 (dputs ds es).2) else Option.none
      | Option.none => Option.none)
    | Option.none => Option.none
  | .sub a i => match evE cf ρ a with
    | some x => (match evE cf ρ i with | some y => subD x y | Option.none => Option.none)
    | Option.none => Option.none
  | .sl a lo hi => match evE cf ρ a with
    | some x => (match evE cf ρ lo with
      | some y => (match evE cf ρ hi with | some z => slD x y z | Option.none => Option.none)
      | Option.none => Option.none)
    | Option.none => Option.none
  | .comp elt x src cs => match evE cf ρ src with
    | some d => (match d.items with
      | some its => if its.length ≤ big then (compM (fun it => match evCs cf ((x, it) :: ρ) cs with
          | some true => (match evE cf ((x, it) :: ρ) elt with | some y => some (some y) | Option.none => Option.none)
          | some false => some Option.none
          | Option.none => Option.none) its).map .list else Option.none
      | Option.none => Option.none)
    | Option.none => Option.none
  | .call f args => match evEs cf ρ args with
    | some ds => (cf.call f ds).map (·.1)
    | Option.none => Option.none
  | .isi a T => match evE cf ρ a with
    | some x => (isiD x T).map .bool
    | Option.none => Option.none
  | .blt f args => match evEs cf ρ args with
    | some ds => bltD f ds
    | Option.none => Option.none
  | .lcp a => match evE cf ρ a with
    | some x => (lstD x).map .list
    | Option.none => Option.none
  | .srt a f _ p rev => match evE cf ρ a with
    | some x => (match ρ.lookup p with
      | some i => srtD (rowKey cf f i) rev x
      | Option.none => Option.none)
    | Option.none => Option.none
termination_by structural me
noncomputable def evEs (cf : CF) (ρ : List (String × D)) (ms : List ME) : Option (List D) := match ms with
  | [] => some []
  | e :: r => match evE cf ρ e with
    | some d => (match evEs cf ρ r with | some ds => some (d :: ds) | Option.none => Option.none)
    | Option.none => Option.none
termination_by structural ms
noncomputable def evBop (cf : CF) (ρ : List (String × D)) (op : BoolOp) (ms : List ME) : Option D := match ms with
  | [] => Option.none
  | [e] => evE cf ρ e
  | e :: r => match evE cf ρ e with
    | some d => (match truth d with
      | some t => if t = (match op with | .And => false | .Or => true) then some d else evBop cf ρ op r
      | Option.none => Option.none)
    | Option.none => Option.none
termination_by structural ms
noncomputable def evCs (cf : CF) (ρ : List (String × D)) (ms : List ME) : Option Bool := match ms with
  | [] => some true
  | e :: r => match evE cf ρ e with
    | some d => (match truth d with
      | some t => if t then evCs cf ρ r else some false
      | Option.none => Option.none)
    | Option.none => Option.none
termination_by structural ms
end

/-! the variables that an expression reads -/
mutual
noncomputable def ME.names : ME → List String
  | .var x => [x]
  | .bin _ a b | .cmp _ a b | .sub a b => a.names ++ b.names
  | .bop _ es | .tup es | .lst es | .call _ es | .blt _ es => namesL es
  | .not a | .neg a | .isi a _ | .lcp a => a.names
  | .srt a _ _ p _ => a.names ++ [p]
  | .dct ks vs => namesL ks ++ namesL vs
  | .sl a lo hi => a.names ++ lo.names ++ hi.names
  | .comp elt x src cs => src.names ++ (elt.names ++ namesL cs).filter (· != x)
  | .glob _ | .int _ | .str _ | .bool _ | .none => []
noncomputable def namesL : List ME → List String
  | [] => []
  | e :: r => e.names ++ namesL r
end

/-! statements -/
noncomputable abbrev St := List (String × (Bool × D))
noncomputable def vis (σ : St) : List (String × D) := σ.map fun p => (p.1, p.2.2)
noncomputable def setv (σ : St) (x : String) (v : Bool × D) : St := match σ with
  | [] => [(x, v)]
  | (y, w) :: r => if y = x then (y, v) :: r else (y, w) :: setv r x v
noncomputable def freeze (ns : List String) (σ : St) : St := σ.map fun p => (p.1, (p.2.1 && !ns.contains p.1, p.2.2))
noncomputable def settle (d : D) (ns : List String) (σ : St) : St := if d.scalar then σ else freeze ns σ

inductive Fl where
  | next
  | ret (fr : Bool) (d : D)

/-- an expression's value, and whether it is a new list that nothing else holds -/
noncomputable def frF (me : ME) (d : D) : Bool := match me with
  | .lst _ | .comp _ _ _ _ | .dct _ _ | .lcp _ => true
  | .srt _ _ _ _ _ => false
  | .sl _ _ _ | .bin _ _ _ => d.isList
  | .var _ | .glob _ | .int _ | .str _ | .bool _ | .none | .cmp _ _ _ | .bop _ _ | .not _ | .neg _ | .tup _ | .sub _ _ | .call _ _ | .isi _ _ | .blt _ _ => false
noncomputable def isCallE (me : ME) : Option (String × List ME) := match me with
  | .call f args => some (f, args)
  | _ => Option.none
noncomputable def evF (cf : CF) (ρ : List (String × D)) (me : ME) : Option (D × Bool) := match isCallE me with
  | some (f, args) => (match evEs cf ρ args with
    | some ds => cf.call f ds
    | Option.none => Option.none)
  | Option.none => (evE cf ρ me).map fun d => (d, frF me d)

section
variable (cf : CF) (ρ : List (String × D))
theorem evF_call (f : String) (args : List ME) : evF cf ρ (.call f args) = (match evEs cf ρ args with | some ds => cf.call f ds | Option.none => Option.none) := rfl
theorem evF_lst (es : List ME) : evF cf ρ (.lst es) = (evE cf ρ (.lst es)).map fun d => (d, true) := rfl
theorem evF_dct (ks vs : List ME) : evF cf ρ (.dct ks vs) = (evE cf ρ (.dct ks vs)).map fun d => (d, true) := rfl
theorem evF_lcp (a : ME) : evF cf ρ (.lcp a) = (evE cf ρ (.lcp a)).map fun d => (d, true) := rfl
theorem evF_comp (elt : ME) (x : String) (src : ME) (cs : List ME) : evF cf ρ (.comp elt x src cs) = (evE cf ρ (.comp elt x src cs)).map fun d => (d, true) := rfl
theorem evF_sl (a l h : ME) : evF cf ρ (.sl a l h) = (evE cf ρ (.sl a l h)).map fun d => (d, d.isList) := rfl
theorem evF_bin (op : Operator) (a b : ME) : evF cf ρ (.bin op a b) = (evE cf ρ (.bin op a b)).map fun d => (d, d.isList) := rfl
end
noncomputable def forD (f : D → St → Option (Fl × St)) : List D → St → Option (Fl × St)
  | [], σ => some (.next, σ)
  | it :: r, σ => match f it σ with
    | some (.next, σ') => forD f r σ'
    | x => x
mutual
noncomputable def exS (cf : CF) (st : MS) (σ : St) : Option (Fl × St) := match st, σ with
  | .assign x e, σ => match evF cf (vis σ) e with
    | some (d, fr) => some (.next, setv (settle d e.names σ) x (fr, d))
    | Option.none => Option.none
  | .append x e, σ => match evE cf (vis σ) e with
    | some d => (match (settle d e.names σ).lookup x with
      | some (true, .list ds) => if ds.length < big then some (.next, setv (settle d e.names σ) x (true, .list (ds ++ [d]))) else Option.none
      | _ => Option.none)
    | Option.none => Option.none
  | .setk x k e, σ => match evE cf (vis σ) e with
    | some d => (match evE cf (vis σ) k with
      | some dk => (match (settle dk k.names (settle d e.names σ)).lookup x with
        | some (true, .dict ks vs) => if keyOk dk ks && decide (ks.length < big) then some (.next, setv (settle dk k.names (settle d e.names σ)) x (true, .dict (dput ks vs dk d).1 (dput ks vs dk d).2)) else Option.none
        | _ => Option.none)
      | Option.none => Option.none)
    | Option.none => Option.none
  | .ite c t f, σ => match evE cf (vis σ) c with
    | some d => (match truth d with
      | some true => exSs cf t σ
      | some false => exSs cf f σ
      | Option.none => Option.none)
    | Option.none => Option.none
  | .for_ x src body, σ => match evE cf (vis σ) src with
    | some d => (match d.items with
      | some its => forD (fun it σ => exSs cf body (setv σ x (false, it))) its (freeze src.names σ)
      | Option.none => Option.none)
    | Option.none => Option.none
  | .ret e, σ => match e with
    | .var x => (match σ.lookup x with | some (fr, d) => some (.ret fr d, σ) | Option.none => Option.none)
    | e => (match evF cf (vis σ) e with
      | some (d, fr) => some (.ret fr d, σ)
      | Option.none => Option.none)
  | .bad, _ => Option.none
  | .forr x src body, σ => match evE cf (vis σ) src with
    | some (.tup ds) => forD (fun it σ => exSs cf body (setv σ x (false, it))) ds.reverse (freeze src.names σ)
    | _ => Option.none
termination_by structural st
noncomputable def exSs (cf : CF) (ss : List MS) (σ : St) : Option (Fl × St) := match ss, σ with
  | [], σ => some (.next, σ)
  | st :: r, σ => match exS cf st σ with
    | some (.next, σ') => exSs cf r σ'
    | x => x
termination_by structural ss
end

structure Fn where
  params : List String
  body : List MS

/-- calls: n is how deep they may nest; X: functions that are shown by hand, and global constants -/
noncomputable def callN (P : List (String × Fn)) (X : CF) : Nat → CF
  | 0 => ⟨fun _ _ => Option.none, X.glob⟩
  | n + 1 => ⟨fun f args => match P.lookup f with
    | Option.none => X.call f args
    | some fn => if args.length = fn.params.length then
        (match exSs (callN P X n) fn.body ((fn.params.zip args).map fun p => (p.1, (false, p.2))) with
        | some (.ret fr d, _) => some (d, fr)
        | some (.next, _) => some (.none, false)
        | _ => Option.none)
      else Option.none, X.glob⟩
set_option autoImplicit true in
theorem ev_var (cf : CF) (ρ : List (String × D)) : evE cf ρ (ME.var x) = (ρ.lookup x) := rfl
set_option autoImplicit true in
theorem ev_glob (cf : CF) (ρ : List (String × D)) : evE cf ρ (ME.glob x) = (cf.glob x) := rfl
set_option autoImplicit true in
theorem ev_int (cf : CF) (ρ : List (String × D)) : evE cf ρ (ME.int i) = (some (.int i)) := rfl
set_option autoImplicit true in
theorem ev_str (cf : CF) (ρ : List (String × D)) : evE cf ρ (ME.str s) = (some (.str (Str.ofString s))) := rfl
set_option autoImplicit true in
theorem ev_bool (cf : CF) (ρ : List (String × D)) : evE cf ρ (ME.bool b) = (some (.bool b)) := rfl
set_option autoImplicit true in
theorem ev_none (cf : CF) (ρ : List (String × D)) : evE cf ρ (ME.none) = (some .none) := rfl
set_option autoImplicit true in
theorem ev_bin (cf : CF) (ρ : List (String × D)) : evE cf ρ (ME.bin op a b) = (match evE cf ρ a with
      | some x => (match evE cf ρ b with | some y => binD op x y | Option.none => Option.none)
      | Option.none => Option.none) := rfl
set_option autoImplicit true in
theorem ev_cmp (cf : CF) (ρ : List (String × D)) : evE cf ρ (ME.cmp op a b) = (match evE cf ρ a with
      | some x => (match evE cf ρ b with | some y => cmpD op x y | Option.none => Option.none)
      | Option.none => Option.none) := rfl
set_option autoImplicit true in
theorem ev_bop (cf : CF) (ρ : List (String × D)) : evE cf ρ (ME.bop op es) = (evBop cf ρ op es) := rfl
set_option autoImplicit true in
theorem ev_not (cf : CF) (ρ : List (String × D)) : evE cf ρ (ME.not a) = (match evE cf ρ a with
      | some x => (truth x).map fun t => .bool (!t)
      | Option.none => Option.none) := rfl
set_option autoImplicit true in
theorem ev_neg (cf : CF) (ρ : List (String × D)) : evE cf ρ (ME.neg a) = (match evE cf ρ a with
      | some (.int i) => some (.int (-i))
      | _ => Option.none) := rfl
set_option autoImplicit true in
theorem ev_tup (cf : CF) (ρ : List (String × D)) : evE cf ρ (ME.tup es) = (match evEs cf ρ es with
      | some ds => if ds.length ≤ big then some (.tup ds) else Option.none
      | Option.none => Option.none) := rfl
set_option autoImplicit true in
theorem ev_lst (cf : CF) (ρ : List (String × D)) : evE cf ρ (ME.lst es) = (match evEs cf ρ es with
      | some ds => if ds.length ≤ big then some (.list ds) else Option.none
      | Option.none => Option.none) := rfl
set_option autoImplicit true in
theorem ev_dct (cf : CF) (ρ : List (String × D)) : evE cf ρ (ME.dct ks vs) = (match evEs cf ρ ks with
      | some ds => (match evEs cf ρ vs with
        | some es => if ds.all D.isCell && ds.length == es.length && decide (ds.length ≤ 15) then some (.dict (dputs ds es).1 (dputs ds es).2) else Option.none
        | Option.none => Option.none)
      | Option.none => Option.none) := rfl
set_option autoImplicit true in
theorem ev_sub (cf : CF) (ρ : List (String × D)) : evE cf ρ (ME.sub a i) = (match evE cf ρ a with
      | some x => (match evE cf ρ i with | some y => subD x y | Option.none => Option.none)
      | Option.none => Option.none) := rfl
set_option autoImplicit true in
theorem ev_sl (cf : CF) (ρ : List (String × D)) : evE cf ρ (ME.sl a lo hi) = (match evE cf ρ a with
      | some x => (match evE cf ρ lo with
        | some y => (match evE cf ρ hi with | some z => slD x y z | Option.none => Option.none)
        | Option.none => Option.none)
      | Option.none => Option.none) := rfl
set_option autoImplicit true in
theorem ev_comp (cf : CF) (ρ : List (String × D)) : evE cf ρ (ME.comp elt x src cs) = (match evE cf ρ src with
      | some d => (match d.items with
        | some its => if its.length ≤ big then (compM (fun it => match evCs cf ((x, it) :: ρ) cs with
            | some true => (match evE cf ((x, it) :: ρ) elt with | some y => some (some y) | Option.none => Option.none)
            | some false => some Option.none
            | Option.none => Option.none) its).map .list else Option.none
        | Option.none => Option.none)
      | Option.none => Option.none) := rfl
set_option autoImplicit true in
theorem ev_call (cf : CF) (ρ : List (String × D)) : evE cf ρ (ME.call f args) = (match evEs cf ρ args with
      | some ds => (cf.call f ds).map (·.1)
      | Option.none => Option.none) := rfl
set_option autoImplicit true in
theorem ev_isi (cf : CF) (ρ : List (String × D)) : evE cf ρ (ME.isi a T) = (match evE cf ρ a with
      | some x => (isiD x T).map .bool
      | Option.none => Option.none) := rfl
set_option autoImplicit true in
theorem ev_blt (cf : CF) (ρ : List (String × D)) : evE cf ρ (ME.blt f args) = (match evEs cf ρ args with
      | some ds => bltD f ds
      | Option.none => Option.none) := rfl
set_option autoImplicit true in
theorem ev_lcp (cf : CF) (ρ : List (String × D)) : evE cf ρ (ME.lcp a) = (match evE cf ρ a with
      | some x => (lstD x).map .list
      | Option.none => Option.none) := rfl
set_option autoImplicit true in
theorem evs_nil (cf : CF) (ρ : List (String × D)) : evEs cf ρ ([]) = (some []) := rfl
set_option autoImplicit true in
theorem evs_cons (cf : CF) (ρ : List (String × D)) : evEs cf ρ (e :: r) = (match evE cf ρ e with
      | some d => (match evEs cf ρ r with | some ds => some (d :: ds) | Option.none => Option.none)
      | Option.none => Option.none) := rfl
set_option autoImplicit true in
theorem evc_nil (cf : CF) (ρ : List (String × D)) : evCs cf ρ ([]) = (some true) := rfl
set_option autoImplicit true in
theorem evc_cons (cf : CF) (ρ : List (String × D)) : evCs cf ρ (e :: r) = (match evE cf ρ e with
      | some d => (match truth d with
        | some t => if t then evCs cf ρ r else some false
        | Option.none => Option.none)
      | Option.none => Option.none) := rfl
set_option autoImplicit true in
theorem xs_assign (cf : CF) (σ : St) : exS cf (MS.assign x e) σ = (match evF cf (vis σ) e with
      | some (d, fr) => some (.next, setv (settle d e.names σ) x (fr, d))
      | Option.none => Option.none) := rfl
set_option autoImplicit true in
theorem xs_append (cf : CF) (σ : St) : exS cf (MS.append x e) σ = (match evE cf (vis σ) e with
      | some d => (match (settle d e.names σ).lookup x with
        | some (true, .list ds) => if ds.length < big then some (.next, setv (settle d e.names σ) x (true, .list (ds ++ [d]))) else Option.none
        | _ => Option.none)
      | Option.none => Option.none) := rfl
set_option autoImplicit true in
theorem xs_setk (cf : CF) (σ : St) : exS cf (MS.setk x k e) σ = (match evE cf (vis σ) e with
      | some d => (match evE cf (vis σ) k with
        | some dk => (match (settle dk k.names (settle d e.names σ)).lookup x with
          | some (true, .dict ks vs) => if keyOk dk ks && decide (ks.length < big) then some (.next, setv (settle dk k.names (settle d e.names σ)) x (true, .dict (dput ks vs dk d).1 (dput ks vs dk d).2)) else Option.none
          | _ => Option.none)
        | Option.none => Option.none)
      | Option.none => Option.none) := rfl
set_option autoImplicit true in
theorem xs_ite (cf : CF) (σ : St) : exS cf (MS.ite c t f) σ = (match evE cf (vis σ) c with
      | some d => (match truth d with
        | some true => exSs cf t σ
        | some false => exSs cf f σ
        | Option.none => Option.none)
      | Option.none => Option.none) := rfl
set_option autoImplicit true in
theorem xs_for_ (cf : CF) (σ : St) : exS cf (MS.for_ x src body) σ = (match evE cf (vis σ) src with
      | some d => (match d.items with
        | some its => forD (fun it σ => exSs cf body (setv σ x (false, it))) its (freeze src.names σ)
        | Option.none => Option.none)
      | Option.none => Option.none) := rfl
set_option autoImplicit true in
theorem xs_ret (cf : CF) (σ : St) : exS cf (MS.ret e) σ = (match e with
      | .var x => (match σ.lookup x with | some (fr, d) => some (.ret fr d, σ) | Option.none => Option.none)
      | e => (match evF cf (vis σ) e with
        | some (d, fr) => some (.ret fr d, σ)
        | Option.none => Option.none)) := rfl
set_option autoImplicit true in
theorem xs_bad (cf : CF) (σ : St) : exS cf (MS.bad) σ = (Option.none) := rfl
theorem xs_forr (cf : CF) (x : String) (src : ME) (body : List MS) (σ : St) : exS cf (MS.forr x src body) σ = (match evE cf (vis σ) src with
    | some (.tup ds) => forD (fun it σ => exSs cf body (setv σ x (false, it))) ds.reverse (freeze src.names σ)
    | _ => Option.none) := rfl
set_option autoImplicit true in
theorem xss_nil (cf : CF) (σ : St) : exSs cf ([]) σ = (some (.next, σ)) := rfl
set_option autoImplicit true in
theorem xss_cons (cf : CF) (σ : St) : exSs cf (st :: r) σ = (match exS cf st σ with
      | some (.next, σ') => exSs cf r σ'
      | x => x) := rfl
theorem nms_nil : namesL [] = [] := rfl
theorem nms_cons (e : ME) (r : List ME) : namesL (e :: r) = e.names ++ namesL r := rfl
theorem nm_var (x : String) : (ME.var x).names = [x] := rfl
theorem nm_srt (a : ME) (f x p : String) (rev : Bool) : (ME.srt a f x p rev).names = a.names ++ [p] := rfl
theorem ev_srt (cf : CF) (ρ : List (String × D)) (a : ME) (f x p : String) (rev : Bool) : evE cf ρ (ME.srt a f x p rev) = (match evE cf ρ a with
    | some x => (match ρ.lookup p with
      | some i => srtD (rowKey cf f i) rev x
      | Option.none => Option.none)
    | Option.none => Option.none) := rfl
theorem nm_lcp (a : ME) : (ME.lcp a).names = a.names := rfl
theorem lookup_vis (x : String) : ∀ (σ : St), (vis σ).lookup x = (σ.lookup x).map (·.2)
  | [] => rfl
  | (y, v) :: r => by
    have ih := lookup_vis x r
    unfold vis at ih ⊢
    rw [List.map_cons, List.lookup_cons, List.lookup_cons]
    by_cases h : x = y
    · subst h; simp
    · have : (x == y) = false := by simpa using h
      simp only [this]
      exact ih
theorem lookup_setv (x y : String) (v : Bool × D) : ∀ (σ : St), (setv σ x v).lookup y = if y = x then some v else σ.lookup y
  | [] => by
    unfold setv
    rw [List.lookup_cons]
    by_cases h : y = x
    · simp [h]
    · have : (y == x) = false := by simpa using h
      simp [h, this]
  | (z, u) :: r => by
    unfold setv
    split
    · rename_i h; subst h
      rw [List.lookup_cons, List.lookup_cons]
      by_cases h : y = z
      · simp [h]
      · have : (y == z) = false := by simpa using h
        simp [h, this]
    · rename_i hz
      rw [List.lookup_cons, List.lookup_cons, lookup_setv x y v r]
      by_cases h : y = x
      · subst h
        have : (y == z) = false := by simpa using Ne.symm hz
        simp [this]
      · simp [h]
theorem lookup_freeze (ns : List String) (x : String) : ∀ (σ : St), (freeze ns σ).lookup x = (σ.lookup x).map fun p => (p.1 && !ns.contains x, p.2)
  | [] => rfl
  | (y, v) :: r => by
    have ih := lookup_freeze ns x r
    unfold freeze at ih ⊢
    rw [List.map_cons, List.lookup_cons, List.lookup_cons]
    by_cases h : x = y
    · subst h; simp
    · have : (x == y) = false := by simpa using h
      simp only [this]
      exact ih

end Mine
namespace Mine
open PySem

noncomputable abbrev KD := Str → Option NameKind
noncomputable def isVar (k : KD) (x : Str) : Bool := (k x == some .local || k x == some .cell || k x == some .free) && x != Str.ofString "__debug__" && x != Str.ofString "__classdict__" && x != Str.ofString ".0"
noncomputable def isGlob (k : KD) (x : Str) : Bool := k x == some .globalImplicit && x != Str.ofString "__debug__"
noncomputable def kindC (k : KD) (scope : Scope) : KD := fun x => (scope.names.map fun p => if p.2 == .free && k p.1 == some .cell then (p.1, NameKind.cell) else p).lookup x
noncomputable def notSet : Expr → Bool
  | .Set .. => false
  | _ => true
/-- the marks of the frame of the def that makes lambdas -/
noncomputable def ordK (k : KD) : Bool := k (Str.ofString "keys") == some .local && k (Str.ofString "sorted") == some .globalImplicit && k (Str.ofString "place") == some .cell
noncomputable def okScope (k : KD) (scope : Scope) (x : Str) : Bool :=
  scope.kind == .function && decide (scope.names.map (·.1)).Nodup && (scope.names.lookup x == some .local || scope.names.lookup x == some .cell) &&
  scope.names.all (fun p => p.2 != .free || k p.1 == some .cell || k p.1 == some .free) && scope.names.all (fun p => p.2 == .free || p.2 == .globalImplicit || p.1 == x || p.1 == Str.ofString ".0") && !ordK (kindC k scope)

noncomputable def okLam (k : KD) (ps : Arguments) (sc : Scope) (x p : Str) : Bool :=
  ps.posonlyargs.isEmpty && ps.kwonlyargs.isEmpty && ps.vararg.isNone && ps.kwarg.isNone && ps.defaults.isEmpty && ps.kw_defaults.isEmpty && ps.args.map (·.arg) == [x] &&
  sc.kind == .function && !sc.isCoroutine && !sc.isGenerator && decide (sc.names.map (·.1)).Nodup && sc.names.lookup x == some .local &&
  sc.names.all (fun p => p.2 != .cell && (p.2 != .free || k p.1 == some .cell || k p.1 == some .free)) && ordK k && !ordK (fun y => sc.names.lookup y) && sc.names.lookup p == some .free
noncomputable def ME.isNone : ME → Bool
  | .none => true
  | _ => false

noncomputable def notSlice : Expr → Bool
  | .Slice .. => false
  | _ => true
theorem dite_inv {c : Prop} [Decidable c] {f : c → Bool} (h : dite c f (fun _ => false) = true) : ∃ hc, f hc = true := by
  by_cases hc : c
  · rw [dif_pos hc] at h; exact ⟨hc, h⟩
  · rw [dif_neg hc] at h; cases h
noncomputable def c1 {α : Type} (l : List α) (f : α → Bool) : Bool := match l with | [x] => f x | _ => false
theorem c1_inv {α : Type} {l : List α} {f : α → Bool} (h : c1 l f = true) : ∃ x, l = [x] ∧ f x = true := by
  match l, h with
  | [x], h => exact ⟨x, rfl, h⟩
noncomputable def c2 {α : Type} (l : List α) (f : α → α → Bool) : Bool := match l with | [x, y] => f x y | _ => false
theorem c2_inv {α : Type} {l : List α} {f : α → α → Bool} (h : c2 l f = true) : ∃ x y, l = [x, y] ∧ f x y = true := by
  match l, h with
  | [x, y], h => exact ⟨x, y, rfl, h⟩
noncomputable def cOpt {α : Type} (l : Option α) (f : α → Bool) : Bool := match l with | some x => f x | none => false
theorem cOpt_inv {α : Type} {l : Option α} {f : α → Bool} (h : cOpt l f = true) : ∃ x, l = some x ∧ f x = true := by
  cases l with
  | none => cases h
  | some x => exact ⟨x, rfl, h⟩
noncomputable def cName (e : Expr) (f : Str → Pos → Bool) : Bool := dite (e.ctorIdx = 23) (fun h => Expr.Name.elim (motive_1 := fun _ => Bool) e h f) (fun _ => false)
theorem cName_inv {e : Expr} {f : Str → Pos → Bool} (h : cName e f = true) : ∃ (y : Str) (p : Pos), e = .Name y p ∧ f y p = true :=
  (dite_inv h).elim fun hc h => Expr.Name.elim (motive_1 := fun e => ∀ hc, Expr.Name.elim (motive_1 := fun _ => Bool) e hc f = true → ∃ (y : Str) (p : Pos), e = .Name y p ∧ f y p = true) e hc (fun v0 v1 _ h => ⟨v0, v1, rfl, h⟩) hc h
noncomputable def cConst (e : Expr) (f : Const → Nat → Pos → Bool) : Bool := dite (e.ctorIdx = 19) (fun h => Expr.Constant.elim (motive_1 := fun _ => Bool) e h f) (fun _ => false)
theorem cConst_inv {e : Expr} {f : Const → Nat → Pos → Bool} (h : cConst e f = true) : ∃ (c : Const) (n : Nat) (p : Pos), e = .Constant c n p ∧ f c n p = true :=
  (dite_inv h).elim fun hc h => Expr.Constant.elim (motive_1 := fun e => ∀ hc, Expr.Constant.elim (motive_1 := fun _ => Bool) e hc f = true → ∃ (c : Const) (n : Nat) (p : Pos), e = .Constant c n p ∧ f c n p = true) e hc (fun v0 v1 v2 _ h => ⟨v0, v1, v2, rfl, h⟩) hc h
noncomputable def cBin (e : Expr) (f : Expr → Operator → Expr → Pos → Bool) : Bool := dite (e.ctorIdx = 2) (fun h => Expr.BinOp.elim (motive_1 := fun _ => Bool) e h f) (fun _ => false)
theorem cBin_inv {e : Expr} {f : Expr → Operator → Expr → Pos → Bool} (h : cBin e f = true) : ∃ (l : Expr) (o : Operator) (r : Expr) (p : Pos), e = .BinOp l o r p ∧ f l o r p = true :=
  (dite_inv h).elim fun hc h => Expr.BinOp.elim (motive_1 := fun e => ∀ hc, Expr.BinOp.elim (motive_1 := fun _ => Bool) e hc f = true → ∃ (l : Expr) (o : Operator) (r : Expr) (p : Pos), e = .BinOp l o r p ∧ f l o r p = true) e hc (fun v0 v1 v2 v3 _ h => ⟨v0, v1, v2, v3, rfl, h⟩) hc h
noncomputable def cBool (e : Expr) (f : BoolOp → List Expr → Pos → Bool) : Bool := dite (e.ctorIdx = 0) (fun h => Expr.BoolOp.elim (motive_1 := fun _ => Bool) e h f) (fun _ => false)
theorem cBool_inv {e : Expr} {f : BoolOp → List Expr → Pos → Bool} (h : cBool e f = true) : ∃ (o : BoolOp) (vs : List Expr) (p : Pos), e = .BoolOp o vs p ∧ f o vs p = true :=
  (dite_inv h).elim fun hc h => Expr.BoolOp.elim (motive_1 := fun e => ∀ hc, Expr.BoolOp.elim (motive_1 := fun _ => Bool) e hc f = true → ∃ (o : BoolOp) (vs : List Expr) (p : Pos), e = .BoolOp o vs p ∧ f o vs p = true) e hc (fun v0 v1 v2 _ h => ⟨v0, v1, v2, rfl, h⟩) hc h
noncomputable def cUn (e : Expr) (f : UnaryOp → Expr → Pos → Bool) : Bool := dite (e.ctorIdx = 3) (fun h => Expr.UnaryOp.elim (motive_1 := fun _ => Bool) e h f) (fun _ => false)
theorem cUn_inv {e : Expr} {f : UnaryOp → Expr → Pos → Bool} (h : cUn e f = true) : ∃ (o : UnaryOp) (x : Expr) (p : Pos), e = .UnaryOp o x p ∧ f o x p = true :=
  (dite_inv h).elim fun hc h => Expr.UnaryOp.elim (motive_1 := fun e => ∀ hc, Expr.UnaryOp.elim (motive_1 := fun _ => Bool) e hc f = true → ∃ (o : UnaryOp) (x : Expr) (p : Pos), e = .UnaryOp o x p ∧ f o x p = true) e hc (fun v0 v1 v2 _ h => ⟨v0, v1, v2, rfl, h⟩) hc h
noncomputable def cTup (e : Expr) (f : List Expr → Nat → Pos → Bool) : Bool := dite (e.ctorIdx = 25) (fun h => Expr.Tuple.elim (motive_1 := fun _ => Bool) e h f) (fun _ => false)
theorem cTup_inv {e : Expr} {f : List Expr → Nat → Pos → Bool} (h : cTup e f = true) : ∃ (vs : List Expr) (n : Nat) (p : Pos), e = .Tuple vs n p ∧ f vs n p = true :=
  (dite_inv h).elim fun hc h => Expr.Tuple.elim (motive_1 := fun e => ∀ hc, Expr.Tuple.elim (motive_1 := fun _ => Bool) e hc f = true → ∃ (vs : List Expr) (n : Nat) (p : Pos), e = .Tuple vs n p ∧ f vs n p = true) e hc (fun v0 v1 v2 _ h => ⟨v0, v1, v2, rfl, h⟩) hc h
noncomputable def cLst (e : Expr) (f : List Expr → Pos → Bool) : Bool := dite (e.ctorIdx = 24) (fun h => Expr.List.elim (motive_1 := fun _ => Bool) e h f) (fun _ => false)
theorem cLst_inv {e : Expr} {f : List Expr → Pos → Bool} (h : cLst e f = true) : ∃ (vs : List Expr) (p : Pos), e = .List vs p ∧ f vs p = true :=
  (dite_inv h).elim fun hc h => Expr.List.elim (motive_1 := fun e => ∀ hc, Expr.List.elim (motive_1 := fun _ => Bool) e hc f = true → ∃ (vs : List Expr) (p : Pos), e = .List vs p ∧ f vs p = true) e hc (fun v0 v1 _ h => ⟨v0, v1, rfl, h⟩) hc h
noncomputable def cSub (e : Expr) (f : Expr → Expr → Pos → Bool) : Bool := dite (e.ctorIdx = 21) (fun h => Expr.Subscript.elim (motive_1 := fun _ => Bool) e h f) (fun _ => false)
theorem cSub_inv {e : Expr} {f : Expr → Expr → Pos → Bool} (h : cSub e f = true) : ∃ (v : Expr) (s : Expr) (p : Pos), e = .Subscript v s p ∧ f v s p = true :=
  (dite_inv h).elim fun hc h => Expr.Subscript.elim (motive_1 := fun e => ∀ hc, Expr.Subscript.elim (motive_1 := fun _ => Bool) e hc f = true → ∃ (v : Expr) (s : Expr) (p : Pos), e = .Subscript v s p ∧ f v s p = true) e hc (fun v0 v1 v2 _ h => ⟨v0, v1, v2, rfl, h⟩) hc h
noncomputable def cSlice (e : Expr) (f : Option Expr → Option Expr → Option Expr → Pos → Bool) : Bool := dite (e.ctorIdx = 26) (fun h => Expr.Slice.elim (motive_1 := fun _ => Bool) e h f) (fun _ => false)
theorem cSlice_inv {e : Expr} {f : Option Expr → Option Expr → Option Expr → Pos → Bool} (h : cSlice e f = true) : ∃ (l : Option Expr) (u : Option Expr) (t : Option Expr) (p : Pos), e = .Slice l u t p ∧ f l u t p = true :=
  (dite_inv h).elim fun hc h => Expr.Slice.elim (motive_1 := fun e => ∀ hc, Expr.Slice.elim (motive_1 := fun _ => Bool) e hc f = true → ∃ (l : Option Expr) (u : Option Expr) (t : Option Expr) (p : Pos), e = .Slice l u t p ∧ f l u t p = true) e hc (fun v0 v1 v2 v3 _ h => ⟨v0, v1, v2, v3, rfl, h⟩) hc h
noncomputable def cCmp (e : Expr) (f : Expr → List CmpOp → List Expr → Pos → Bool) : Bool := dite (e.ctorIdx = 15) (fun h => Expr.Compare.elim (motive_1 := fun _ => Bool) e h f) (fun _ => false)
theorem cCmp_inv {e : Expr} {f : Expr → List CmpOp → List Expr → Pos → Bool} (h : cCmp e f = true) : ∃ (l : Expr) (os : List CmpOp) (rs : List Expr) (p : Pos), e = .Compare l os rs p ∧ f l os rs p = true :=
  (dite_inv h).elim fun hc h => Expr.Compare.elim (motive_1 := fun e => ∀ hc, Expr.Compare.elim (motive_1 := fun _ => Bool) e hc f = true → ∃ (l : Expr) (os : List CmpOp) (rs : List Expr) (p : Pos), e = .Compare l os rs p ∧ f l os rs p = true) e hc (fun v0 v1 v2 v3 _ h => ⟨v0, v1, v2, v3, rfl, h⟩) hc h
noncomputable def cCall (e : Expr) (f : Expr → List Expr → List Keyword → Pos → Bool) : Bool := dite (e.ctorIdx = 16) (fun h => Expr.Call.elim (motive_1 := fun _ => Bool) e h f) (fun _ => false)
theorem cCall_inv {e : Expr} {f : Expr → List Expr → List Keyword → Pos → Bool} (h : cCall e f = true) : ∃ (g : Expr) (as : List Expr) (ks : List Keyword) (p : Pos), e = .Call g as ks p ∧ f g as ks p = true :=
  (dite_inv h).elim fun hc h => Expr.Call.elim (motive_1 := fun e => ∀ hc, Expr.Call.elim (motive_1 := fun _ => Bool) e hc f = true → ∃ (g : Expr) (as : List Expr) (ks : List Keyword) (p : Pos), e = .Call g as ks p ∧ f g as ks p = true) e hc (fun v0 v1 v2 v3 _ h => ⟨v0, v1, v2, v3, rfl, h⟩) hc h
noncomputable def cLC (e : Expr) (f : Expr → List Comprehension → Scope → Pos → Bool) : Bool := dite (e.ctorIdx = 8) (fun h => Expr.ListComp.elim (motive_1 := fun _ => Bool) e h f) (fun _ => false)
theorem cLC_inv {e : Expr} {f : Expr → List Comprehension → Scope → Pos → Bool} (h : cLC e f = true) : ∃ (t : Expr) (gs : List Comprehension) (sc : Scope) (p : Pos), e = .ListComp t gs sc p ∧ f t gs sc p = true :=
  (dite_inv h).elim fun hc h => Expr.ListComp.elim (motive_1 := fun e => ∀ hc, Expr.ListComp.elim (motive_1 := fun _ => Bool) e hc f = true → ∃ (t : Expr) (gs : List Comprehension) (sc : Scope) (p : Pos), e = .ListComp t gs sc p ∧ f t gs sc p = true) e hc (fun v0 v1 v2 v3 _ h => ⟨v0, v1, v2, v3, rfl, h⟩) hc h
noncomputable def cDict (e : Expr) (f : List (Option Expr) → List Expr → Pos → Bool) : Bool := dite (e.ctorIdx = 6) (fun h => Expr.Dict.elim (motive_1 := fun _ => Bool) e h f) (fun _ => false)
theorem cDict_inv {e : Expr} {f : List (Option Expr) → List Expr → Pos → Bool} (h : cDict e f = true) : ∃ (ks : List (Option Expr)) (vs : List Expr) (p : Pos), e = .Dict ks vs p ∧ f ks vs p = true :=
  (dite_inv h).elim fun hc h => Expr.Dict.elim (motive_1 := fun e => ∀ hc, Expr.Dict.elim (motive_1 := fun _ => Bool) e hc f = true → ∃ (ks : List (Option Expr)) (vs : List Expr) (p : Pos), e = .Dict ks vs p ∧ f ks vs p = true) e hc (fun v0 v1 v2 _ h => ⟨v0, v1, v2, rfl, h⟩) hc h
noncomputable def cAttr (e : Expr) (f : Expr → Str → Pos → Bool) : Bool := dite (e.ctorIdx = 20) (fun h => Expr.Attribute.elim (motive_1 := fun _ => Bool) e h f) (fun _ => false)
theorem cAttr_inv {e : Expr} {f : Expr → Str → Pos → Bool} (h : cAttr e f = true) : ∃ (x : Expr) (a : Str) (p : Pos), e = .Attribute x a p ∧ f x a p = true :=
  (dite_inv h).elim fun hc h => Expr.Attribute.elim (motive_1 := fun e => ∀ hc, Expr.Attribute.elim (motive_1 := fun _ => Bool) e hc f = true → ∃ (x : Expr) (a : Str) (p : Pos), e = .Attribute x a p ∧ f x a p = true) e hc (fun v0 v1 v2 _ h => ⟨v0, v1, v2, rfl, h⟩) hc h
noncomputable def cLam (e : Expr) (f : Arguments → Expr → Scope → Pos → Bool) : Bool := dite (e.ctorIdx = 4) (fun h => Expr.Lambda.elim (motive_1 := fun _ => Bool) e h f) (fun _ => false)
theorem cLam_inv {e : Expr} {f : Arguments → Expr → Scope → Pos → Bool} (h : cLam e f = true) : ∃ (a : Arguments) (b : Expr) (sc : Scope) (p : Pos), e = .Lambda a b sc p ∧ f a b sc p = true :=
  (dite_inv h).elim fun hc h => Expr.Lambda.elim (motive_1 := fun e => ∀ hc, Expr.Lambda.elim (motive_1 := fun _ => Bool) e hc f = true → ∃ (a : Arguments) (b : Expr) (sc : Scope) (p : Pos), e = .Lambda a b sc p ∧ f a b sc p = true) e hc (fun v0 v1 v2 v3 _ h => ⟨v0, v1, v2, v3, rfl, h⟩) hc h
/-- f(x[p]) -/
noncomputable def chkLam (k : KD) (b : Expr) (f x p : String) : Bool := cCall b fun g as ks _ => ks.isEmpty && cName g fun g _ => g == Str.ofString f && isGlob k g &&
  (match as with | e :: es' => (cSub e fun v s _ => notSlice s && (cName v fun y _ => y == Str.ofString x && isVar k y) && (cName s fun y _ => y == Str.ofString p && isVar k y)) && es'.isEmpty | [] => false)
noncomputable def chkKw (k : KD) (ks : List Keyword) (f x p : String) (rev : Bool) : Bool := match rev with
  | true => c2 ks fun k1 k2 => k1.arg == some (Str.ofString "key") && k2.arg == some (Str.ofString "reverse") && (cConst k2.value fun c _ _ => c == .bool true) && cLam k1.value fun ps b sc _ => okLam k ps sc (Str.ofString x) (Str.ofString p) && chkLam (fun y => sc.names.lookup y) b f x p
  | false => c1 ks fun k1 => k1.arg == some (Str.ofString "key") && cLam k1.value fun ps b sc _ => okLam k ps sc (Str.ofString x) (Str.ofString p) && chkLam (fun y => sc.names.lookup y) b f x p
mutual
noncomputable def chkE (k : KD) (e : Expr) (me : ME) : Bool := match me with
  | .var x => cName e fun y _ => y == Str.ofString x && isVar k y
  | .glob x => cName e fun y _ => y == Str.ofString x && isGlob k y
  | .int i => cConst e fun c _ _ => c == .int i
  | .str s => cConst e fun c _ _ => c == .str (Str.ofString s)
  | .bool b => cConst e fun c _ _ => c == .bool b
  | .none => cConst e fun c _ _ => c == .none
  | .bin op a b => cBin e fun l op' r _ => op == op' && chkE k l a && chkE k r b
  | .cmp op a b => cCmp e fun l os rs _ => os == [op] && c1 rs fun r => notSet r && chkE k l a && chkE k r b
  | .bop op es => cBool e fun op' vs _ => op == op' && chkEs k vs es
  | .not a => cUn e fun o x _ => o == .Not && chkE k x a
  | .neg a => cUn e fun o x _ => o == .USub && chkE k x a
  | .tup es => cTup e fun vs _ _ => chkEs k vs es
  | .lst es => cLst e fun vs _ => chkEs k vs es
  | .dct ks vs => cDict e fun kes ves _ => kes.all Option.isSome && chkEs k (kes.filterMap id) ks && chkEs k ves vs
  | .sub a i => cSub e fun v s _ => notSlice s && chkE k v a && chkE k s i
  | .sl a lo hi => cSub e fun v s _ => cSlice s fun l u t _ => t.isNone && chkE k v a && (match l with | Option.none => lo.isNone | some x => chkE k x lo) && (match u with | Option.none => hi.isNone | some x => chkE k x hi)
  | .comp elt x src cs => cLC e fun t gs scope _ => c1 gs fun g => g.is_async == 0 && cName g.target fun y _ => y == Str.ofString x && notSet g.iter && okScope k scope y && chkE k g.iter src && chkE (kindC k scope) t elt && chkEs (kindC k scope) g.ifs cs
  | .call f args => cCall e fun g as ks _ => ks.isEmpty && cName g fun g _ => g == Str.ofString f && isGlob k g && chkEs k as args
  | .isi a T => cCall e fun g as ks _ => ks.isEmpty && c2 as fun x t => cName g fun g _ => cName t fun t _ => g == Str.ofString "isinstance" && isGlob k g && t == Str.ofString T && isGlob k t && chkE k x a
  | .blt f args => cCall e fun g as ks _ => ks.isEmpty && cName g fun g _ => g == Str.ofString f && isGlob k g && chkEs k as args
  | .lcp a => cCall e fun g as ks _ => ks.isEmpty && cName g fun g _ => g == Str.ofString "list" && isGlob k g && c1 as fun x => chkE k x a
  | .srt a f x p rev => cCall e fun g as ks _ => chkKw k ks f x p rev && cName g fun g _ => g == Str.ofString "sorted" && isGlob k g && c1 as fun x => chkE k x a
termination_by structural me
noncomputable def chkEs (k : KD) (es : List Expr) (ms : List ME) : Bool := match ms with
  | [] => es.isEmpty
  | a :: r => (match es with | e :: es' => chkE k e a && chkEs k es' r | [] => false)
termination_by structural ms
end

theorem cs_nil (k : KD) (es : List Expr) : chkEs k es [] = es.isEmpty := rfl
theorem cs_cons (k : KD) (e : Expr) (es : List Expr) (a : ME) (r : List ME) : chkEs k (e :: es) (a :: r) = (chkE k e a && chkEs k es r) := rfl
theorem cs_consn (k : KD) (a : ME) (r : List ME) : chkEs k [] (a :: r) = false := rfl

noncomputable def shapeE : Expr → Nat
  | .Name .. => 1
  | .Constant .. => 2
  | .BinOp .. => 3
  | .Compare .. => 4
  | .BoolOp .. => 5
  | .UnaryOp .. => 6
  | .Tuple .. => 7
  | .List .. => 8
  | .Subscript .. => 9
  | .ListComp .. => 10
  | .Call .. => 11
  | .Dict .. => 12
  | _ => 0
noncomputable def shapeM : ME → Nat
  | .var _ | .glob _ => 1
  | .int _ | .str _ | .bool _ | .none => 2
  | .bin _ _ _ => 3
  | .cmp _ _ _ => 4
  | .bop _ _ => 5
  | .not _ | .neg _ => 6
  | .tup _ => 7
  | .lst _ => 8
  | .sub _ _ | .sl _ _ _ => 9
  | .comp _ _ _ _ => 10
  | .call _ _ | .isi _ _ | .blt _ _ | .lcp _ => 11
  | .srt _ _ _ _ _ => 11
  | .dct _ _ => 12
section
variable {k : KD} {e : Expr}
theorem inv_var {x : String} (h : chkE k e (.var x) = true) : ∃ y p, e = .Name y p ∧ (y == Str.ofString x && isVar k y) = true := by
  exact cName_inv h
theorem inv_glob {x : String} (h : chkE k e (.glob x) = true) : ∃ y p, e = .Name y p ∧ (y == Str.ofString x && isGlob k y) = true := by
  exact cName_inv h
theorem inv_int {i : Int} (h : chkE k e (.int i) = true) : ∃ n p, e = .Constant (.int i) n p := by
  replace h := cConst_inv h; obtain ⟨c, n, p, rfl, h⟩ := h; exact ⟨n, p, by rw [eq_of_beq h]⟩
theorem inv_str {i : String} (h : chkE k e (.str i) = true) : ∃ n p, e = .Constant (.str (Str.ofString i)) n p := by
  replace h := cConst_inv h; obtain ⟨c, n, p, rfl, h⟩ := h; exact ⟨n, p, by rw [eq_of_beq h]⟩
theorem inv_bool {i : Bool} (h : chkE k e (.bool i) = true) : ∃ n p, e = .Constant (.bool i) n p := by
  replace h := cConst_inv h; obtain ⟨c, n, p, rfl, h⟩ := h; exact ⟨n, p, by rw [eq_of_beq h]⟩
theorem inv_none (h : chkE k e .none = true) : ∃ n p, e = .Constant .none n p := by
  replace h := cConst_inv h; obtain ⟨c, n, p, rfl, h⟩ := h; exact ⟨n, p, by rw [eq_of_beq h]⟩
theorem inv_bin {op : Operator} {a b : ME} (h : chkE k e (.bin op a b) = true) : ∃ l op' r p, e = .BinOp l op' r p ∧ (op == op' && chkE k l a && chkE k r b) = true := by
  exact cBin_inv h
theorem inv_cmp {op : CmpOp} {a b : ME} (h : chkE k e (.cmp op a b) = true) : ∃ l r p, e = .Compare l [op] [r] p ∧ (notSet r && chkE k l a && chkE k r b) = true := by
  replace h := cCmp_inv h; obtain ⟨l, os, rs, p, rfl, h⟩ := h
  rw [Bool.and_eq_true] at h
  obtain ⟨h1, h⟩ := h
  replace h := c1_inv h; obtain ⟨r, rfl, h⟩ := h
  exact ⟨l, r, p, by rw [eq_of_beq h1], h⟩
theorem inv_bop {op : BoolOp} {es : List ME} (h : chkE k e (.bop op es) = true) : ∃ op' vs p, e = .BoolOp op' vs p ∧ (op == op' && chkEs k vs es) = true := by
  exact cBool_inv h
theorem inv_not {a : ME} (h : chkE k e (.not a) = true) : ∃ x p, e = .UnaryOp .Not x p ∧ chkE k x a = true := by
  replace h := cUn_inv h; obtain ⟨o, x, p, rfl, h⟩ := h
  rw [Bool.and_eq_true] at h
  exact ⟨x, p, by rw [eq_of_beq h.1], h.2⟩
theorem inv_neg {a : ME} (h : chkE k e (.neg a) = true) : ∃ x p, e = .UnaryOp .USub x p ∧ chkE k x a = true := by
  replace h := cUn_inv h; obtain ⟨o, x, p, rfl, h⟩ := h
  rw [Bool.and_eq_true] at h
  exact ⟨x, p, by rw [eq_of_beq h.1], h.2⟩
theorem inv_tup {es : List ME} (h : chkE k e (.tup es) = true) : ∃ vs n p, e = .Tuple vs n p ∧ chkEs k vs es = true := by
  exact cTup_inv h
theorem inv_lst {es : List ME} (h : chkE k e (.lst es) = true) : ∃ vs p, e = .List vs p ∧ chkEs k vs es = true := by
  exact cLst_inv h
theorem somes : ∀ {l : List (Option Expr)}, l.all Option.isSome = true → l = (l.filterMap id).map some
  | [], _ => rfl
  | none :: l, h => by simp at h
  | some x :: l, h => by simp at h; simp; exact somes (by simpa using h)
theorem inv_dct {ks vs : List ME} (h : chkE k e (.dct ks vs) = true) : ∃ kes ves p, e = .Dict (kes.map some) ves p ∧ chkEs k kes ks = true ∧ chkEs k ves vs = true := by
  replace h := cDict_inv h; obtain ⟨kes, ves, p, rfl, h⟩ := h
  rw [Bool.and_assoc, Bool.and_eq_true, Bool.and_eq_true] at h
  exact ⟨kes.filterMap id, ves, p, by rw [← somes h.1], h.2.1, h.2.2⟩
theorem notSlice_inv {s : Expr} (h : notSlice s = true) : ∀ a b c p, s = .Slice a b c p → False := by
  rintro a b c p rfl; cases h
theorem inv_sub {a i : ME} (h : chkE k e (.sub a i) = true) : ∃ v s p, e = .Subscript v s p ∧ (∀ a b c p, s = .Slice a b c p → False) ∧ (chkE k v a && chkE k s i) = true := by
  replace h := cSub_inv h; obtain ⟨v, s, p, rfl, h⟩ := h
  rw [Bool.and_assoc, Bool.and_eq_true] at h
  exact ⟨v, s, p, rfl, notSlice_inv h.1, h.2⟩
theorem inv_sl {a lo hi : ME} (h : chkE k e (.sl a lo hi) = true) : ∃ v l u p pos, e = .Subscript v (.Slice l u Option.none p) pos ∧ (chkE k v a && (match l with | Option.none => lo.isNone | some x => chkE k x lo) && (match u with | Option.none => hi.isNone | some x => chkE k x hi)) = true := by
  replace h := cSub_inv h; obtain ⟨v, s, p, rfl, h⟩ := h
  replace h := cSlice_inv h; obtain ⟨l, u, t, p, rfl, h⟩ := h
  rw [Bool.and_assoc, Bool.and_assoc, Bool.and_eq_true] at h
  exact ⟨v, l, u, p, _, by rw [Option.isNone_iff_eq_none.mp h.1], by rw [Bool.and_assoc]; exact h.2⟩
theorem inv_comp {elt src : ME} {x : String} {cs : List ME} (h : chkE k e (.comp elt x src cs) = true) : ∃ t y py it ifs scope lp, e = .ListComp t [⟨.Name y py, it, ifs, 0⟩] scope lp ∧ (y == Str.ofString x && notSet it && okScope k scope y && chkE k it src && chkE (kindC k scope) t elt && chkEs (kindC k scope) ifs cs) = true := by
  replace h := cLC_inv h; obtain ⟨t, gs, scope, p, rfl, h⟩ := h
  replace h := c1_inv h; obtain ⟨⟨tg, it, ifs, z⟩, rfl, h⟩ := h
  rw [Bool.and_eq_true] at h
  obtain ⟨h1, h⟩ := h
  obtain ⟨y, py, h2, h⟩ := cName_inv h
  have h1 : z = 0 := eq_of_beq h1
  have h2 : tg = _ := h2
  subst h1 h2
  exact ⟨t, y, py, it, ifs, scope, p, rfl, h⟩
theorem inv_call {f : String} {args : List ME} (h : chkE k e (.call f args) = true) : ∃ g gp as pos, e = .Call (.Name g gp) as [] pos ∧ (g == Str.ofString f && isGlob k g && chkEs k as args) = true := by
  replace h := cCall_inv h; obtain ⟨g, as, ks, p, rfl, h⟩ := h
  rw [Bool.and_eq_true] at h
  obtain ⟨h1, h⟩ := h
  replace h := cName_inv h; obtain ⟨y, py, rfl, h⟩ := h
  exact ⟨y, py, as, p, by rw [List.isEmpty_iff.mp h1], h⟩
theorem inv_blt {f : String} {args : List ME} (h : chkE k e (.blt f args) = true) : ∃ g gp as pos, e = .Call (.Name g gp) as [] pos ∧ (g == Str.ofString f && isGlob k g && chkEs k as args) = true := by
  exact inv_call h
theorem inv_lcp {a : ME} (h : chkE k e (.lcp a) = true) : ∃ g gp x pos, e = .Call (.Name g gp) [x] [] pos ∧ (g == Str.ofString "list" && isGlob k g) = true ∧ chkE k x a = true := by
  replace h := cCall_inv h; obtain ⟨g, as, ks, p, rfl, h⟩ := h
  rw [Bool.and_eq_true] at h
  obtain ⟨h1, h⟩ := h
  replace h := cName_inv h; obtain ⟨y, py, rfl, h⟩ := h
  rw [Bool.and_eq_true] at h
  obtain ⟨h2, h⟩ := h
  replace h := c1_inv h; obtain ⟨x, rfl, h⟩ := h
  exact ⟨y, py, x, p, by rw [List.isEmpty_iff.mp h1], h2, h⟩
theorem chkLam_E {k : KD} {b : Expr} {f x p : String} (h : chkLam k b f x p = true) : chkE k b (.call f [.sub (.var x) (.var p)]) = true := h
theorem inv_srt {a : ME} {f x p : String} {rev : Bool} (h : chkE k e (.srt a f x p rev) = true) : ∃ g gp y ks pos, e = .Call (.Name g gp) [y] ks pos ∧ (g == Str.ofString "sorted" && isGlob k g) = true ∧ chkE k y a = true ∧
    ∃ ps b sc lp kp, (okLam k ps sc (Str.ofString x) (Str.ofString p) && chkLam (fun y => sc.names.lookup y) b f x p) = true ∧
      ((rev = false ∧ ks = [⟨some (Str.ofString "key"), .Lambda ps b sc lp, kp⟩]) ∨ ∃ n cp kp2, rev = true ∧ ks = [⟨some (Str.ofString "key"), .Lambda ps b sc lp, kp⟩, ⟨some (Str.ofString "reverse"), .Constant (.bool true) n cp, kp2⟩]) := by
  replace h := cCall_inv h; obtain ⟨g, as, ks, pos, rfl, h⟩ := h
  rw [Bool.and_eq_true] at h
  obtain ⟨h1, h⟩ := h
  replace h := cName_inv h; obtain ⟨g, gp, rfl, h⟩ := h
  rw [Bool.and_eq_true] at h
  obtain ⟨h2, h⟩ := h
  replace h := c1_inv h; obtain ⟨y, rfl, h⟩ := h
  refine ⟨g, gp, y, ks, pos, rfl, h2, h, ?_⟩
  cases rev with
  | true =>
    replace h1 := c2_inv h1; obtain ⟨⟨a1, v1, p1⟩, ⟨a2, v2, p2⟩, rfl, h1⟩ := h1
    rw [Bool.and_eq_true, Bool.and_eq_true, Bool.and_eq_true] at h1
    obtain ⟨⟨⟨e1, e2⟩, e3⟩, e4⟩ := h1
    have e1 : a1 = _ := eq_of_beq e1
    have e2 : a2 = _ := eq_of_beq e2
    subst e1 e2
    obtain ⟨c, n, cp, e5, e3⟩ := cConst_inv e3
    have e3 : c = _ := eq_of_beq e3
    have e5 : v2 = _ := e5
    subst e3 e5
    obtain ⟨ps, b, sc, lp, e6, e4⟩ := cLam_inv e4
    have e6 : v1 = _ := e6
    subst e6
    exact ⟨ps, b, sc, lp, p1, e4, .inr ⟨n, cp, p2, rfl, rfl⟩⟩
  | false =>
    replace h1 := c1_inv h1; obtain ⟨⟨a1, v1, p1⟩, rfl, h1⟩ := h1
    rw [Bool.and_eq_true] at h1
    obtain ⟨e1, e4⟩ := h1
    have e1 : a1 = _ := eq_of_beq e1
    subst e1
    obtain ⟨ps, b, sc, lp, e6, e4⟩ := cLam_inv e4
    have e6 : v1 = _ := e6
    subst e6
    exact ⟨ps, b, sc, lp, p1, e4, .inl ⟨rfl, rfl⟩⟩
theorem inv_isi {a : ME} {T : String} (h : chkE k e (.isi a T) = true) : ∃ g gp x t tp pos, e = .Call (.Name g gp) [x, .Name t tp] [] pos ∧ (g == Str.ofString "isinstance" && isGlob k g && t == Str.ofString T && isGlob k t && chkE k x a) = true := by
  replace h := cCall_inv h; obtain ⟨g, as, ks, p, rfl, h⟩ := h
  rw [Bool.and_eq_true] at h
  obtain ⟨h1, h⟩ := h
  replace h := c2_inv h; obtain ⟨x, t, rfl, h⟩ := h
  replace h := cName_inv h; obtain ⟨y, py, rfl, h⟩ := h
  replace h := cName_inv h; obtain ⟨z, pz, rfl, h⟩ := h
  exact ⟨y, py, x, z, pz, p, by rw [List.isEmpty_iff.mp h1], h⟩
theorem chk_shape {me : ME} (h : chkE k e me = true) : shapeE e = shapeM me := by
  cases me with
  | var => obtain ⟨_, _, rfl, _⟩ := inv_var h; rfl
  | glob => obtain ⟨_, _, rfl, _⟩ := inv_glob h; rfl
  | int => replace h := inv_int h; obtain ⟨_, _, rfl⟩ := h; rfl
  | str => replace h := inv_str h; obtain ⟨_, _, rfl⟩ := h; rfl
  | bool => replace h := inv_bool h; obtain ⟨_, _, rfl⟩ := h; rfl
  | none => replace h := inv_none h; obtain ⟨_, _, rfl⟩ := h; rfl
  | bin => obtain ⟨_, _, _, _, rfl, _⟩ := inv_bin h; rfl
  | cmp => obtain ⟨_, _, _, rfl, _⟩ := inv_cmp h; rfl
  | bop => obtain ⟨_, _, _, rfl, _⟩ := inv_bop h; rfl
  | not => obtain ⟨_, _, rfl, _⟩ := inv_not h; rfl
  | neg => obtain ⟨_, _, rfl, _⟩ := inv_neg h; rfl
  | tup => obtain ⟨_, _, _, rfl, _⟩ := inv_tup h; rfl
  | lst => obtain ⟨_, _, rfl, _⟩ := inv_lst h; rfl
  | dct => obtain ⟨_, _, _, rfl, _⟩ := inv_dct h; rfl
  | sub => obtain ⟨_, _, _, rfl, _⟩ := inv_sub h; rfl
  | sl => obtain ⟨_, _, _, _, _, rfl, _⟩ := inv_sl h; rfl
  | comp => obtain ⟨_, _, _, _, _, _, _, rfl, _⟩ := inv_comp h; rfl
  | call => obtain ⟨_, _, _, _, rfl, _⟩ := inv_call h; rfl
  | blt => obtain ⟨_, _, _, _, rfl, _⟩ := inv_blt h; rfl
  | isi => obtain ⟨_, _, _, _, _, _, rfl, _⟩ := inv_isi h; rfl
  | lcp => obtain ⟨_, _, _, _, rfl, _⟩ := inv_lcp h; rfl
  | srt => obtain ⟨_, _, _, _, _, rfl, _⟩ := inv_srt h; rfl
end
end Mine
namespace Mine
open PySem

noncomputable def Ex (h : Heap) (H : Addr → Prop) : Prop := ∀ a, H a → ∃ b o, @LE.le Nat _ a b ∧ gat h b = some o
theorem Ex.fresh {h : Heap} {H : Addr → Prop} (x : Ex h H) : ¬ H h.objs.size := fun e => by
  obtain ⟨b, o, hb, ho⟩ := x _ e
  exact Nat.lt_irrefl _ (Nat.lt_of_le_of_lt hb (Heap.gt_lt ho))
theorem Ex.keeps {h h' : Heap} {H : Addr → Prop} (x : Ex h H) (hk : KH h h') : Ex h' H := fun a e => by
  obtain ⟨b, o, hb, ho⟩ := x _ e
  exact ⟨b, o, hb, hk _ _ ho⟩

/-- but for new objects, tokens and draws all is as it was -/
noncomputable def Keeps (s s' : Shared) : Prop := ∃ h' tk dr, s' = { s with heap := h', toks := tk, drawn := dr } ∧ KH s.heap h'
theorem Kp.refl (s : Shared) : Keeps s s := ⟨s.heap, s.toks, s.drawn, rfl, fun _ _ e => e⟩
theorem Kp.tok (s : Shared) (t : Nat) : Keeps s { s with toks := t } := ⟨s.heap, t, s.drawn, rfl, fun _ _ e => e⟩
theorem Kp.push (s : Shared) (o : Obj) : Keeps s { s with heap := s.heap.push o } := ⟨_, s.toks, s.drawn, rfl, fun _ _ e => Heap.gt_push_of_some _ e⟩
theorem Kp.trans {s s' s'' : Shared} (a : Keeps s s') (b : Keeps s' s'') : Keeps s s'' := by
  obtain ⟨h', t', d', rfl, k'⟩ := a
  obtain ⟨h'', t'', d'', rfl, k''⟩ := b
  exact ⟨h'', t'', d'', rfl, fun x o e => k'' x o (k' x o e)⟩
theorem Kp.heap {s s' : Shared} (a : Keeps s s') : KH s.heap s'.heap := by
  obtain ⟨h', t', d', rfl, k'⟩ := a
  exact k'

/-- what an expression's run leaves -/
noncomputable def Post (w : World) (s : Shared) (H : Addr → Prop) (d : D) (v : Value) (s' : Shared) : Prop := Keeps s s' ∧ Rep w.params s'.heap H v d

/-- the list at a, its items outside of H and of a itself -/
noncomputable def OwnL (P : Params) (h : Heap) (H : Addr → Prop) (a : Addr) (ds : List D) : Prop :=
  ∃ vs n, h.get? a = some (lstO vs n) ∧ ds.length ≤ big ∧ RepAll P h (fun b => H b ∨ b = a) vs.toList ds
theorem OwnL.rep {P : Params} {h : Heap} {H : Addr → Prop} {a : Addr} {ds : List D} (o : OwnL P h H a ds) (hn : ¬ H a) : Rep P h H (.ref a) (.list ds) := by
  obtain ⟨vs, n, h1, h2, h3⟩ := o
  exact .list h1 hn h2 (h3.mono (fun _ _ _ e => e) fun _ _ _ q => .inl q)

/-- the dict at a, its keys and values outside of H and of a itself -/
noncomputable def OwnM (P : Params) (h : Heap) (H : Addr → Prop) (a : Addr) (ks vs : List D) : Prop :=
  ∃ es n, h.get? a = some (dicO es n) ∧ ks.length ≤ big ∧ RepAll P h (fun b => H b ∨ b = a) (es.toList.map (·.key)) ks ∧ RepAll P h (fun b => H b ∨ b = a) (es.toList.map (·.val)) vs ∧ es.toList.map (·.hash) = ks.map (hashK P) ∧ ks.all D.isKey = true ∧ ks.Nodup ∧ (a == sysModules) = false
/-- a new list or dict that nothing else holds -/
noncomputable def OwnD (P : Params) (h : Heap) (H : Addr → Prop) (a : Addr) : D → Prop
  | .list ds => OwnL P h H a ds
  | .dict ks vs => OwnM P h H a ks vs
  | _ => False
theorem OwnD.rep {P : Params} {h : Heap} {H : Addr → Prop} {a : Addr} {d : D} (o : OwnD P h H a d) (hn : ¬ H a) : Rep P h H (.ref a) d := by
  cases d <;> first | exact OwnL.rep o hn | exact False.elim o | skip
  obtain ⟨es, n, h1, h2, h3, h4, h5, h6, h7, h8⟩ := o
  exact .dict h1 hn h2 (h3.mono (fun _ _ _ e => e) fun _ _ _ q => .inl q) (h4.mono (fun _ _ _ e => e) fun _ _ _ q => .inl q) h5 h6 h7 h8
theorem OwnD.ex {P : Params} {h : Heap} {H : Addr → Prop} {a : Addr} {d : D} (o : OwnD P h H a d) : ∃ o, gat h a = some o := by
  cases d <;> first | exact False.elim o | (obtain ⟨_, _, e, _⟩ := o; exact ⟨_, Heap.gt_of e⟩)
theorem OwnD.notTab {P : Params} {h : Heap} {H : Addr → Prop} {a : Addr} {d : D} (o : OwnD P h H a d) : ∀ o, h.get? a = some o → isTab o = false := by
  cases d <;> first | exact False.elim o | (obtain ⟨_, _, e, _⟩ := o; exact notTab_at e)
theorem OwnD.scalar {P : Params} {h : Heap} {H : Addr → Prop} {a : Addr} {d : D} (o : OwnD P h H a d) : d.scalar = false := by
  cases d <;> first | rfl | exact False.elim o
noncomputable def Fresh (w : World) (s s' : Shared) (H : Addr → Prop) (v : Value) (d : D) : Prop := ∃ a, v = .ref a ∧ gat s.heap a = none ∧ OwnD w.params s'.heap H a d
noncomputable def PostF (w : World) (s : Shared) (H : Addr → Prop) (d : D) (fr : Bool) (v : Value) (s' : Shared) : Prop := Keeps s s' ∧ Rep w.params s'.heap H v d ∧ (fr = true → Fresh w s s' H v d)

theorem PostF.after {w : World} {s s₁ s₂ : Shared} {H : Addr → Prop} {d : D} {fr : Bool} {v : Value} (k : Keeps s s₁) (q : PostF w s₁ H d fr v s₂) : PostF w s H d fr v s₂ := by
  refine ⟨Kp.trans k q.1, q.2.1, fun e => ?_⟩
  obtain ⟨a, h1, h2, h3⟩ := q.2.2 e
  refine ⟨a, h1, ?_, h3⟩
  cases e : gat s.heap a with
  | none => rfl
  | some o => rw [Kp.heap k a o e] at h2; cases h2
theorem Post.plain {w : World} {s s₂ : Shared} {H : Addr → Prop} {d : D} {v : Value} (q : Post w s H d v s₂) (h : d.isList = false) : PostF w s H d d.isList v s₂ :=
  ⟨q.1, q.2, fun e => by rw [h] at e; cases e⟩
theorem post_newList {w : World} {s : Shared} {H : Addr → Prop} {vs : Array Value} {ds : List D} {h' : Heap} {n tk : Nat} {dr : Drawn} (hH : Ex s.heap H) (hl : ds.length ≤ big) (hr : RepAll w.params s.heap H vs.toList ds) (hk : KH s.heap h')
    (ho : h'.get? s.heap.objs.size = some (lstO vs n)) : PostF w s H (.list ds) true (.ref s.heap.objs.size) { s with heap := h', toks := tk, drawn := dr } := by
  have own : OwnL w.params h' H s.heap.objs.size ds := ⟨vs, n, ho, hl, hr.mono (fun a o _ e => hk a o e) fun a o e q => q.elim id fun q => absurd (Heap.gt_lt e) (q ▸ Nat.lt_irrefl _)⟩
  refine ⟨⟨h', tk, dr, rfl, hk⟩, own.rep hH.fresh, fun _ => ⟨_, rfl, ?_, own⟩⟩
  cases e : gat s.heap s.heap.objs.size with
  | none => rfl
  | some o => exact absurd (Heap.gt_lt e) (Nat.lt_irrefl _)

section
variable {prog : Program} {w : World} {A : Around} {E : Value → Shared → Prop} {s : Shared} {H : Addr → Prop}

theorem bits_le {a : Int} (h : -lim < a ∧ a < lim) : Builtin.Int.intBits a ≤ 64 := by
  unfold Builtin.Int.intBits
  split
  · omega
  · have h2 : a.natAbs < 2 ^ 64 := by unfold lim at h; omega
    have h3 : a.natAbs ≠ 0 := by intro e; rename_i hh; apply hh; simp; omega
    have := (Nat.log2_lt h3).mpr h2
    omega
theorem bits_le1000 {a : Int} (h : -powLim < a ∧ a < powLim) : Builtin.Int.intBits a ≤ 1000 := by
  unfold powLim at h
  unfold Builtin.Int.intBits
  split
  · omega
  · rename_i hh
    have h3 : a.natAbs ≠ 0 := by intro e; apply hh; simp; omega
    have h2 : a.natAbs < 2 ^ 1000 := by
      have e : ((2 ^ 1000 : Nat) : Int) = (2 : Int) ^ 1000 := by exact Int.natCast_pow 2 1000
      generalize (2 : Int) ^ 1000 = p at h e
      omega
    have := (Nat.log2_lt h3).mpr h2
    omega

theorem rep_newTup {vs : Array Value} {ds : List D} (hH : Ex s.heap H) (hl : ds.length ≤ big) (hr : RepAll w.params s.heap H vs.toList ds) :
    Rep w.params (s.heap.push (tupO vs 0)) H (.ref s.heap.objs.size) (.tup ds) :=
  .tup (Heap.get?_push_size _ rfl) hH.fresh hl (hr.keeps fun _ _ e => Heap.gt_push_of_some _ e)

theorem binI_snd {op : Operator} {i j : Int} {t u : Tok} {d : D} (he : binI op i j = some d) : wpAny (model prog w) A (binaryOp op (.int i t) (.int j u)) (Post w s H d) E s := by
  cases op <;> simp only [binI] at he <;> first | (cases he; done) | skip
  · cases he; exact PyProof.Rows.add_int ⟨Kp.tok _ _, .int _ _⟩
  · cases he; exact PyProof.Rows.sub_int ⟨Kp.tok _ _, .int _ _⟩
  · split at he
    · rename_i hc; cases he
      exact PyProof.Rows.mul_int ⟨Kp.tok _ _, .int _ _⟩ (hc.elim (fun h => .of_left (bits_le h)) fun h => .of_right (bits_le h))
    · cases he
  · split at he
    · rename_i hc; cases he
      refine PyProof.Rows.mod_int (by omega) ?_
      rw [Int.fmod_eq_emod_of_nonneg _ (by omega)]
      exact ⟨Kp.tok _ _, .int _ _⟩
    · cases he
  · split at he
    · rename_i hc; cases he
      obtain ⟨h1, h2, h3, h4⟩ := hc
      refine PyProof.Rows.pow_int h3 ?_ ⟨Kp.tok _ _, .int _ _⟩
      have hb := bits_le1000 ⟨h1, h2⟩
      have : (Builtin.Int.intBits i : Int) * j ≤ 1000 * 100 := Int.mul_le_mul (by omega) h4 h3 (by decide)
      exact Int.le_trans this (by decide)
    · cases he
  · split at he
    · rename_i hc; cases he
      refine PyProof.Rows.floordiv_int (by omega) ?_ (.inl (PyProof.noPylong_of_log2 ?_))
      · rw [Int.fdiv_eq_ediv_of_nonneg _ (by omega)]
        exact ⟨Kp.tok _ _, .int _ _⟩
      · have : j.natAbs < 2 ^ 64 := by unfold lim at hc; omega
        have h3 : j.natAbs ≠ 0 := by omega
        have := (Nat.log2_lt h3).mpr this
        omega
    · cases he
theorem binS_snd {op : Operator} {x : Str} {t : Tok} {y : Value} {b d : D} (hy : Rep w.params s.heap H y b) (he : binS op x b = some d) : wpAny (model prog w) A (binaryOp op (.str x t) y) (Post w s H d) E s := by
  cases op <;> simp only [binS] at he <;> first | (cases he; done) | skip
  · cases hy <;> simp only at he <;> first | (cases he; done) | skip
    split at he
    · rename_i hc; cases he
      exact PyProof.Rows.add_str (fun t' tk => ⟨Kp.tok _ _, .str _ _⟩) (by exact hc)
    · cases he
  · cases hy <;> simp only at he <;> first | (cases he; done) | skip
    rename_i n u
    split at he
    · rename_i hc; cases he
      obtain ⟨h0, h1, h2⟩ := hc
      refine SB.mul ⟨by simp; omega, fun g1 _ => ?_, fun g1 _ => ?_⟩ fun t' k => ⟨Kp.tok _ _, .str _ _⟩
      · have : (1000 : Int) ≤ (2 ^ 63 - 1) / n := by
          rw [Int.le_ediv_iff_mul_le (by omega)]; omega
        omega
      · have : x.length * n.toNat ≤ 1000 * 1000 := Nat.mul_le_mul h2 (by omega)
        show decide (_ > sizeLine) = false
        simp only [decide_eq_false_iff_not]
        have e : (1000 * 1000 : Nat) < sizeLine := by decide
        omega
    · cases he
theorem nil_of_size {P : Params} {h : Heap} {vs : Array Value} {ds : List D} (r : RepAll P h H vs.toList ds) (hv : vs.isEmpty = true) : ds = [] := by
  have e := r.length
  cases ds with
  | nil => rfl
  | cons _ _ => simp at hv; subst hv; simp at e
theorem binT_snd {op : Operator} {x y : Value} {as : List D} {b d : D} (hx : Rep w.params s.heap H x (.tup as)) (hy : Rep w.params s.heap H y b) (hH : Ex s.heap H) (he : binT op as b = some d) :
    wpAny (model prog w) A (binaryOp op x y) (Post w s H d) E s := by
  cases op <;> simp only [binT] at he <;> first | (cases he; done) | skip
  cases hx with
  | @tup a1 v1 n1 _ ho1 hn1 hl1 hr1 =>
    cases hy <;> simp only at he <;> first | (cases he; done) | skip
    rename_i a2 v2 n2 _ ho2 hn2 hl2 hr2
    split at he
    · rename_i hc; cases he
      have e1 := hr1.length
      have e2 := hr2.length
      simp only [Array.length_toList] at e1 e2
      by_cases hv : v1.isEmpty = true
      · refine concat_meets ⟨_, ho1, rfl⟩ ⟨_, ho2, rfl⟩ noFill_tuple_add seq_tuple_add PySem.F.slot_tuple_add PySem.F.entry_tuple_add (PySem.F.args_tuple_add_2 _ _) (AutoSeq1.tuple___add___tuple_tuple_0 _ _ _ _ _ _ hv) ⟨ho1, ho2, Kp.refl _, ?_⟩
        rw [nil_of_size hr1 hv]
        exact .tup ho2 hn2 hl2 hr2
      · by_cases hv2 : v2.isEmpty = true
        · refine concat_meets ⟨_, ho1, rfl⟩ ⟨_, ho2, rfl⟩ noFill_tuple_add seq_tuple_add PySem.F.slot_tuple_add PySem.F.entry_tuple_add (PySem.F.args_tuple_add_2 _ _) (AutoSeq1.tuple___add___tuple_tuple_1 _ _ _ _ _ _ hv hv2) ⟨ho1, ho2, Kp.refl _, ?_⟩
          rw [nil_of_size hr2 hv2, List.append_nil]
          exact .tup ho1 hn1 hl1 hr1
        · refine P.add_tuple ho1 ho2 hv hv2 ⟨Kp.push _ _, ?_⟩ (by rw [e1, e2]; exact hc)
          refine rep_newTup hH (by simpa using hc) ?_
          simpa using hr1.append hr2
    · cases he
theorem binI_plain {op : Operator} {i j : Int} {d : D} (he : binI op i j = some d) : d.isList = false := by
  cases op <;> simp only [binI] at he <;> (try split at he) <;> cases he <;> rfl
theorem binS_plain {op : Operator} {x : Str} {b d : D} (he : binS op x b = some d) : d.isList = false := by
  cases op <;> simp only [binS] at he <;> first | (cases he; done) | (cases b <;> simp only at he <;> first | (cases he; done) | (split at he <;> cases he <;> rfl))
theorem binT_plain {op : Operator} {x : List D} {b d : D} (he : binT op x b = some d) : d.isList = false := by
  cases op <;> simp only [binT] at he <;> first | (cases he; done) | (cases b <;> simp only at he <;> first | (cases he; done) | (split at he <;> cases he <;> rfl))
theorem bin_snd {op : Operator} {x y : Value} {a b d : D} (hx : Rep w.params s.heap H x a) (hy : Rep w.params s.heap H y b) (hH : Ex s.heap H) (he : binD op a b = some d) :
    wpAny (model prog w) A (binaryOp op x y) (PostF w s H d d.isList) E s := by
  cases a <;> simp only [binD] at he <;> first | (cases he; done) | skip
  · cases hx
    cases hy <;> simp only at he <;> first | (cases he; done) | skip
    exact wpAny_mono (binI_snd he) (fun _ _ q => q.plain (binI_plain he)) fun _ _ e => e
  · cases hx
    exact wpAny_mono (binS_snd hy he) (fun _ _ q => q.plain (binS_plain he)) fun _ _ e => e
  · exact wpAny_mono (binT_snd hx hy hH he) (fun _ _ q => q.plain (binT_plain he)) fun _ _ e => e
end
end Mine
namespace Mine
open PySem PySem.SeqAt

section
variable {prog : Program} {w : World} {A : Around} {E : Value → Shared → Prop} {s : Shared} {H H' : Addr → Prop}

theorem eqS_snd {P : Params} {h : Heap} {x y : Value} {a b : D} {k : Bool} (hx : Rep P h H x a) (hy : Rep P h H' y b) (he : eqS a b = some k) :
    (∀ A s, EqAt A s x y k) ∧ (∀ A s, RcAt A s x y k) ∧ (∀ A s, RcNeAt A s x y (!k)) := by
  cases hx <;> simp only [eqS] at he <;> first | (cases he; done) | skip
  all_goals cases hy <;> simp only at he <;> first | (cases he; done) | skip
  · cases he; exact ⟨fun A s => EqAt.bool_bool _ _, fun A s => RcAt.bool_bool _ _, fun A s => RcNeAt.bool_bool _ _⟩
  · cases he; exact ⟨fun A s => EqAt.int_int _ _ _ _, fun A s => RcAt.int_int _ _ _ _, fun A s => RcNeAt.int_int _ _ _ _⟩
  · cases he; exact ⟨fun A s => EqAt.int_str _ _ _ _, fun A s => RcAt.int_str _ _ _ _, fun A s => RcNeAt.int_str _ _ _ _⟩
  · cases he; exact ⟨fun A s => EqAt.str_int _ _ _ _, fun A s => RcAt.str_int _ _ _ _, fun A s => RcNeAt.str_int _ _ _ _⟩
  · cases he; exact ⟨fun A s => EqAt.str_str _ _ _ _, fun A s => RcAt.str_str _ _ _ _, fun A s => RcNeAt.str_str _ _ _ _⟩

theorem isList_of {h : Heap} {a : Addr} {vs : Array Value} {n : Nat} (ho : h.get? a = some (lstO vs n)) : h.IsList a vs := ⟨_, ho, rfl, n, rfl⟩
theorem isTuple_of {h : Heap} {a : Addr} {vs : Array Value} {n : Nat} (ho : h.get? a = some (tupO vs n)) : h.IsTuple a vs := ⟨_, ho, rfl, n, rfl⟩
theorem isTup_of {h : Heap} {a : Addr} {vs : Array Value} {n : Nat} (ho : h.get? a = some (tupO vs n)) : PyProof.Rows.IsTup h a vs := ⟨_, ho, rfl, n, rfl⟩

theorem eqD_snd {x y : Value} {a b : D} {k : Bool} (hx : Rep w.params s.heap H x a) (hy : Rep w.params s.heap H' y b) (hu : A.units < cLine) (he : eqD a b = some k) :
    RcAt A s x y k ∧ RcNeAt A s x y (!k) := by
  have fin : eqS a b = some k → RcAt A s x y k ∧ RcNeAt A s x y (!k) := fun he => ⟨(eqS_snd hx hy he).2.1 _ _, (eqS_snd hx hy he).2.2 _ _⟩
  exact fin (by cases a <;> exact he)

theorem dict_at {P : Params} {h : Heap} {y : Value} {ks vs : List D} (hy : Rep P h H y (.dict ks vs)) (hk : ks.all D.isCell = true) : ∃ a es n, ∃ cs : List CK, y = .ref a ∧ h.get? a = some (dicO es n) ∧ ks = cs.map ofCK ∧ RepAll P h H (es.toList.map (·.key)) (cs.map ofCK) ∧ RepAll P h H (es.toList.map (·.val)) vs ∧
    es.toList.map (·.hash) = (cs.map ofCK).map (hashK P) ∧ (cs.map ofCK).Nodup ∧ (a == sysModules) = false ∧ cs.length = (es.toList.map (·.val)).length := by
  obtain ⟨cs, rfl⟩ := cells_ck hk
  cases hy with
  | dict h1 h2 h3 h4 h5 h6 h7 h8 h9 => exact ⟨_, _, _, cs, rfl, h1, rfl, h4, h5, h6, h8, h9, by have := h4.length; simpa using this.symm⟩
theorem notIn_of_in {M : Model} {x c : Value} {Q' Q : Value → Shared → Prop} (h : wpAny M A (compareOp .In x c) Q' E s) (hQ : ∀ b s', Q' (.bool b) s' → Q (.bool (!b)) s') : wpAny M A (compareOp .NotIn x c) Q E s := by
  intro Γ p hΓ
  have h0 := h Γ p hΓ
  change Sem.wp _ Γ (Sem.bind (contains c x) fun r => Sem.pure (Value.bool r)) _ _ p s at h0
  show Sem.wp _ Γ (Sem.bind (contains c x) fun r => Sem.pure (Value.bool (!r))) _ _ p s
  rw [Sem.wp_bind] at h0 ⊢
  refine Sem.wp_mono _ Γ _ (fun r p' s' q => ?_) (fun _ _ _ q => q) p s h0
  exact hQ r s' q
theorem in_dict {x y : Value} {k : D} {ks vs : List D} (hx : Rep w.params s.heap H x k) (hy : Rep w.params s.heap H y (.dict ks vs)) (hu : A.units + 1 < cLine) (hc : keyOk k ks = true) :
    wpAny (model prog w) A (compareOp .In x y) (Post w s H (.bool (ks.any fun x => keyEq x k))) E s := by
  unfold keyOk at hc
  rw [Bool.or_eq_true, Bool.and_eq_true] at hc
  rcases hc with hc | hc
  · obtain ⟨c, rfl⟩ := cell_ck hc.1
    obtain ⟨a, es, n, cs, rfl, h1, rfl, h4, h5, h6, h8, h9, hl⟩ := dict_at hy hc.2
    refine wpAny_in_of (knd := cellKind prog w) (rep_ck hx) h9 (dictOf_rep (prog := prog) h1 h4 h6 h8).mapOf ?_
    rw [any_valueAt hl]; exact ⟨Kp.tok _ _, .bool _⟩
  · cases hc
theorem cellEq_snd {P : Params} {h : Heap} {x y : Value} {a b : D} (hx : Rep P h H x a) (hy : Rep P h H' y b) (ha : a.isCell = true) (hb : b.isCell = true) : ∀ A s, EqAt A s x y (cellEq a b) := by
  have e : eqS a b = some (cellEq a b) := by cases a <;> first | (cases ha; done) | (cases b <;> first | rfl | (cases hb; done))
  exact (eqS_snd hx hy e).1
noncomputable def valCell : Value → D
  | .int i _ => .int i
  | .str x _ => .str x
  | _ => .none
theorem valCell_rep {P : Params} {h : Heap} {v : Value} {d : D} (r : Rep P h H v d) (hc : d.isCell = true) : valCell v = d := by
  cases r <;> first | rfl | cases hc
theorem eqv_any {P : Params} {h : Heap} {b : D} : ∀ {vs : List Value} {ds : List D}, RepAll P h H vs ds → ds.all D.isCell = true → vs.any (fun v => cellEq (valCell v) b) = ds.any fun x => cellEq x b
  | _, _, .nil, _ => rfl
  | _, _, .cons hv hr, hc => by
    simp only [List.all_cons, Bool.and_eq_true] at hc
    rw [List.any_cons, List.any_cons, eqv_any hr hc.2, valCell_rep hv hc.1]
theorem mem_eqv {P : Params} {h : Heap} {x : Value} {k : D} (hx : Rep P h H x k) (hk : k.isCell = true) {A : Around} {s : Shared} : ∀ {vs : List Value} {ds : List D}, RepAll P h H vs ds → ds.all D.isCell = true → ∀ v ∈ vs, EqAt A s v x (cellEq (valCell v) k)
  | _, _, .nil, _, _, hm => nomatch hm
  | _, _, .cons hv hr, hc, v, hm => by
    simp only [List.all_cons, Bool.and_eq_true] at hc
    rcases List.mem_cons.mp hm with rfl | hm
    · rw [valCell_rep hv hc.1]; exact cellEq_snd hv hx hc.1 hk A s
    · exact mem_eqv hx hk hr hc.2 v hm
theorem in_tup {x y : Value} {k : D} {ds : List D} (hx : Rep w.params s.heap H x k) (hy : Rep w.params s.heap H y (.tup ds)) (hc : (k.isCell && ds.all D.isCell) = true) :
    wpAny (model prog w) A (compareOp .In x y) (Post w s H (.bool (ds.any fun x => cellEq x k))) E s := by
  rw [Bool.and_eq_true] at hc
  cases hy with
  | tup ho hn hl hr =>
    refine in_tupleAt (fun v => cellEq (valCell v) k) (isTuple_of ho) (fun v hv => mem_eqv hx hc.1 hr hc.2 v (Array.mem_toList_iff.mpr hv)) ?_
    rw [← Array.any_toList, eqv_any hr hc.2]; exact ⟨Kp.refl _, .bool _⟩
theorem mem_snd {x y : Value} {a b : D} {k : Bool} (hx : Rep w.params s.heap H x a) (hy : Rep w.params s.heap H y b) (hu : A.units + 1 < cLine) (he : memD a b = some k) :
    wpAny (model prog w) A (compareOp .In x y) (Post w s H (.bool k)) E s := by
  cases b <;> simp only [memD] at he <;> first | (cases he; done) | skip
  · split at he
    · rename_i hc; cases he; exact in_tup hx hy hc
    · cases he
  · split at he
    · rename_i hc; cases he; exact in_dict hx hy hu hc
    · cases he
theorem ord_snd {op : CmpOp} {x y : Value} {a b d : D} (hx : Rep w.params s.heap H x a) (hy : Rep w.params s.heap H y b) (he : ordD op a b = some d) : wpAny (model prog w) A (compareOp op x y) (Post w s H d) E s := by
  cases hx <;> simp only [ordD] at he <;> first | (cases he; done) | skip
  all_goals cases hy <;> simp only at he <;> first | (cases he; done) | skip
  · cases op <;> simp only [cmpI] at he <;> cases he
    · exact PyProof.Rows.lt_int ⟨Kp.refl _, .bool _⟩
    · exact PyProof.Rows.le_int ⟨Kp.refl _, .bool _⟩
    · exact PyProof.Rows.gt_int ⟨Kp.refl _, .bool _⟩
    · exact PyProof.Rows.ge_int ⟨Kp.refl _, .bool _⟩
  · cases op <;> simp only at he <;> cases he
    exact PyProof.Rows.lt_str ⟨Kp.refl _, .bool _⟩
theorem cmp_snd {op : CmpOp} {x y : Value} {a b d : D} (hx : Rep w.params s.heap H x a) (hy : Rep w.params s.heap H y b) (hu : A.units + 1 < cLine) (he : cmpD op a b = some d) :
    wpAny (model prog w) A (compareOp op x y) (Post w s H d) E s := by
  have hu0 := Nat.lt_of_succ_lt hu
  cases op <;> simp only [cmpD] at he <;> first | exact ord_snd hx hy he | skip
  all_goals
    rw [Option.map_eq_some_iff] at he
    obtain ⟨k, hk, rfl⟩ := he
  · exact (eqD_snd hx hy hu0 hk).1 prog w E _ ⟨Kp.refl _, .bool _⟩
  · exact (eqD_snd hx hy hu0 hk).2 prog w E _ ⟨Kp.refl _, .bool _⟩
  · exact mem_snd hx hy hu hk
  · exact notIn_of_in (mem_snd hx hy hu hk) fun b s' q => ⟨q.1, by cases q.2; exact .bool _⟩

theorem lt63 {n : Nat} (h : n ≤ big) : (n : Int) < 2 ^ 63 := by unfold big at h; omega

theorem truth_snd {x : Value} {a : D} {t : Bool} (hx : Rep w.params s.heap H x a) (he : truth a = some t) :
    wpAny (model prog w) A (truthy x) (fun b s' => Keeps s s' ∧ b = t) E s := by
  cases hx <;> simp only [truth] at he <;> cases he
  · exact PyProof.Rows.truthy_none ⟨Kp.refl _, rfl⟩
  · exact wpAny_truthy_bool ⟨Kp.refl _, rfl⟩
  · exact PyProof.Rows.truthy_int ⟨Kp.refl _, rfl⟩
  · rename_i vs n ds ho _ hl hr
    have e := hr.length
    simp only [Array.length_toList] at e
    refine PyProof.Rows.truthy_tuple (isTup_of ho) (by rw [e]; exact lt63 hl) ⟨Kp.tok _ _, ?_⟩
    congr 1
    rw [Bool.eq_iff_iff]
    simp only [Array.isEmpty_iff, List.isEmpty_iff, ← Array.size_eq_zero_iff, ← List.length_eq_zero_iff, e]
  · rename_i vs n ds ho _ hl hr
    have e := hr.length
    simp only [Array.length_toList] at e
    refine wpAny_truthy_list (isList_of ho) (by rw [e]; exact lt63 hl) ⟨Kp.tok _ _, ?_⟩
    congr 1
    rw [Bool.eq_iff_iff]
    simp only [Array.isEmpty_iff, List.isEmpty_iff, ← Array.size_eq_zero_iff, ← List.length_eq_zero_iff, e]

theorem idx_seq {k : Int} {n j : Nat} (h : idx k n = some j) : seqIndex? k n = some j ∧ j < n ∧ -(n : Int) ≤ k ∧ k < n := by
  unfold idx at h
  unfold seqIndex?
  split at h
  · rename_i hc; cases h
    have e : ¬ k < 0 := by omega
    simp only [e, if_false]
    simp [hc]; omega
  · split at h
    · rename_i hc; cases h
      simp only [hc.2, if_true]
      have h1 : 0 ≤ k + n := by omega
      have h2 : k + n < n := by omega
      simp [h1, h2]; omega
    · cases h

theorem getItem_snd {x i : Value} {a b d : D} (hu : A.units + 1 < cLine) (hx : Rep w.params s.heap H x a) (hi : Rep w.params s.heap H i b) (he : subD a b = some d) :
    wpAny (model prog w) A (getItem x i) (Post w s H d) E s ∧ ∃ T id, s.TypeIs x T ∧ typeLookup (.type T) "__getitem__" = pure (some (.builtin id)) := by
  cases a <;> simp only [subD] at he <;> first | (cases he; done) | skip
  · rename_i x
    cases hx
    cases hi <;> simp only at he <;> first | (cases he; done) | skip
    rename_i k _
    split at he
    · rename_i hc; cases he
      refine ⟨PyProof.Rows.getItem_str (c := x.cps.getD k.toNat 0) ?_ ?_ ⟨Kp.tok _ _, .str _ _⟩, "str", _, typeIs_str _ _ _, F.slot_str_getitem.lookup⟩
      · simp; unfold big at hc; omega
      · have h1 : idx k x.length = some k.toNat := by unfold idx; simp [hc.1, hc.2.1]
        rw [(idx_seq h1).1]
        have h2 : k.toNat < x.cps.size := by have := hc.2.1; unfold Str.length at this; omega
        simp [Array.getD, h2]
    · cases he
  · cases hx with
    | tup ho hn hl hr =>
      cases hi <;> simp only at he <;> first | (cases he; done) | skip
      rename_i k _
      rw [Option.bind_eq_some_iff] at he
      obtain ⟨j, hj, he⟩ := he
      obtain ⟨v, hv, hvr⟩ := hr.get j he
      obtain ⟨h1, h2, h3, h4⟩ := idx_seq hj
      have e := hr.length
      simp only [Array.length_toList] at e
      have hb := lt63 hl
      exact ⟨PyProof.Rows.getItem_tuple (isTup_of ho) (by omega) (by omega) (by rw [e]; exact h1) (by simpa using hv) ⟨Kp.refl _, hvr⟩, "tuple", _, (isTup_of ho).typeIs, F.slot_tuple_getitem.lookup⟩
  · cases hx with
    | list ho hn hl hr =>
      cases hi <;> simp only at he <;> first | (cases he; done) | skip
      rename_i k _
      rw [Option.bind_eq_some_iff] at he
      obtain ⟨j, hj, he⟩ := he
      obtain ⟨v, hv, hvr⟩ := hr.get j he
      have e := hr.length
      simp only [Array.length_toList] at e
      have hb := lt63 hl
      refine ⟨?_, "list", _, (isList_of ho).typeIs, F.slot_list_getitem.lookup⟩
      unfold idx at hj
      split at hj
      · cases hj
        exact wpAny_getItem_list (isList_of ho) (by omega) (by omega) (by simpa using hv) ⟨Kp.refl _, hvr⟩
      · split at hj
        · cases hj
          exact wpAny_getItem_list_neg (isList_of ho) (by omega) (by rw [e]; omega) (by omega) (by rw [e]; simpa using hv) ⟨Kp.refl _, hvr⟩
        · cases hj
  · split at he
    · rename_i hc
      unfold keyOk at hc
      rw [Bool.or_eq_true, Bool.and_eq_true] at hc
      rcases hc with hc | hc
      · obtain ⟨c, rfl⟩ := cell_ck hc.1
        obtain ⟨a, es, n, cs, rfl, h1, rfl, h4, h5, h6, h8, h9, hl⟩ := dict_at hx hc.2
        obtain ⟨v, hv, rv⟩ := dget_valueAt h5 he
        have hm := (dictOf_rep (prog := prog) h1 h4 h6 h8).mapOf
        exact ⟨wpAny_getItem_of (knd := cellKind prog w) (rep_ck hi) hm hv ⟨Kp.tok _ _, rv⟩, "dict", _, hm.typeIs, slot_dict_getitem.lookup⟩
      · cases hc
    · cases he
end
end Mine
namespace Mine
open PySem PySem.SeqAt

section
variable {prog : Program} {w : World} {A : Around} {E : Value → Shared → Prop} {s : Shared} {H H' : Addr → Prop}

theorem isi_snd {x : Value} {a : D} {T : String} {t : Bool} (hx : Rep w.params s.heap H x a) (he : isiD a T = some t) :
    wpAny (model prog w) A (call (.builtin "isinstance") [x, .type T]) (Post w s H (.bool t)) E s := by
  unfold isiD at he
  split at he
  · rename_i hT
    cases hx with
    | bool b =>
      rcases hT with rfl | rfl | rfl | rfl | rfl
      · cases he; exact IsiPair.bool_str ⟨Kp.tok _ _, .bool _⟩
      · cases he; exact IsiPair.bool_bool ⟨Kp.refl _, .bool _⟩
      · cases he; exact IsiPair.bool_int ⟨Kp.refl _, .bool _⟩
      · cases he; exact IsiPair.bool_tuple ⟨Kp.tok _ _, .bool _⟩
      · cases he; exact IsiPair.bool_list ⟨Kp.tok _ _, .bool _⟩
    | int i t =>
      rcases hT with rfl | rfl | rfl | rfl | rfl
      · cases he; exact IsiPair.int_str ⟨Kp.tok _ _, .bool _⟩
      · cases he; exact IsiPair.int_bool ⟨Kp.tok _ _, .bool _⟩
      · cases he; exact IsiPair.int_int ⟨Kp.refl _, .bool _⟩
      · cases he; exact IsiPair.int_tuple ⟨Kp.tok _ _, .bool _⟩
      · cases he; exact IsiPair.int_list ⟨Kp.tok _ _, .bool _⟩
    | str x t =>
      rcases hT with rfl | rfl | rfl | rfl | rfl
      · cases he; exact IsiPair.str_str ⟨Kp.refl _, .bool _⟩
      · cases he; exact IsiPair.str_bool ⟨Kp.tok _ _, .bool _⟩
      · cases he; exact IsiPair.str_int ⟨Kp.tok _ _, .bool _⟩
      · cases he; exact IsiPair.str_tuple ⟨Kp.tok _ _, .bool _⟩
      · cases he; exact IsiPair.str_list ⟨Kp.tok _ _, .bool _⟩
    | tup ho =>
      rcases hT with rfl | rfl | rfl | rfl | rfl
      · cases he; exact IsiPair.tuple_str ho rfl ⟨Kp.tok _ _, .bool _⟩
      · cases he; exact IsiPair.tuple_bool ho rfl ⟨Kp.tok _ _, .bool _⟩
      · cases he; exact IsiPair.tuple_int ho rfl ⟨Kp.tok _ _, .bool _⟩
      · cases he; exact IsiPair.tuple_tuple ho rfl ⟨Kp.refl _, .bool _⟩
      · cases he; exact IsiPair.tuple_list ho rfl ⟨Kp.tok _ _, .bool _⟩
    | list ho =>
      rcases hT with rfl | rfl | rfl | rfl | rfl
      · cases he; exact IsiPair.list_str ho rfl ⟨Kp.tok _ _, .bool _⟩
      · cases he; exact IsiPair.list_bool ho rfl ⟨Kp.tok _ _, .bool _⟩
      · cases he; exact IsiPair.list_int ho rfl ⟨Kp.tok _ _, .bool _⟩
      · cases he; exact IsiPair.list_tuple ho rfl ⟨Kp.tok _ _, .bool _⟩
      · cases he; exact IsiPair.list_list ho rfl ⟨Kp.refl _, .bool _⟩
    | _ => cases he
  · cases he

/-- the built-in that a name means -/
noncomputable def bltVal : String → Value
  | "len" => .builtin "len"
  | "isinstance" => .builtin "isinstance"
  | "sum" => .builtin "sum"
  | "max" => .builtin "max"
  | "min" => .builtin "min"
  | "sorted" => .builtin "sorted"
  | T => .type T

theorem natAbs_log2 {i : Int} (h : -strLim < i ∧ i < strLim) : i.natAbs.log2 < 1920 := by
  unfold strLim at h
  have h2 : i.natAbs < 10 ^ 100 := by
    have e : ((10 ^ 100 : Nat) : Int) = (10 : Int) ^ 100 := by exact Int.natCast_pow 10 100
    generalize (10 : Int) ^ 100 = p at h e
    omega
  by_cases h3 : i.natAbs = 0
  · rw [h3]; decide
  · refine (Nat.log2_lt h3).mpr (Nat.lt_trans h2 (by decide +kernel))

theorem len_snd {x : Value} {a d : D} (hx : Rep w.params s.heap H x a) (he : lenD a = some d) : wpAny (model prog w) A (call (.builtin "len") [x]) (Post w s H d) E s := by
  cases hx <;> simp only [lenD] at he <;> first | (cases he; done) | skip
  · split at he
    · rename_i hc; cases he
      exact PyProof.Rows.len_str (by have := lt63 hc; omega) ⟨Kp.tok _ _, .int _ _⟩
    · cases he
  · rename_i ho _ hl hr
    cases he
    have e := hr.length
    simp only [Array.length_toList] at e
    refine PyProof.Rows.len_tuple (isTup_of ho) (by rw [e]; exact lt63 hl) ?_
    rw [e]; exact ⟨Kp.tok _ _, .int _ _⟩
  · rename_i ho _ hl hr
    cases he
    have e := hr.length
    simp only [Array.length_toList] at e
    refine PyProof.Rows.len_list (isList_of ho) (by rw [e]; exact lt63 hl) ?_
    rw [e]; exact ⟨Kp.tok _ _, .int _ _⟩
theorem bltI_snd {f : String} {i : Int} {t : Tok} {d : D} (hH : Ex s.heap H) (he : bltI f i = some d) : wpAny (model prog w) A (call (bltVal f) [.int i t]) (Post w s H d) E s := by
  unfold bltI rngD at he
  split at he
  · rename_i hf; subst hf
    split at he
    · rename_i hc; cases he
      refine call_range_1 ⟨⟨_, _, _, rfl, fun _ _ e => Heap.gt_push_of_some _ e⟩, ?_⟩
      exact .rng (IsRange.new _ _ _ _ _ _ _) hH.fresh (by unfold big at *; omega)
    · cases he
  · split at he
    · rename_i hf; subst hf
      split at he
      · rename_i hc; cases he
        exact P.str_of_int (natAbs_log2 hc) ⟨Kp.tok _ _, .str _ _⟩
      · cases he
    · cases he
theorem blt1_snd {f : String} {x : Value} {a d : D} (hh : A.handled = none) (hx : Rep w.params s.heap H x a) (hH : Ex s.heap H) (he : bltD f [a] = some d) : wpAny (model prog w) A (call (bltVal f) [x]) (Post w s H d) E s := by
  simp only [bltD] at he
  split at he
  · rename_i hf; subst hf; exact len_snd hx he
  · cases hx <;> simp only at he <;> first | (cases he; done) | exact bltI_snd hH he | skip
    · split at he
      · rename_i hf; subst hf; cases he
        exact call_int_bool ⟨Kp.tok _ _, .int _ _⟩
      · cases he
    · split at he
      · rename_i hf; subst hf; cases he
        exact P.str_of_str ⟨Kp.refl _, .str _ _⟩
      · cases he
    · rename_i ho hn hl hr
      split at he
      · rename_i hf; subst hf; cases he
        have e := hr.length
        simp only [Array.length_toList] at e
        refine call_tuple_list (isList_of ho) (fun h' hk => ⟨⟨_, _, _, rfl, fun _ _ q => Heap.gt_push_of_some _ (Heap.gt_up hk _ _ q)⟩, ?_⟩) (by rw [e]; exact hl)
        exact .tup (Heap.get?_push_size _ rfl) (hH.keeps (Heap.gt_up hk)).fresh hl (hr.keeps fun _ _ q => Heap.gt_push_of_some _ (Heap.gt_up hk _ _ q))
      · cases he
theorem blt_snd {f : String} {xs : List Value} {as : List D} {d : D} (hh : A.handled = none) (hx : RepAll w.params s.heap H xs as) (hH : Ex s.heap H) (he : bltD f as = some d) :
    wpAny (model prog w) A (call (bltVal f) xs) (Post w s H d) E s := by
  cases hx with
  | nil => cases he
  | cons h1 h2 => cases h2 with
    | nil => exact blt1_snd hh h1 hH he
    | cons h2 h3 => cases h3 with
      | nil =>
        simp only [bltD] at he
        cases h1 <;> simp only at he <;> first | (cases he; done) | skip
        cases h2 <;> simp only at he <;> first | (cases he; done) | skip
      | cons => cases he
theorem reps_keys {P : Params} {h : Heap} : ∀ {vs : List Value} {cs : List CK}, vs.length = cs.length → (∀ (j : Nat) (v : Value), vs[j]? = some v → ∃ k, cs[j]? = some k ∧ CK.is k v = true) → RepAll P h H vs (cs.map ofCK)
  | [], [], _, _ => .nil
  | v :: vs, c :: cs, hl, hv => by
    obtain ⟨k, e1, e2⟩ := hv 0 v rfl
    cases e1
    exact .cons (ck_rep e2) (reps_keys (by simpa using hl) fun j v' e => hv (j + 1) v' e)
theorem lst_snd {x : Value} {a : D} {ds : List D} (hh : A.handled = none) (hx : Rep w.params s.heap H x a) (hH : Ex s.heap H) (he : lstD a = some ds) :
    wpAny (model prog w) A (call (.type "list") [x]) (PostF w s H (.list ds) true) E s := by
  cases a <;> simp only [lstD] at he <;> first | (cases he; done) | skip
  · cases hx with
    | tup ho hn hl hr =>
      cases he
      have e := hr.length
      simp only [Array.length_toList] at e
      exact call_list_seq _ (.inr rfl) ho rfl rfl (fun h' c' hk hD => post_newList hH hl hr (Heap.gt_up hk) hD) (by rw [e]; exact hl)
  · cases hx with
    | list ho hn hl hr =>
      cases he
      have e := hr.length
      simp only [Array.length_toList] at e
      exact call_list_seq _ (.inl rfl) ho rfl rfl (fun h' c' hk hD => post_newList hH hl hr (Heap.gt_up hk) hD) (by rw [e]; exact hl)
  · split at he
    · rename_i vs hc
      cases he
      have hlk : ds.length ≤ big := by cases hx; assumption
      obtain ⟨a, es, n, cs, rfl, h1, rfl, h4, h5, h6, h8, h9, hl⟩ := dict_at hx hc
      obtain ⟨ep, hm⟩ := (dictOf_rep (prog := prog) h1 h4 h6 h8).dictAt
      have el : (cs.zip (es.toList.map (·.val))).length = cs.length := by rw [List.length_zip, ← hl, Nat.min_self]
      refine PySem.W.kdl_call (PySem.W.kdl_dict h9) hh hm (by rw [el]; exact Nat.le_trans (by simpa using hlk) (by decide)) fun h' tk acc' c' hk hD hacc => ?_
      refine post_newList hH hlk (reps_keys (by rw [Array.length_toList, hacc.1, el]) fun j v e => ?_) (Heap.gt_up hk) hD
      obtain ⟨k, x, q1, q2⟩ := hacc.2 j v (by rw [← Array.getElem?_toList]; exact e)
      exact ⟨k, (List.getElem?_zip_eq_some.mp q1).1, q2⟩
    · cases he
end
end Mine
namespace Mine
open PySem PySem.SeqAt

section
variable {prog : Program} {w : World} {A : Around} {E : Value → Shared → Prop} {s : Shared} {H H' : Addr → Prop}

structure IterAt (prog : Program) (w : World) (A : Around) (s₁ : Shared) (H : Addr → Prop) (its : List D) (I : Addr) (s₂ : Shared) : Prop where
  keeps : Keeps s₁ s₂
  fresh : gat s₁.heap I = none
  ex : ∃ o, gat s₂.heap I = some o
  walk : ∃ fp P St, Walks prog w A I fp [I] its.length P St ∧ St 0 s₂.heap ∧ (∀ b ∈ fp, b = I ∨ (¬ H b ∧ ∃ o, gat s₁.heap b = some o)) ∧ (∀ i v, i < its.length → P i v → ∃ d, its[i]? = some d ∧ Rep w.params s₁.heap H v d) ∧ (∀ i h, St i h → ∃ o, gat h I = some o) ∧ ∀ b ∈ fp, ∀ i h o, St i h → h.get? b = some o → isTab o = false

theorem walks_frame {I : Addr} {fp ch : List Addr} {n : Nat} {P : Nat → Value → Prop} {St : Nat → Heap → Prop} (W : Walks prog w A I fp ch n P St) (hT : ∀ b ∈ fp, ∀ i h o, St i h → h.get? b = some o → isTab o = false)
    (i : Nat) (h h' : Heap) (st : St i h) (hk : ∀ b ∈ fp, ∀ o, gat h b = some o → gat h' b = some o) : St i h' :=
  W.frame i h h' st fun b hb o e => Heap.of_gt (hk b hb o (Heap.gt_of e (hT b hb i h o st e))) (hT b hb i h o st e)
theorem walk_lift {I : Addr} {fp : List Addr} {n : Nat} {P : Nat → Value → Prop} {St : Nat → Heap → Prop} (W : Walks prog w A I fp [I] n P St) (hT : ∀ b ∈ fp, ∀ i h o, St i h → h.get? b = some o → isTab o = false)
    {i : Nat} {h h' : Heap} (st : St i h) (hk : ∀ b o, b ∉ [I] → h.get? b = some o → h'.get? b = some o) : ∀ b o, b ∉ [I] → gat h b = some o → gat h' b = some o :=
  Heap.gt_lift (fun b o e ht q => by rw [hT b (W.sub b q) i h o st e] at ht; cases ht) hk
theorem fresh_size (h : Heap) : gat h h.objs.size = none := Heap.gt_none_of_le (Nat.le_refl _)

theorem iter_snd {x : Value} {d : D} {its : List D} (hx : Rep w.params s.heap H x d) (hh : A.handled = none) (he : d.items = some its) :
    wpAny (model prog w) A (pyIter x) (fun v s₂ => ∃ I, v = .ref I ∧ IterAt prog w A s H its I s₂) E s := by
  cases hx <;> simp only [D.items] at he <;> cases he
  · rename_i a vs n ho hn hl hr
    have e := hr.length
    simp only [Array.length_toList] at e
    have hne : a ≠ s.heap.objs.size := Nat.ne_of_lt (Heap.lt_size ho)
    refine wpAny_pyIter_tuple (isTuple_of ho) ⟨_, rfl, Kp.push _ _, fresh_size _, ⟨_, Heap.gt_push_size _ rfl⟩, ?_⟩
    refine ⟨_, _, _, e ▸ Walks.tuple hh s.heap.objs.size a hne vs, ?_, ?_, ?_, ?_, ?_⟩
    · exact ⟨⟨_, Heap.get?_push_size _ rfl, rfl, rfl⟩, (isTuple_of ho).push _⟩
    · intro b hb
      simp only [List.mem_cons, List.not_mem_nil, or_false] at hb
      rcases hb with rfl | rfl
      · exact .inl rfl
      · exact .inr ⟨hn, _, Heap.gt_of ho⟩
    · intro i v hi hv
      obtain ⟨v', h1, h2⟩ := hr.get i (List.getElem?_eq_getElem hi)
      have : v' = v := by
        have h3 : vs.toList[i]? = vs[i]? := by simp
        rw [h3, hv] at h1; cases h1; rfl
      exact ⟨_, List.getElem?_eq_getElem hi, this ▸ h2⟩
    · rintro i h ⟨⟨o, e, c1, _⟩, _⟩; exact ⟨_, Heap.gt_of e (notTab_cls (by rw [c1]; nofun) (by rw [c1]; simp))⟩
    · rintro b hb i h o ⟨⟨o1, e1, c1, _⟩, ⟨o2, e2, c2, _⟩⟩ e
      simp only [List.mem_cons, List.not_mem_nil, or_false] at hb
      rcases hb with rfl | rfl
      · rw [e1] at e; cases e; exact notTab_cls (by rw [c1]; nofun) (by rw [c1]; simp)
      · rw [e2] at e; cases e; exact notTab_cls (by rw [c2]; nofun) (by rw [c2]; simp)
  · rename_i a vs n ho hn hl hr
    have e := hr.length
    simp only [Array.length_toList] at e
    have hne : a ≠ s.heap.objs.size := Nat.ne_of_lt (Heap.lt_size ho)
    refine wpAny_pyIter_list (isList_of ho) ⟨_, rfl, Kp.push _ _, fresh_size _, ⟨_, Heap.gt_push_size _ rfl⟩, ?_⟩
    refine ⟨_, _, _, e ▸ Walks.list hh s.heap.objs.size a hne vs, ?_, ?_, ?_, ?_, ?_⟩
    · exact ⟨⟨_, Heap.get?_push_size _ rfl, rfl, rfl⟩, (isList_of ho).push _⟩
    · intro b hb
      simp only [List.mem_cons, List.not_mem_nil, or_false] at hb
      rcases hb with rfl | rfl
      · exact .inl rfl
      · exact .inr ⟨hn, _, Heap.gt_of ho⟩
    · intro i v hi hv
      obtain ⟨v', h1, h2⟩ := hr.get i (List.getElem?_eq_getElem hi)
      have : v' = v := by
        have h3 : vs.toList[i]? = vs[i]? := by simp
        rw [h3, hv] at h1; cases h1; rfl
      exact ⟨_, List.getElem?_eq_getElem hi, this ▸ h2⟩
    · rintro i h ⟨⟨o, e, c1, _⟩, _⟩; exact ⟨_, Heap.gt_of e (notTab_cls (by rw [c1]; nofun) (by rw [c1]; simp))⟩
    · rintro b hb i h o ⟨⟨o1, e1, c1, _⟩, ⟨o2, e2, c2, _⟩⟩ e
      simp only [List.mem_cons, List.not_mem_nil, or_false] at hb
      rcases hb with rfl | rfl
      · rw [e1] at e; cases e; exact notTab_cls (by rw [c1]; nofun) (by rw [c1]; simp)
      · rw [e2] at e; cases e; exact notTab_cls (by rw [c2]; nofun) (by rw [c2]; simp)
  · rename_i lo hi t u v hr hn hl
    have hsm : Builtin.Range.small lo hi 1 = true := by
      unfold big at hl; exact small_one (by omega) (by omega) (by omega) (by omega)
    have hsz : Builtin.Range.rangeSize lo hi 1 = ((hi - lo).toNat : Int) := by
      rw [rangeSize_one]; split <;> omega
    refine wpAny_pyIter_range hr hsm ⟨_, rfl, Kp.push _ _, fresh_size _, ⟨_, Heap.gt_push_size _ rfl⟩, ?_⟩
    have hlen : ((List.range (hi - lo).toNat).map fun (i : Nat) => D.int (lo + (i : Int))).length = (hi - lo).toNat := by simp
    refine ⟨_, _, _, hlen ▸ Walks.range hh s.heap.objs.size lo 1 (hi - lo).toNat, ?_, ?_, ?_, ?_, ?_⟩
    · show Heap.get? _ _ = _
      rw [Heap.get?_push_size _ rfl, hsz]
      simp [rawInt]
    · intro b hb
      simp only [List.mem_cons, List.not_mem_nil, or_false] at hb
      exact .inl hb
    · rintro i v hi ⟨t, rfl⟩
      rw [hlen] at hi
      refine ⟨.int (lo + i), by simp [hi], ?_⟩
      rw [Int.mul_one]
      exact .int _ _
    · intro i h e; exact ⟨_, Heap.gt_of e⟩
    · intro b hb i h o e1 e
      simp only [List.mem_cons, List.not_mem_nil, or_false] at hb
      subst hb
      have e2 := e1.symm.trans e
      cases e2; rfl
end
end Mine
namespace Mine
open PySem PySem.SeqAt

structure AOk (A : Around) (n : Nat) : Prop where
  handled : A.handled = none
  depth : A.depth + 2 * n + 20 < recursionLimit
  units : A.units + 13 * n + 100 < cLine
/-- a little deeper than A: where a key function's own calls run -/
structure Near (A A' : Around) : Prop where
  handled : A'.handled = A.handled
  depth : A'.depth ≤ A.depth + 1
  units : A'.units ≤ A.units + 10
/-- room for the calls that an expression makes -/
structure Room (A : Around) : Prop where
  units : A.units + 20 < cLine
  depth : A.depth + 2 < recursionLimit
theorem Room.u1 {A : Around} (r : Room A) : A.units + 1 < cLine := Nat.lt_of_le_of_lt (Nat.add_le_add_left (by decide) _) r.units
theorem Near.refl (A : Around) : Near A A := ⟨rfl, Nat.le_succ _, Nat.le_add_right _ _⟩

structure EnvRep (h : Heap) (env : Env) (m : Str → Option Value) : Prop where
  kind : env.scope.kind = .function
  glob : env.globals = mainGlobals
  blt : env.builtins = builtinsNs
  loc : ∃ ml, h.Ns env.locals ml ∧ ∀ x, env.kindOf x = some .local → ml x = m x
  cell : ∀ x, env.kindOf x = some .cell ∨ env.kindOf x = some .free → ∃ c, env.cells.lookup x = some c ∧ h.IsCell c (m x)
  inj : ∀ x y c, env.cells.lookup x = some c → env.cells.lookup y = some c → x = y
  off : ∀ x c, env.cells.lookup x = some c → c ≠ env.locals
  ex : ∀ x c, env.cells.lookup x = some c → ∃ o, gat h c = some o
  lam : ordK env.kindOf = true → env.code = .ref oc ∧ env.qual = lamP

theorem Ns.keepAt {h h' : Heap} {a : Addr} {m : Str → Option Value} (hn : h.Ns a m) (hk : ∀ o, gat h a = some o → gat h' a = some o) : h'.Ns a m :=
  let ⟨o, es, ep, ho, hd, r⟩ := hn
  have ht : isTab o = false := notTab_of (by rw [hd]; nofun)
  ⟨o, es, ep, Heap.of_gt (hk _ (Heap.gt_of ho ht)) ht, hd, r⟩
theorem Cell.keepAt {h h' : Heap} {a : Addr} {v : Option Value} (hn : h.IsCell a v) (hk : ∀ o, gat h a = some o → gat h' a = some o) : h'.IsCell a v :=
  let ⟨o, ho, hd⟩ := hn
  have ht : isTab o = false := notTab_of (by rw [hd]; nofun)
  ⟨o, Heap.of_gt (hk _ (Heap.gt_of ho ht)) ht, hd⟩

theorem EnvRep.keeps {h h' : Heap} {env : Env} {m : Str → Option Value} (R : EnvRep h env m) (hk : KH h h') : EnvRep h' env m where
  kind := R.kind
  glob := R.glob
  blt := R.blt
  loc := let ⟨ml, h1, h2⟩ := R.loc; ⟨ml, Ns.keepAt h1 (hk _), h2⟩
  cell := fun x hx => let ⟨c, h1, h2⟩ := R.cell x hx; ⟨c, h1, Cell.keepAt h2 (hk _)⟩
  inj := R.inj
  off := R.off
  ex := fun x c hc => let ⟨o, ho⟩ := R.ex x c hc; ⟨o, hk _ _ ho⟩
  lam := R.lam

/-- the frame's own places stay -/
theorem EnvRep.keepsAt {h h' : Heap} {env : Env} {m : Str → Option Value} (R : EnvRep h env m) (hk : ∀ a o, (a = env.locals ∨ ∃ x, env.cells.lookup x = some a) → gat h a = some o → gat h' a = some o) : EnvRep h' env m where
  kind := R.kind
  glob := R.glob
  blt := R.blt
  loc := let ⟨ml, h1, h2⟩ := R.loc; ⟨ml, Ns.keepAt h1 fun o e => hk _ o (.inl rfl) e, h2⟩
  cell := fun x hx => let ⟨c, h1, h2⟩ := R.cell x hx; ⟨c, h1, Cell.keepAt h2 fun o e => hk _ o (.inr ⟨x, h1⟩) e⟩
  inj := R.inj
  off := R.off
  ex := fun x c hc => let ⟨o, ho⟩ := R.ex x c hc; ⟨o, hk _ _ (.inr ⟨x, hc⟩) ho⟩
  lam := R.lam

section
variable {M : Model} {A : Around} {E : Value → Shared → Prop} {s : Shared}

theorem load_snd {env : Env} {m : Str → Option Value} {x : Str} {v : Value} {pos : Pos} {Q : Value → Shared → Prop} (R : EnvRep s.heap env m) (hx : isVar env.kindOf x = true) (hv : m x = some v) (h : Q v s) :
    wpAny M A (eval (.Name x pos) env) Q E s := by
  unfold isVar at hx
  simp only [Bool.and_eq_true, Bool.or_eq_true, beq_iff_eq, bne_iff_ne] at hx
  obtain ⟨⟨⟨hk, hd⟩, hc⟩, _⟩ := hx
  have hd' : (x == ("__debug__" : Str)) = false := by simpa using hd
  have hc' : (x == ("__classdict__" : Str)) = false := by simpa using hc
  refine wpAny_Name ?_ hd'
  rcases hk with (hk | hk) | hk
  · obtain ⟨ml, h1, h2⟩ := R.loc
    exact wpAny_loadName_local R.kind hk h1 ((h2 x hk).trans hv) h
  · obtain ⟨c, h1, h2⟩ := R.cell x (.inl hk)
    exact wpAny_loadName_cell R.kind hk h1 (hv ▸ h2) h
  · obtain ⟨c, h1, h2⟩ := R.cell x (.inr hk)
    exact wpAny_loadName_free R.kind hk h1 (hv ▸ h2) h hc'

noncomputable def upd (m : Str → Option Value) (x : Str) (v : Value) : Str → Option Value := fun y => if y = x then some v else m y

theorem store_snd {env : Env} {m : Str → Option Value} {x : Str} {v : Value} {Q : Unit → Shared → Prop} (R : EnvRep s.heap env m) (hx : env.kindOf x = some .local ∨ env.kindOf x = some .cell)
    (h : ∀ h' tk dw a, EnvRep h' env (upd m x v) → (a = env.locals ∨ env.cells.lookup x = some a) → Heap.SB a s.heap h' → Q () { s with heap := h', toks := tk, drawn := dw }) :
    wpAny M A (storeName env x v) Q E s := by
  rcases hx with hk | hk
  · obtain ⟨ml, h1, h2⟩ := R.loc
    refine wpAny_storeName_local hk h1 (fun h' hn hs0 => have hs : Heap.SB env.locals s.heap h' := ⟨hs0, notTab_ns h1, notTab_ns hn⟩; h h' _ s.drawn env.locals ⟨R.kind, R.glob, R.blt, ⟨_, hn, fun y hy => ?_⟩, fun y hy => ?_, R.inj, R.off, fun y c hc => let ⟨o, ho⟩ := R.ex y c hc; ⟨o, (hs.g c (R.off y c hc)).trans ho⟩, R.lam⟩ (.inl rfl) hs) (by rw [R.kind]; rfl)
    · unfold upd; by_cases e : y = x
      · simp [e]
      · simp [e, h2 y hy]
    · obtain ⟨c, h3, h4⟩ := R.cell y hy
      have hne : y ≠ x := by rintro rfl; rw [hk] at hy; simp at hy
      refine ⟨c, h3, ?_⟩
      unfold upd; rw [if_neg hne]
      exact h4.sameBut hs.s (R.off y c h3)
  · obtain ⟨c, h3, h4⟩ := R.cell x (.inl hk)
    refine wpAny_storeName_cell R.kind hk h3 h4 fun h' hc hs0 => have hs : Heap.SB c s.heap h' := ⟨hs0, notTab_cell h4, notTab_cell hc⟩; h h' s.toks s.drawn c ⟨R.kind, R.glob, R.blt, ?_, fun y hy => ?_, R.inj, R.off, fun y c' hc' => ?_, R.lam⟩ (.inr h3) hs
    · obtain ⟨ml, h1, h2⟩ := R.loc
      refine ⟨ml, h1.sameBut hs.s (fun e => R.off x c h3 e.symm), fun y hy => ?_⟩
      have hne : y ≠ x := by rintro rfl; rw [hk] at hy; simp at hy
      unfold upd; rw [if_neg hne]; exact h2 y hy
    · obtain ⟨c', h5, h6⟩ := R.cell y hy
      by_cases e : y = x
      · subst e
        rw [h3] at h5; cases h5
        exact ⟨c, h3, by simpa [upd] using hc⟩
      · refine ⟨c', h5, ?_⟩
        unfold upd; rw [if_neg e]
        exact h6.sameBut hs.s fun q => e (R.inj y x c' h5 (q ▸ h3))
    · by_cases e : c' = c
      · obtain ⟨o, ho⟩ := gt_cell hc; exact ⟨_, e ▸ ho⟩
      · obtain ⟨o, ho⟩ := R.ex y c' hc'; exact ⟨o, (hs.g c' e).trans ho⟩

/-! the closure that a comprehension's block takes -/
noncomputable def clGo (cells : List (Str × Addr)) : List (Str × NameKind) → List (Str × Addr) → List (Str × Addr)
  | [], acc => acc
  | (n, k) :: r, acc => if k == .free then (match cells.lookup n with | some c => clGo cells r ((n, c) :: acc) | none => clGo cells r acc) else clGo cells r acc

theorem closure_go {env : Env} (f : Str × NameKind → List (Str × Addr) → Sem (ForInStep (List (Str × Addr))))
    (hf : ∀ n k cs, f (n, k) cs = if k == .free then (do let c ← cellOf env n; pure (.yield ((n, c) :: cs))) else pure (.yield cs)) :
    ∀ (names : List (Str × NameKind)) (acc : List (Str × Addr)), (∀ p ∈ names, p.2 = .free → ∃ c, env.cells.lookup p.1 = some c) → forIn names acc f = pure (clGo env.cells names acc)
  | [], acc, _ => rfl
  | (n, k) :: r, acc, h => by
    have hr : ∀ p ∈ r, p.2 = .free → ∃ c, env.cells.lookup p.1 = some c := fun p hp => h p (List.mem_cons_of_mem _ hp)
    rw [List.forIn_cons, hf]
    unfold clGo
    by_cases hk : (k == NameKind.free) = true
    · obtain ⟨c, hc⟩ := h (n, k) List.mem_cons_self (by simpa using hk)
      rw [if_pos hk, if_pos hk]
      unfold cellOf
      simp only at hc
      rw [hc]
      simp only [pure_bind]
      exact closure_go f hf r _ hr
    · rw [if_neg hk, if_neg hk, pure_bind]
      exact closure_go f hf r _ hr

theorem closureFor_go {env : Env} {scope : Scope} (h : ∀ p ∈ scope.names, p.2 = .free → ∃ c, env.cells.lookup p.1 = some c) : closureFor scope env = pure (clGo env.cells scope.names []) := by
  unfold closureFor
  simp only []
  rw [closure_go (env := env) _ (fun n k cs => by
    by_cases hk : (k == NameKind.free) = true <;> simp [hk]) scope.names [] h]
  rfl

theorem lookup_cons' {α : Type} (x n : Str) (c : α) (l : List (Str × α)) : ((n, c) :: l).lookup x = if x = n then some c else l.lookup x := by
  rw [List.lookup_cons]
  by_cases h : x = n
  · simp [h]
  · have : (x == n) = false := by simpa using h
    simp [h, this]

theorem clGo_sound {cells : List (Str × Addr)} : ∀ (names : List (Str × NameKind)) (acc : List (Str × Addr)), (∀ x c, acc.lookup x = some c → cells.lookup x = some c) →
    ∀ x c, (clGo cells names acc).lookup x = some c → cells.lookup x = some c
  | [], acc, h => h
  | (n, k) :: r, acc, h => by
    unfold clGo
    split
    · cases hc : cells.lookup n with
      | none => exact clGo_sound r acc h
      | some c =>
        refine clGo_sound r _ fun x c' e => ?_
        rw [lookup_cons'] at e
        split at e
        · rename_i q; cases e; rw [q]; exact hc
        · exact h x c' e
    · exact clGo_sound r acc h

theorem clGo_mem {cells : List (Str × Addr)} : ∀ (names : List (Str × NameKind)) (acc : List (Str × Addr)) (x : Str) (c : Addr), (clGo cells names acc).lookup x = some c → (x, NameKind.free) ∈ names ∨ acc.lookup x = some c
  | [], acc, x, c, h => .inr h
  | (n, k) :: r, acc, x, c, h => by
    unfold clGo at h
    split at h
    · rename_i hk
      have hk' : k = .free := by simpa using hk
      subst hk'
      cases hc : cells.lookup n with
      | none => rw [hc] at h; exact (clGo_mem r acc x c h).imp (.tail _) id
      | some c' =>
        rw [hc] at h
        rcases clGo_mem r _ x c h with e | e
        · exact .inl (.tail _ e)
        · rw [lookup_cons'] at e
          split at e
          · rename_i q; exact .inl (q ▸ .head _)
          · exact .inr e
    · exact (clGo_mem r acc x c h).imp (.tail _) id

theorem clGo_has {cells : List (Str × Addr)} {x : Str} {c : Addr} (hx : cells.lookup x = some c) : ∀ (names : List (Str × NameKind)) (acc : List (Str × Addr)),
    ((x, NameKind.free) ∈ names ∨ acc.lookup x = some c) → (clGo cells names acc).lookup x = some c
  | [], acc, h => h.elim (fun e => nomatch e) id
  | (n, k) :: r, acc, h => by
    unfold clGo
    split
    · cases hc : cells.lookup n with
      | none =>
        refine clGo_has hx r acc (h.imp (fun e => ?_) id)
        rcases List.mem_cons.mp e with e | e
        · cases e; rw [hx] at hc; cases hc
        · exact e
      | some c' =>
        refine clGo_has hx r _ ?_
        rcases h with e | e
        · rcases List.mem_cons.mp e with e | e
          · cases e; rw [hx] at hc; cases hc
            exact .inr (by rw [lookup_cons', if_pos rfl])
          · exact .inl e
        · rw [lookup_cons']
          split
          · rename_i q; rw [← q, hx] at hc; cases hc; exact .inr rfl
          · exact .inr e
    · rename_i hk
      refine clGo_has hx r acc (h.imp (fun e => ?_) id)
      rcases List.mem_cons.mp e with e | e
      · cases e; simp at hk
      · exact e

theorem cellsFrom_app : ∀ (names : List (Str × NameKind)) (n : Nat) (acc : List (Str × Addr)), cellsFrom n names acc = cellsFrom n names [] ++ acc
  | [], _, _ => rfl
  | (x, k) :: r, n, acc => by
    unfold cellsFrom
    split
    · rw [cellsFrom_app r (n + 1) ((x, n) :: acc), cellsFrom_app r (n + 1) [(x, n)]]; simp
    · exact cellsFrom_app r n acc

theorem cellsFrom_mem : ∀ (names : List (Str × NameKind)) (n : Nat) (x : Str) (c : Addr), (x, c) ∈ cellsFrom n names [] → (x, NameKind.cell) ∈ names ∧ n ≤ c
  | [], _, _, _, h => nomatch h
  | (y, k) :: r, n, x, c, h => by
    unfold cellsFrom at h
    split at h
    · rename_i hk
      rw [cellsFrom_app] at h
      rcases List.mem_append.mp h with h | h
      · obtain ⟨h1, h2⟩ := cellsFrom_mem r (n + 1) x c h
        exact ⟨.tail _ h1, by omega⟩
      · simp only [List.mem_cons, List.not_mem_nil, or_false, Prod.mk.injEq] at h
        obtain ⟨rfl, rfl⟩ := h
        have : k = .cell := by simpa using hk
        subst this
        exact ⟨.head _, Nat.le_refl _⟩
    · obtain ⟨h1, h2⟩ := cellsFrom_mem r n x c h
      exact ⟨.tail _ h1, h2⟩

theorem cellsFrom_has : ∀ (names : List (Str × NameKind)) (n : Nat) (x : Str), (x, NameKind.cell) ∈ names → ∃ c, (x, c) ∈ cellsFrom n names []
  | (y, k) :: r, n, x, h => by
    unfold cellsFrom
    rcases List.mem_cons.mp h with e | e
    · cases e
      simp only [beq_self_eq_true, if_true]
      rw [cellsFrom_app]
      exact ⟨n, List.mem_append_right _ (List.mem_singleton.mpr rfl)⟩
    · split
      · obtain ⟨c, hc⟩ := cellsFrom_has r (n + 1) x e
        rw [cellsFrom_app]
        exact ⟨c, List.mem_append_left _ hc⟩
      · exact cellsFrom_has r n x e

theorem lookup_some_of_mem {α : Type} : ∀ {l : List (Str × α)} {x : Str} {c : α}, (x, c) ∈ l → ∃ c', l.lookup x = some c'
  | (y, d) :: r, x, c, h => by
    rw [lookup_cons']
    split
    · exact ⟨_, rfl⟩
    · rename_i hne
      rcases List.mem_cons.mp h with e | e
      · cases e; exact absurd rfl hne
      · exact lookup_some_of_mem e

theorem lookup_app {α : Type} (x : Str) : ∀ (l l' : List (Str × α)), (l ++ l').lookup x = (l.lookup x).or (l'.lookup x)
  | [], l' => by simp
  | (y, c) :: r, l' => by
    rw [List.cons_append, lookup_cons', lookup_cons', lookup_app x r l']
    split <;> simp
end
end Mine
namespace Mine
open PySem PySem.SeqAt

theorem lookup_map {α β : Type} (g : Str → α → β) (x : Str) : ∀ (l : List (Str × α)), (l.map fun p => (p.1, g p.1 p.2)).lookup x = (l.lookup x).map (g x)
  | [] => rfl
  | (y, c) :: r => by
    rw [List.map_cons, lookup_cons', lookup_cons', lookup_map g x r]
    split
    · rename_i h; subst h; rfl
    · rfl

theorem kindC_eq (k : KD) (scope : Scope) (x : Str) : kindC k scope x = (scope.names.lookup x).map fun q => if q == .free && k x == some .cell then .cell else q := by
  unfold kindC
  rw [← lookup_map (fun n q => if q == NameKind.free && k n == some .cell then NameKind.cell else q) x scope.names]
  congr 1
  refine List.map_congr_left fun p _ => ?_
  by_cases h : (p.2 == NameKind.free && k p.1 == some .cell) = true
  · simp [h]
  · simp [h]

theorem relabel_kind {env : Env} {scope : Scope} (hk : env.scope.kind = .function) : (fun x => (relabel scope env).names.lookup x) = kindC env.kindOf scope := by
  funext x
  unfold relabel kindC
  simp only [hk]
  congr 1
  refine List.map_congr_left fun p _ => ?_
  obtain ⟨a, b⟩ := p
  simp

section
variable {M : Model} {A : Around} {E : Value → Shared → Prop} {s : Shared}
theorem newEnvA {scope : Scope} {globals : Addr} {cl : List (Str × Addr)} {qual : Str} {env : Env} {Q : Env → Shared → Prop}
    (h : Q { scope, locals := s.heap.objs.size, globals, cells := cellsFrom (s.heap.objs.size + 1) scope.names cl, qual, func := none, code := env.code, frame := env.frame, builtins := env.builtins }
      { s with heap := pushCells (s.heap.push { cls := .type "dict", data := .dict #[] }) scope.names }) :
    wpAny M A (newFunctionEnv scope globals cl [] qual none .none (some env)) Q E s := by
  simp only [newFunctionEnv, Option.isSome_some, if_true]
  refine wpAny_bind (wpAny_alloc ?_)
  refine wpAny_bind (wpAny_layCells _ (fun name kind cells => by cases hkc : kind == NameKind.cell <;> simp [hkc]) _ _ _ _ ?_)
  rw [show ({ s with heap := s.heap.push { cls := .type "dict", data := .dict #[] } } : Shared).heap.objs.size = s.heap.objs.size + 1 from Heap.size_push ..]
  exact wpAny_pure h
end

theorem cells_facts (h : Heap) (scope : Scope) (o : Obj) :
    CellsOk (pushCells (h.push o) scope.names) (h.objs.size + 1) (cellsFrom (h.objs.size + 1) scope.names []) := by
  have ok := cellsFrom_ok scope.names (h.push o) (h.objs.size + 1) [] ⟨fun _ _ hm => (nomatch hm), List.Pairwise.nil⟩ (by rw [Heap.size_push]; exact Nat.le_refl _)
  rwa [Heap.size_push] at ok

/-- the environment of a comprehension's block -/
theorem compEnv_rep {h : Heap} {env : Env} {m : Str → Option Value} {scope : Scope} {y : Str} (R : EnvRep h env m) (hok : okScope env.kindOf scope y = true) :
    EnvRep (pushCells (h.push { cls := .type "dict", data := .dict #[] }) scope.names)
      { scope := relabel scope env, locals := h.objs.size, globals := env.globals, cells := cellsFrom (h.objs.size + 1) scope.names (clGo env.cells scope.names []), qual := env.qual, func := none, code := env.code, frame := env.frame, builtins := env.builtins }
      (fun x => if scope.names.lookup x = some .free then m x else none) := by
  unfold okScope at hok
  simp only [Bool.and_eq_true, decide_eq_true_eq, beq_iff_eq, List.all_eq_true, Bool.not_eq_true'] at hok
  obtain ⟨⟨⟨⟨⟨hkind, hnd⟩, hy⟩, hfree⟩, _⟩, hord⟩ := hok
  have ok := cells_facts h scope { cls := .type "dict", data := .dict #[] }
  have keep : ∀ b o, gat h b = some o → gat (pushCells (h.push { cls := .type "dict", data := .dict #[] }) scope.names) b = some o := fun b o e => Heap.gt_up (pushCells_keeps _ _) b o (Heap.gt_push_of_some _ e)
  have uniq : ∀ x k k', (x, k) ∈ scope.names → (x, k') ∈ scope.names → k = k' := by
    intro x k k' h1 h2
    have : ∀ (l : List (Str × NameKind)), (l.map (·.1)).Nodup → (x, k) ∈ l → (x, k') ∈ l → k = k' := by
      intro l
      induction l with
      | nil => intro _ h; nomatch h
      | cons p l ih =>
        intro hn h1 h2
        simp only [List.map_cons, List.nodup_cons] at hn
        rcases List.mem_cons.mp h1 with e1 | e1 <;> rcases List.mem_cons.mp h2 with e2 | e2
        · rw [← e2] at e1; exact (Prod.mk.inj e1).2
        · exact absurd (List.mem_map_of_mem (f := (·.1)) e2) (by rw [← e1] at hn; exact hn.1)
        · exact absurd (List.mem_map_of_mem (f := (·.1)) e1) (by rw [← e2] at hn; exact hn.1)
        · exact ih hn.2 e1 e2
    exact this _ hnd h1 h2
  have own_none : ∀ x, scope.names.lookup x ≠ some .cell → (cellsFrom (h.objs.size + 1) scope.names []).lookup x = none := by
    intro x hx
    cases hc : (cellsFrom (h.objs.size + 1) scope.names []).lookup x with
    | none => rfl
    | some c =>
      exfalso
      have h1 := (cellsFrom_mem _ _ _ _ (mem_of_lookup hc)).1
      obtain ⟨k', h2⟩ := lookup_some_of_mem h1
      have := uniq _ _ _ (mem_of_lookup h2) h1
      rw [this] at h2
      exact hx h2
  have cases_cell : ∀ x c, (cellsFrom (h.objs.size + 1) scope.names (clGo env.cells scope.names [])).lookup x = some c →
      (cellsFrom (h.objs.size + 1) scope.names []).lookup x = some c ∨ ((cellsFrom (h.objs.size + 1) scope.names []).lookup x = none ∧ env.cells.lookup x = some c) := by
    intro x c hc
    rw [cellsFrom_app, lookup_app] at hc
    cases hq : (cellsFrom (h.objs.size + 1) scope.names []).lookup x with
    | some c' => rw [hq] at hc; simp at hc; exact .inl (by rw [hc])
    | none =>
      rw [hq] at hc
      simp only [Option.none_or] at hc
      exact .inr ⟨rfl, clGo_sound _ _ (fun _ _ e => by simp at e) x c hc⟩
  have outer_lt : ∀ x c, env.cells.lookup x = some c → @LT.lt Nat _ c h.objs.size := fun x c hc => let ⟨o, ho⟩ := R.ex x c hc; Heap.gt_lt ho
  have own_ge : ∀ x c, (cellsFrom (h.objs.size + 1) scope.names []).lookup x = some c → @LE.le Nat _ (h.objs.size + 1) c := fun x c hc => (ok.empty x c (mem_of_lookup hc)).2
  refine ⟨hkind, R.glob, R.blt, ⟨fun _ => none, ?_, ?_⟩, ?_, ?_, ?_, ?_, fun ho => ?_⟩
  · exact (Heap.Ns.new h (.type "dict")).keeps (pushCells_keeps _ _)
  · intro x hx
    have hx' : kindC env.kindOf scope x = some .local := by rw [← relabel_kind R.kind]; exact hx
    rw [kindC_eq] at hx'
    split
    · rename_i hf; rw [hf] at hx'; simp at hx'; split at hx' <;> cases hx'
    · rfl
  · intro x hx
    have hx' : kindC env.kindOf scope x = some .cell ∨ kindC env.kindOf scope x = some .free := by rw [← relabel_kind R.kind]; exact hx
    rw [kindC_eq] at hx'
    cases hq : scope.names.lookup x with
    | none => rw [hq] at hx'; simp at hx'
    | some k =>
      rw [hq] at hx'
      by_cases hf : k = .free
      · subst hf
        have hm := mem_of_lookup hq
        have hv := hfree _ hm
        simp only [bne_self_eq_false, Bool.false_or, Bool.or_eq_true, beq_iff_eq] at hv
        obtain ⟨c, h1, h2⟩ := R.cell x hv
        refine ⟨c, ?_, ?_⟩
        · show (cellsFrom _ _ _).lookup x = some c
          rw [cellsFrom_app, lookup_app, own_none x (by rw [hq]; simp)]
          simpa using clGo_has h1 scope.names [] (.inl hm)
        · rw [if_pos rfl]; exact Cell.keepAt h2 (keep _)
      · have hk : k = .cell := by
          have : (k == NameKind.free) = false := by simpa using hf
          simp [this, hf] at hx'
          exact hx'
        subst hk
        obtain ⟨c, hc⟩ := cellsFrom_has scope.names (h.objs.size + 1) x (mem_of_lookup hq)
        obtain ⟨c', hc'⟩ := lookup_some_of_mem hc
        refine ⟨c', ?_, ?_⟩
        · show (cellsFrom _ _ _).lookup x = some c'
          rw [cellsFrom_app, lookup_app, hc']; rfl
        · rw [if_neg (by simp)]
          exact (ok.empty x c' (mem_of_lookup hc')).1
  · intro x y' c h1 h2
    rcases cases_cell x c h1 with e1 | ⟨_, e1⟩ <;> rcases cases_cell y' c h2 with e2 | ⟨_, e2⟩
    · exact name_of_addr ok.apart (mem_of_lookup e1) (mem_of_lookup e2)
    · have := own_ge x c e1; have := outer_lt y' c e2; omega
    · have := own_ge y' c e2; have := outer_lt x c e1; omega
    · exact R.inj x y' c e1 e2
  · intro x c h1 e
    rcases cases_cell x c h1 with e1 | ⟨_, e1⟩
    · have := own_ge x c e1; have e' : @Eq Nat c h.objs.size := e; omega
    · have := outer_lt x c e1; have e' : @Eq Nat c h.objs.size := e; omega
  · intro x c h1
    rcases cases_cell x c h1 with e1 | ⟨_, e1⟩
    · exact gt_cell (ok.empty x c (mem_of_lookup e1)).1
    · obtain ⟨o, ho⟩ := R.ex x c e1; exact ⟨o, keep _ _ ho⟩
  · have ho : ordK (fun x => (relabel scope env).names.lookup x) = true := ho
    rw [relabel_kind R.kind, hord] at ho; cases ho
end Mine
namespace Mine
open PySem PySem.SeqAt

theorem compM_snoc (f : D → Option (Option D)) : ∀ (l : List D) (x : D), compM f (l ++ [x]) = (match compM f l, f x with
    | some ds, some (some d) => some (ds ++ [d])
    | some ds, some Option.none => some ds
    | _, _ => Option.none)
  | [], x => by
    simp only [List.nil_append, compM]
    cases f x with
    | none => rfl
    | some o => cases o <;> rfl
  | y :: l, x => by
    rw [List.cons_append, compM, compM, compM_snoc f l x]
    cases f y with
    | none => rfl
    | some o =>
      cases compM f l with
      | none => rfl
      | some ds =>
        cases f x with
        | none => rfl
        | some o' => cases o' <;> cases o <;> rfl
theorem compM_pre {f : D → Option (Option D)} : ∀ {a b : List D} {out : List D}, compM f (a ++ b) = some out → ∃ o, compM f a = some o
  | [], b, out, h => ⟨[], rfl⟩
  | x :: a, b, out, h => by
    rw [List.cons_append, compM] at h
    rw [compM]
    cases hx : f x with
    | none => rw [hx] at h; cases h
    | some o =>
      rw [hx] at h
      cases hab : compM f (a ++ b) with
      | none => rw [hab] at h; cases h
      | some ds =>
        obtain ⟨o', ho'⟩ := compM_pre hab
        rw [ho']
        exact ⟨_, rfl⟩
theorem compM_len {f : D → Option (Option D)} : ∀ {a : List D} {out : List D}, compM f a = some out → out.length ≤ a.length
  | [], out, h => by simp [compM] at h; simp [← h]
  | x :: a, out, h => by
    rw [compM] at h
    cases hx : f x with
    | none => rw [hx] at h; cases h
    | some o =>
      rw [hx] at h
      cases hab : compM f a with
      | none => rw [hab] at h; cases h
      | some ds =>
        rw [hab] at h
        have := compM_len hab
        cases o <;> (cases h; simp; omega)

theorem notSet_folded {e : Expr} {env : Env} (h : notSet e = true) : ∀ x, foldedSetIterable e env x = pure x := by
  intro x
  cases e <;> first | rfl | (cases h)
theorem notSet_marks {e : Expr} {op : CmpOp} (h : notSet e = true) : behindInMarks op e = false := by
  cases e <;> first | rfl | (cases h)

theorem nodup_lookup : ∀ {l : List (Str × NameKind)}, (l.map (·.1)).Nodup → ∀ p ∈ l, l.lookup p.1 = some p.2
  | q :: l, hn, p, hp => by
    simp only [List.map_cons, List.nodup_cons] at hn
    obtain ⟨a, b⟩ := q
    rw [lookup_cons']
    rcases List.mem_cons.mp hp with e | e
    · subst e; simp
    · split
      · rename_i q; exact absurd (List.mem_map_of_mem (f := (·.1)) e) (by rw [q]; exact hn.1)
      · exact nodup_lookup hn.2 p e

section
variable {prog : Program} {w : World} {A : Around} {E : Value → Shared → Prop} {s : Shared} {H : Addr → Prop}

/-- what holds ahead of each turn of a comprehension -/
structure CompI (P : Params) (h1 : Heap) (H F : Addr → Prop) (I L : Addr) (its : List D) (St : Nat → Heap → Prop) (f : D → Option (Option D)) (cenv : Env) (m : Str → Option Value) (free : Str → Prop) (s : Shared) (k : Nat) (s' : Shared) (h : Heap) (tk : Nat) (dw : Drawn) (done rest o : List D) (ys : Array Value) (mC : Str → Option Value) : Prop where
  e : s' = { s with heap := h, toks := tk, drawn := dw }
  dr : its = done ++ rest
  st : St done.length h
  acc : h.PlainList L ys
  out : compM f done = some o
  rep : RepAll P h (fun b => H b ∨ F b) ys.toList o
  env : EnvRep h cenv mC
  fv : ∀ x, free x → mC x = m x
  kh : KH h1 h
  fx : ∀ b, F b → b ≠ I → ∃ o, gat h b = some o
  kn : k = its.length + 1 - done.length
theorem comp_loop {cenv : Env} {m mC0 : Str → Option Value} {free : Str → Prop} {y : Str} {py pos : Pos} {it elt : Expr} {ifs : List Expr} {scope : Scope} {R : Result → Shared → Prop} {its out : List D} {f : D → Option (Option D)}
    {I L : Addr} {fp : List Addr} {P : Nat → Value → Prop} {St : Nat → Heap → Prop} {F : Addr → Prop} {h1 h4 : Heap} {tk4 : Nat} {dw4 : Drawn}
    (W : Walks prog w A I fp [I] its.length P St) (hfp : ∀ b ∈ fp, b = I ∨ (¬ H b ∧ ∃ o, gat h1 b = some o)) (hP : ∀ i v, i < its.length → P i v → ∃ d, its[i]? = some d ∧ Rep w.params h1 H v d)
    (hT : ∀ b ∈ fp, ∀ i h o, St i h → h.get? b = some o → isTab o = false) (hky : cenv.kindOf y = some .local ∨ cenv.kindOf y = some .cell) (hyf : ¬ free y)
    (hst : St 0 h4) (hacc : h4.PlainList L #[]) (RC : EnvRep h4 cenv mC0) (hfv : ∀ x, free x → mC0 x = m x)
    (FI : F I) (FL : F L) (FC : F cenv.locals) (Fy : ∀ c, cenv.cells.lookup y = some c → F c)
    (nIL : I ≠ L) (nIC : I ≠ cenv.locals) (nLC : L ≠ cenv.locals) (ncell : ∀ x c, cenv.cells.lookup x = some c → c ≠ L ∧ c ≠ I)
    (Ff : ∀ b, F b → gat h1 b = none) (Fx : ∀ b, F b → b ≠ I → ∃ o, gat h4 b = some o) (IC : @LE.le Nat _ I cenv.locals) (hH : Ex h1 H) (k01 : KH s.heap h1) (k14 : KH h1 h4)
    (hlen : its.length ≤ big) (hout : compM f its = some out)
    (helt : ∀ (s₂ : Shared) (mC : Str → Option Value) (H₂ : Addr → Prop) (v : Value) (dv : D) (r : Option D), dv ∈ its → f dv = some r → EnvRep s₂.heap cenv mC → mC y = some v → Rep w.params s₂.heap H₂ v dv →
      (∀ x, free x → mC x = m x) → Ex s₂.heap H₂ → Keeps s s₂ → (∀ a o, gat s.heap a = some o → H₂ a → H a) → ∀ E' : Value → Shared → Prop,
      wpAny (model prog w) A (forIn ifs true fun c r => if r = true then do let ok ← isTrue c cenv (eval c cenv); pure (ForInStep.yield ok) else pure (ForInStep.yield r))
        (fun ok s₃ => Keeps s₂ s₃ ∧ ok = r.isSome ∧ ∀ dr, r = some dr → wpAny (model prog w) A (eval elt cenv) (fun v' s₄ => Keeps s₃ s₄ ∧ Rep w.params s₄.heap H₂ v' dr) E' s₃) E' s₂)
    (hR : ∀ h' tk dw m', h'.Ns cenv.locals m' → OwnL w.params h' (fun b => H b ∨ F b) L out → (KH s.heap h') → R (.ok .next) { s with heap := h', toks := tk, drawn := dw }) :
    codeAny (model prog w) A (.compLoop (.ListComp elt [⟨.Name y py, it, ifs, 0⟩] scope pos) 0 (.ref I) (.ref L) cenv) R { s with heap := h4, toks := tk4, drawn := dw4 } := by
  refine codeAny_compLoop_tests
    (fun k s' => ∃ h tk dw done rest o ys mC, CompI w.params h1 H F I L its St f cenv m free s k s' h tk dw done rest o ys mC) ?_ (its.length + 1)
    ⟨h4, tk4, dw4, [], its, [], #[], mC0, rfl, rfl, hst, hacc, rfl, by simpa using RepAll.nil, RC, hfv, k14, Fx, rfl⟩
  rintro k s' ⟨h, tk, dw, done, rest, o, ys, mC, rfl, hits, hst', hacc', ho, hys, RC', hfv', k1h, Fx', rfl⟩
  have hysl : ys.size = o.length := by have := hys.length; simpa using this
  have hol : o.length ≤ done.length := compM_len ho
  have hdl : done.length + rest.length = its.length := by rw [hits]; simp
  cases rest with
  | nil =>
    simp only [List.append_nil] at hits
    subst hits
    rw [hout] at ho; cases ho
    refine W.done _ _ _ hst' fun h' tk' hk' => ?_
    replace hk' := walk_lift W hT hst' hk'
    obtain ⟨ml, hns, _⟩ := RC'.loc
    refine hR h' tk' dw ml (Ns.keepAt hns fun o e => hk' _ o (by simpa using Ne.symm nIC) e) ?_ fun b o e => hk' b o ?_ (k1h b o (k01 b o e))
    · obtain ⟨n, hL⟩ := hacc'
      refine ⟨ys, n, Heap.of_gt (hk' _ _ (by simpa using Ne.symm nIL) (Heap.gt_of hL)), Nat.le_trans hol hlen, ?_⟩
      exact hys.mono (fun a o' hn e => hk' a o' (fun q => hn (.inr (by simp at q; rw [q]; exact FI))) e) fun a o' _ q => q.elim id fun q => .inr (q ▸ FL)
    · intro q
      simp at q
      have := Ff I FI
      rw [← q, k01 b o e] at this; cases this
  | cons dv rest' =>
    have hlt : done.length < its.length := by rw [hits]; simp
    refine W.item done.length _ _ _ hlt hst' fun v h₁ tk₁ hPv hst₁ hk₁ => ?_
    replace hk₁ := walk_lift W hT hst' hk₁
    obtain ⟨dv', e1, rv⟩ := hP _ v hlt hPv
    have : dv' = dv := by
      rw [hits] at e1
      simpa using e1.symm
    subst this
    have RC₁ : EnvRep h₁ cenv mC := RC'.keepsAt fun a o' ha e => hk₁ a o' (by
      simp only [List.mem_singleton]
      rcases ha with rfl | ⟨x, hx⟩
      · exact Ne.symm nIC
      · exact (ncell x a hx).2) e
    refine wpAny_assign_Name (store_snd (s := { s with heap := h₁, toks := tk₁, drawn := dw }) RC₁ hky fun h₂ tk₂ dw₂ a RC₂ ha hs₂ => ?_)
    have Fa : F a := ha.elim (fun e => e ▸ FC) fun e => Fy a e
    have aI : a ≠ I := ha.elim (fun e => e ▸ Ne.symm nIC) fun e => (ncell y a e).2
    have aL : a ≠ L := ha.elim (fun e => e ▸ Ne.symm nLC) fun e => (ncell y a e).1
    have nF1 : ∀ b o', gat h1 b = some o' → ¬ F b := fun b o' e q => by have := Ff b q; rw [e] at this; cases this
    have k12 : KH h1 h₂ := fun b o' e => (hs₂.g b (fun q => nF1 b o' e (q ▸ Fa))).trans (hk₁ b o' (by simp only [List.mem_singleton]; rintro rfl; exact nF1 _ _ e FI) (k1h b o' e))
    have hst₂ : St (done.length + 1) h₂ := walks_frame W hT _ _ _ hst₁ fun b hb o' e => by
      refine (hs₂.g b fun q => ?_).trans e
      rcases hfp b hb with e2 | ⟨_, o2, e2⟩
      · exact aI (q ▸ e2)
      · exact nF1 b o2 e2 (q ▸ Fa)
    have Fx₂ : ∀ b, F b → b ≠ I → ∃ o', gat h₂ b = some o' := fun b hb hbI => by
      obtain ⟨o', e⟩ := Fx' b hb hbI
      have e1 := hk₁ b o' (by simpa using hbI) e
      by_cases q : b = a
      · rcases ha with e2 | e2
        · obtain ⟨_, e3, _⟩ := RC₂.loc
          obtain ⟨o2, e3⟩ := gt_ns e3
          exact ⟨_, by rw [q, e2]; exact e3⟩
        · obtain ⟨o2, e3⟩ := RC₂.ex y a e2
          exact ⟨o2, by rw [q]; exact e3⟩
      · exact ⟨o', (hs₂.g b q).trans e1⟩
    have hmem : dv' ∈ its := by rw [hits]; simp
    have hfd : ∃ r, f dv' = some r ∧ compM f (done ++ [dv']) = some (match r with | some x => o ++ [x] | Option.none => o) := by
      rw [hits, show done ++ dv' :: rest' = (done ++ [dv']) ++ rest' by simp] at hout
      obtain ⟨o', ho'⟩ := compM_pre hout
      have h2 := ho'
      rw [compM_snoc, ho] at ho'
      cases hf : f dv' with
      | none => rw [hf] at ho'; cases ho'
      | some r =>
        refine ⟨r, rfl, ?_⟩
        rw [hf] at ho'
        rw [h2]
        cases r <;> (cases ho'; rfl)
    obtain ⟨r, hfr, hnext⟩ := hfd
    have hH₂ : Ex h₂ (fun b => H b ∨ F b) := fun b hb => hb.elim (fun q => let ⟨b', o', hb', e⟩ := hH b q; ⟨b', o', hb', k12 b' o' e⟩) fun q => by
      by_cases hbI : b = I
      · obtain ⟨o', e⟩ := Fx₂ _ FC (Ne.symm nIC)
        exact ⟨_, o', hbI ▸ IC, e⟩
      · obtain ⟨o', e⟩ := Fx₂ b q hbI
        exact ⟨b, o', Nat.le_refl _, e⟩
    have rv₂ : Rep w.params h₂ (fun b => H b ∨ F b) v dv' := rv.mono (fun b o' _ e => k12 b o' e) fun b o' e q => q.elim id fun q => absurd q (nF1 b o' e)
    refine wpAny_mono (helt { s with heap := h₂, toks := tk₂, drawn := dw₂ } (upd mC y v) (fun b => H b ∨ F b) v dv' r hmem hfr RC₂ (by simp [upd]) rv₂ (fun x hx => by
      have : x ≠ y := fun e => hyf (e ▸ hx)
      simp [upd, this, hfv' x hx]) hH₂ ⟨h₂, tk₂, dw₂, rfl, fun b o' e => k12 b o' (k01 b o' e)⟩ (fun b o' e q => q.elim id fun q => absurd q (nF1 b o' (k01 b o' e))) _) (fun ok s₃ h₃ => ?_) fun _ _ e => e
    obtain ⟨kp3, rfl, he3⟩ := h₃
    obtain ⟨h₃, tk₃, dw₃, rfl, k23⟩ := kp3
    have hys₂ : RepAll w.params h₂ (fun b => H b ∨ F b) ys.toList o := hys.mono (fun b o' hn e => (hs₂.g b fun q => hn (.inr (q ▸ Fa))).trans (hk₁ b o' (by simp only [List.mem_singleton]; rintro rfl; exact hn (.inr FI)) e)) fun _ _ _ q => q
    have hacc₂ : h₂.PlainList L ys := by
      obtain ⟨n, hL⟩ := hacc'
      exact ⟨n, Heap.of_gt ((hs₂.g L (Ne.symm aL)).trans (hk₁ _ _ (by simpa using Ne.symm nIL) (Heap.gt_of hL)))⟩
    have hacc₃ : h₃.PlainList L ys := let ⟨n, hL⟩ := hacc₂; ⟨n, Heap.of_gt (k23 _ _ (Heap.gt_of hL))⟩
    cases r with
    | none =>
      simp only [Option.isSome_none, Bool.false_eq_true, if_false]
      refine ⟨its.length + 1 - (done.length + 1), by omega, h₃, tk₃, dw₃, done ++ [dv'], rest', o, ys, _, rfl, by rw [hits]; simp, ?_, hacc₃, hnext, hys₂.keeps k23, RC₂.keeps k23, ?_, fun b o' e => k23 _ _ (k12 b o' e), fun b hb hbI => let ⟨o', e⟩ := Fx₂ b hb hbI; ⟨o', k23 _ _ e⟩, by simp⟩
      · have := walks_frame W hT _ _ h₃ hst₂ fun b _ o' e => k23 b o' e
        simpa using this
      · intro x hx
        have : x ≠ y := fun e => hyf (e ▸ hx)
        simp [upd, this, hfv' x hx]
    | some dr =>
      simp only [Option.isSome_some, if_true]
      refine wpAny_mono (he3 dr rfl) (fun x s₄ h₄ => ?_) fun _ _ e => e
      obtain ⟨⟨h₄, tk₄, dw₄, rfl, k34⟩, rx⟩ := h₄
      have hacc₄ : h₄.PlainList L ys := let ⟨n, hL⟩ := hacc₃; ⟨n, Heap.of_gt (k34 _ _ (Heap.gt_of hL))⟩
      refine wpAny_list_append_plain hacc₄ (fun h₅ hl₅ hs₅' => ?_) (by
        have e9 : big = sizeLine := rfl
        omega)
      have hs₅ : Heap.SB L h₄ h₅ := ⟨hs₅', let ⟨_, e⟩ := hacc₄; notTab_at e, let ⟨_, e⟩ := hl₅; notTab_at e⟩
      have notL : ∀ {b}, ¬ (H b ∨ F b) → b ≠ L := fun hn q => hn (.inr (q ▸ FL))
      refine ⟨its.length + 1 - (done.length + 1), by omega, h₅, tk₄, dw₄, done ++ [dv'], rest', o ++ [dr], ys.push x, _, rfl, by rw [hits]; simp, ?_, hl₅, hnext, ?_, (RC₂.keeps fun b o' e => k34 _ _ (k23 b o' e)).keepsAt fun b o' hb e => (hs₅.g b ?_).trans e, ?_, ?_, ?_, by simp⟩
      · have := walks_frame W hT _ _ h₅ hst₂ fun b hb o' e => (hs₅.g b ?_).trans (k34 _ _ (k23 b o' e))
        · simpa using this
        · rcases hfp b hb with e2 | ⟨_, o2, e2⟩
          · rw [e2]; exact nIL
          · rintro rfl; exact nF1 _ _ e2 FL
      · have r1 := (hys₂.keeps k23).keeps k34
        have r2 : RepAll w.params h₄ (fun b => H b ∨ F b) (ys.toList ++ [x]) (o ++ [dr]) := r1.append (.cons rx .nil)
        have r3 := r2.mono (h' := h₅) (H' := fun b => H b ∨ F b) (fun b o' hn e => (hs₅.g b (notL hn)).trans e) fun _ _ _ q => q
        simpa using r3
      · rcases hb with rfl | ⟨z, hz⟩
        · exact Ne.symm nLC
        · exact (ncell z b hz).1
      · intro z hz
        have : z ≠ y := fun e => hyf (e ▸ hz)
        simp [upd, this, hfv' z hz]
      · exact fun b o' e => (hs₅.g b (fun q => nF1 b o' e (q ▸ FL))).trans (k34 _ _ (k23 _ _ (k12 b o' e)))
      · intro b hb hbI
        by_cases q : b = L
        · obtain ⟨n, hL⟩ := hl₅; exact ⟨_, q ▸ Heap.gt_of hL⟩
        · obtain ⟨o', e⟩ := Fx₂ b hb hbI
          exact ⟨o', (hs₅.g b q).trans (k34 _ _ (k23 _ _ e))⟩

theorem comp_core {env : Env} {m : Str → Option Value} {scope : Scope} {y : Str} {py pos ppos : Pos} {it elt : Expr} {ifs : List Expr} {use : Option (Value → Sem Unit)} {Q : Value → Shared → Prop} {d : D} {its out : List D} {f : D → Option (Option D)}
    (R : EnvRep s.heap env m) (hok : okScope env.kindOf scope y = true) (hset : notSet it = true) (hh : A.handled = none) (hH : Ex s.heap H)
    (hit : wpAny (model prog w) A (eval it env) (Post w s H d) E s) (hits : d.items = some its) (hlen : its.length ≤ big) (hout : compM f its = some out)
    (helt : ∀ (s₂ : Shared) (cenv : Env) (mC : Str → Option Value) (H₂ : Addr → Prop) (v : Value) (dv : D) (r : Option D), dv ∈ its → f dv = some r → cenv.kindOf = kindC env.kindOf scope → EnvRep s₂.heap cenv mC → mC y = some v → Rep w.params s₂.heap H₂ v dv →
      (∀ x, scope.names.lookup x = some .free → mC x = m x) → Ex s₂.heap H₂ → Keeps s s₂ → (∀ a o, gat s.heap a = some o → H₂ a → H a) → ∀ E' : Value → Shared → Prop,
      wpAny (model prog w) A (forIn ifs true fun c r => if r = true then do let ok ← isTrue c cenv (eval c cenv); pure (ForInStep.yield ok) else pure (ForInStep.yield r))
        (fun ok s₃ => Keeps s₂ s₃ ∧ ok = r.isSome ∧ ∀ dr, r = some dr → wpAny (model prog w) A (eval elt cenv) (fun v' s₄ => Keeps s₃ s₄ ∧ Rep w.params s₄.heap H₂ v' dr) E' s₃) E' s₂)
    (hQ : ∀ L C h' tk dw m', (∀ b o, gat s.heap b = some o → @LT.lt Nat _ b L) → gat s.heap C = none → L ≠ C → h'.Ns C m' → OwnL w.params h' (fun b => H b ∨ b = C) L out → (KH s.heap h') →
      compPost (model prog w) A E use Q (.ref L) C (.ok .next) { s with heap := h', toks := tk, drawn := dw }) :
    wpAny (model prog w) A (comprehension (.ListComp elt [⟨.Name y py, it, ifs, 0⟩] scope pos) scope env ppos (newList []) false (eval it env) use) Q E s := by
  have hok' := hok
  unfold okScope at hok'
  simp only [Bool.and_eq_true, decide_eq_true_eq, beq_iff_eq, List.all_eq_true, Bool.or_eq_true] at hok'
  obtain ⟨⟨⟨⟨⟨hkind, hnodup⟩, hy⟩, hfree⟩, _⟩, _⟩ := hok'
  refine wpAny_comprehension_free (cl := clGo env.cells scope.names []) rfl (notSet_folded hset) (closureFor_go fun p hp hf => ?_) hkind (fun x hx hl => by rw [nodup_lookup hnodup x hx, hl]) ?_
  · have hv := hfree p hp
    simp only [hf, bne_self_eq_false, Bool.false_eq_true, false_or] at hv
    obtain ⟨c, h1, _⟩ := R.cell p.1 hv
    exact ⟨c, h1⟩
  refine wpAny_mono hit (fun xv s₁ h₁ => ?_) fun _ _ e => e
  obtain ⟨k1, rep1⟩ := h₁
  have hiter := iter_snd (prog := prog) (E := E) rep1 hh hits
  refine wpAny_mono hiter (fun itv s₂ h₂ => ?_) fun _ _ e => e
  obtain ⟨I, rfl, IA⟩ := h₂
  obtain ⟨fp, P, St, W, hst, hfp, hP, _, hT⟩ := IA.walk
  refine wpAny_newObj_type (newEnvA ?_)
  dsimp only
  obtain ⟨h2, tk2, dw2, rfl, k12⟩ := IA.keeps
  obtain ⟨h1, tk1, dw1, rfl, k01⟩ := k1
  dsimp only at k12 k01 ⊢
  generalize hh3 : h2.push { cls := .type "list", dict := none, data := .seq ([] : List Value).toArray } = h3
  have R3 : EnvRep h3 env m := (R.keeps k01).keeps fun b o e => hh3 ▸ Heap.gt_push_of_some _ (k12 b o e)
  have RC := compEnv_rep (y := y) R3 hok
  have size3 : h3.objs.size = h2.objs.size + 1 := by rw [← hh3, Heap.size_push]
  obtain ⟨oI, hI⟩ := IA.ex
  dsimp only at hI
  have I_lt : @LT.lt Nat _ I h2.objs.size := Heap.gt_lt hI
  have ok := cells_facts h3 scope { cls := .type "dict", data := .dict #[] }
  have k34 : ∀ b o, gat h3 b = some o → gat (pushCells (h3.push { cls := .type "dict", data := .dict #[] }) scope.names) b = some o := fun b o e => Heap.gt_up (pushCells_keeps _ _) b o (Heap.gt_push_of_some _ e)
  have k23 : KH h2 h3 := fun b o e => hh3 ▸ Heap.gt_push_of_some _ e
  have hL3 : h3.get? h2.objs.size = some (lstO #[] 0) := by rw [← hh3]; exact Heap.get?_push_size _ rfl
  have lt1 : ∀ b o, gat h1 b = some o → @LT.lt Nat _ b h2.objs.size := fun b o e => Heap.gt_lt (k12 b o e)
  have own_ge : ∀ x c, (x, c) ∈ cellsFrom (h3.objs.size + 1) scope.names [] → @LE.le Nat _ (h3.objs.size + 1) c := fun x c hc => (ok.empty x c hc).2
  have cellb : ∀ x c, (cellsFrom (h3.objs.size + 1) scope.names (clGo env.cells scope.names [])).lookup x = some c → (x, c) ∈ cellsFrom (h3.objs.size + 1) scope.names [] ∨ (∃ o, gat h1 c = some o ∧ True) := by
    intro x c hc
    rw [cellsFrom_app, lookup_app] at hc
    cases hq : (cellsFrom (h3.objs.size + 1) scope.names []).lookup x with
    | some c' => rw [hq] at hc; simp at hc; exact .inl (hc ▸ mem_of_lookup hq)
    | none =>
      rw [hq] at hc
      simp only [Option.none_or] at hc
      obtain ⟨o, ho⟩ := R.ex x c (clGo_sound _ _ (fun _ _ e => by simp at e) x c hc)
      exact .inr ⟨o, k01 _ _ ho, trivial⟩
  have hcellfacts : ∀ x c, (cellsFrom (h3.objs.size + 1) scope.names (clGo env.cells scope.names [])).lookup x = some c → c ≠ h2.objs.size ∧ c ≠ I := by
    intro x c hc
    rcases cellb x c hc with e | ⟨o, e, _⟩
    · have := own_ge x c e
      constructor
      · rintro rfl; omega
      · rintro rfl; omega
    · have := lt1 c o e
      constructor
      · rintro rfl; exact Nat.lt_irrefl _ this
      · rintro rfl; have := IA.fresh; dsimp only at this; rw [e] at this; cases this
  have nIC : I ≠ h3.objs.size := by rintro rfl; omega
  have nLC : h2.objs.size ≠ h3.objs.size := by omega
  have nIL : I ≠ h2.objs.size := by rintro rfl; exact Nat.lt_irrefl _ I_lt
  have hkC : (fun x => (relabel scope env).names.lookup x) = kindC env.kindOf scope := relabel_kind R.kind
  have ynf : scope.names.lookup y ≠ some .free := by rcases hy with e | e <;> (rw [e]; simp)
  have none_of : ∀ b, (∀ o, gat h1 b ≠ some o) → gat h1 b = none := fun b hb => by
    cases e : gat h1 b with
    | none => rfl
    | some o => exact absurd e (hb o)
  have loop : ∀ tk4 dw4, codeAny (model prog w) A (.compLoop (.ListComp elt [⟨.Name y py, it, ifs, 0⟩] scope pos) 0 (.ref I) (.ref h2.objs.size)
      { scope := relabel scope env, locals := h3.objs.size, globals := env.globals, cells := cellsFrom (h3.objs.size + 1) scope.names (clGo env.cells scope.names []), qual := env.qual, func := none, code := env.code, frame := env.frame, builtins := env.builtins })
      (compPost (model prog w) A E use Q (.ref h2.objs.size) h3.objs.size) { s with heap := pushCells (h3.push { cls := .type "dict", data := .dict #[] }) scope.names, toks := tk4, drawn := dw4 } := by
    intro tk4 dw4
    refine comp_loop (s := s) (H := H) (m := m) (free := fun x => scope.names.lookup x = some .free) (F := fun b => b = I ∨ b = h2.objs.size ∨ b = h3.objs.size ∨ ∃ x, (x, b) ∈ cellsFrom (h3.objs.size + 1) scope.names []) (h1 := h1) (mC0 := fun x => if scope.names.lookup x = some .free then m x else none)
      W hfp hP hT ?_ ynf ?_ ?_ RC (fun x hx => by simp [hx]) (.inl rfl) (.inr (.inl rfl)) (.inr (.inr (.inl rfl))) ?_ nIL nIC nLC hcellfacts ?_ ?_ (by show @LE.le Nat _ I h3.objs.size; omega) (hH.keeps k01) k01 (fun b o e => k34 b o (k23 b o (k12 b o e))) hlen hout ?_ ?_
    · show (fun x => (relabel scope env).names.lookup x) y = _ ∨ (fun x => (relabel scope env).names.lookup x) y = _
      rw [hkC, kindC_eq]
      rcases hy with e | e
      · exact .inl (by rw [e]; rfl)
      · exact .inr (by rw [e]; rfl)
    · refine walks_frame W hT _ _ _ hst fun b _ o e => k34 b o (k23 b o e)
    · exact ⟨0, Heap.of_gt (k34 _ _ (Heap.gt_of hL3))⟩
    · intro c hc
      rcases cellb y c hc with e | ⟨o, e, _⟩
      · exact .inr (.inr (.inr ⟨y, e⟩))
      · exfalso
        have hc' : (cellsFrom (h3.objs.size + 1) scope.names (clGo env.cells scope.names [])).lookup y = some c := hc
        rw [cellsFrom_app, lookup_app] at hc'
        have hym : scope.names.lookup y = some .cell := by
          rcases hy with e1 | e1
          · exfalso
            have hno : (cellsFrom (h3.objs.size + 1) scope.names []).lookup y = none := by
              cases hq : (cellsFrom (h3.objs.size + 1) scope.names []).lookup y with
              | none => rfl
              | some c' =>
                have h5 := (cellsFrom_mem _ _ _ _ (mem_of_lookup hq)).1
                have h6 := nodup_lookup hnodup _ h5
                simp only at h6
                rw [e1] at h6; cases h6
            rw [hno] at hc'
            simp only [Option.none_or] at hc'
            rcases clGo_mem _ _ _ _ hc' with q | q
            · have h6 := nodup_lookup hnodup _ q
              simp only at h6
              rw [e1] at h6; cases h6
            · simp at q
          · exact e1
        obtain ⟨c2, hc2⟩ := cellsFrom_has scope.names (h3.objs.size + 1) y (mem_of_lookup hym)
        obtain ⟨c3, hc3⟩ := lookup_some_of_mem hc2
        rw [hc3] at hc'
        simp at hc'
        subst hc'
        have := own_ge y c3 (mem_of_lookup hc3)
        have := lt1 c3 o e
        omega
    · intro b hb
      refine none_of b fun o e => ?_
      have := lt1 b o e
      rcases hb with rfl | rfl | rfl | ⟨x, hx⟩
      · have := IA.fresh; dsimp only at this; rw [e] at this; cases this
      · exact Nat.lt_irrefl _ this
      · omega
      · have := own_ge x b hx; omega
    · intro b hb hbI
      rcases hb with rfl | rfl | rfl | ⟨x, hx⟩
      · exact absurd rfl hbI
      · exact ⟨_, k34 _ _ (Heap.gt_of hL3)⟩
      · obtain ⟨_, e, _⟩ := RC.loc
        exact gt_ns e
      · exact gt_cell (ok.empty x b hx).1
    · intro s₂ mC H₂ v dv r hm hf RC' hv rv hfv hx kp hsub E'
      refine helt s₂ _ mC H₂ v dv r hm hf ?_ RC' hv rv hfv hx kp hsub E'
      exact hkC
    · intro h' tk dw m' hns hown hk
      refine hQ h2.objs.size h3.objs.size h' tk dw m' ?_ ?_ nLC hns ?_ hk
      · exact fun b o e => lt1 _ o (k01 _ o e)
      · cases e : gat s.heap h3.objs.size with
        | none => rfl
        | some o => have := lt1 _ o (k01 _ o e); omega
      · obtain ⟨vs, n, q1, q2, q3⟩ := hown
        exact ⟨vs, n, q1, q2, q3.mono (fun _ _ _ e => e) fun a o _ q => q.elim (fun q => q.elim (fun q => .inl (.inl q)) fun q => .inl (.inr (.inr (.inr (.inl q))))) fun q => .inr q⟩
  refine codeAny_compStart_list (loop _ _) (W.self 0 _ _ _ ?_ (loop _ _))
  exact walks_frame W hT _ _ _ hst fun b _ o e => k34 b o (k23 b o e)
end
end Mine
namespace Mine
open PySem PySem.SeqAt

noncomputable def bltNames : List String := ["len", "isinstance", "range", "tuple", "int", "str", "list", "bool", "set", "sum", "max", "min", "sorted", "reversed"]

structure GOk (mg mb : Str → Option Value) (h : Heap) : Prop where
  g : h.Ns mainGlobals mg
  b : h.Ns builtinsNs mb
  lim : h.NoLimit
  blt : ∀ f ∈ bltNames, mg (Str.ofString f) = none ∧ mb (Str.ofString f) = some (bltVal f)
  lam : h.IsCode oc tb #[] ∧ h.TableAt oc tb #[] ∧ h.BuiltinsAt mg tb

/-- the heap bears the base; the places in H are laid, and none of the base's -/
structure HOk (base h : Heap) (H : Addr → Prop) : Prop where
  keep : KH base h
  ex : Ex h H
  off : ∀ b o, gat base b = some o → ¬ H b
theorem HOk.keeps {base h h' : Heap} {H : Addr → Prop} (x : HOk base h H) (hk : KH h h') : HOk base h' H :=
  ⟨fun b o e => hk b o (x.keep b o e), x.ex.keeps hk, x.off⟩

theorem NoLimit.keepG {h h' : Heap} (x : h.NoLimit) (hk : KH h h') : h'.NoLimit := let ⟨mc, h1, h2⟩ := x; ⟨mc, Ns.keepAt h1 (hk _), h2⟩
structure CSound (prog : Program) (w : World) (base : Heap) (mg : Str → Option Value) (cf : CF) (A : Around) : Prop where
  call : ∀ f ds d fr, cf.call f ds = some (d, fr) → ∃ a o fd, mg (Str.ofString f) = some (.ref a) ∧ gat base a = some o ∧ o.data = .func fd ∧
    ∀ A', Near A A' → ∀ (s : Shared) (H : Addr → Prop) (vs : List Value) (E : Value → Shared → Prop), HOk base s.heap H → RepAll w.params s.heap H vs ds →
      wpAny (model prog w) A' (PySem.call (.ref a) vs) (PostF w s H d fr) E s
  glob : ∀ x d, cf.glob x = some d → ∃ v, mg (Str.ofString x) = some v ∧ Rep w.params base (fun _ => False) v d

/-- calls, at one place alone -/
noncomputable def CS0 (prog : Program) (w : World) (base : Heap) (mg : Str → Option Value) (cf : CF) (A : Around) : Prop := ∀ f ds d fr, cf.call f ds = some (d, fr) → ∃ a o fd, mg (Str.ofString f) = some (.ref a) ∧ gat base a = some o ∧ o.data = .func fd ∧
    ∀ (s : Shared) (H : Addr → Prop) (vs : List Value) (E : Value → Shared → Prop), HOk base s.heap H → RepAll w.params s.heap H vs ds →
      wpAny (model prog w) A (PySem.call (.ref a) vs) (PostF w s H d fr) E s
theorem CSound.at {prog : Program} {w : World} {base : Heap} {mg : Str → Option Value} {cf : CF} {A A' : Around} (C : CSound prog w base mg cf A) (hN : Near A A') : CS0 prog w base mg cf A' :=
  fun f ds d fr h => let ⟨a, o, fd, h1, h2, h3, h4⟩ := C.call f ds d fr h; ⟨a, o, fd, h1, h2, h3, h4 A' hN⟩
/-- what is known of the variables that are read -/
noncomputable def NV (P : Params) (k : KD) (ns : List String) (ρ : List (String × D)) (m : Str → Option Value) (h : Heap) (H : Addr → Prop) : Prop :=
  ∀ x ∈ ns, isVar k (Str.ofString x) = true → ∀ d, ρ.lookup x = some d → ∃ v, m (Str.ofString x) = some v ∧ Rep P h H v d
theorem NV.sub {P : Params} {k : KD} {ns ns' : List String} {ρ : List (String × D)} {m : Str → Option Value} {h : Heap} {H : Addr → Prop} (n : NV P k ns ρ m h H) (hs : ∀ x ∈ ns', x ∈ ns) : NV P k ns' ρ m h H :=
  fun x hx => n x (hs x hx)
theorem NV.keeps {P : Params} {k : KD} {ns : List String} {ρ : List (String × D)} {m : Str → Option Value} {h h' : Heap} {H : Addr → Prop} (n : NV P k ns ρ m h H) (hk : KH h h') : NV P k ns ρ m h' H :=
  fun x hx hv d hd => let ⟨v, h1, h2⟩ := n x hx hv d hd; ⟨v, h1, h2.keeps hk⟩

section
variable {prog : Program} {w : World} {A : Around} {s : Shared} {base : Heap} {mg mb : Str → Option Value} {cf : CF}

/-- a run of an expression is sound -/
noncomputable def SE (prog : Program) (w : World) (A : Around) (base : Heap) (cf : CF) (me : ME) : Prop :=
  ∀ (s : Shared) (env : Env) (e : Expr) (H : Addr → Prop) (ρ : List (String × D)) (m : Str → Option Value) (d : D) (E : Value → Shared → Prop), chkE env.kindOf e me = true → EnvRep s.heap env m →
    HOk base s.heap H → NV w.params env.kindOf me.names ρ m s.heap H → evE cf ρ me = some d → wpAny (model prog w) A (eval e env) (Post w s H d) E s
noncomputable def SEs (prog : Program) (w : World) (A : Around) (base : Heap) (cf : CF) (ms : List ME) : Prop :=
  ∀ (s : Shared) (env : Env) (es : List Expr) (H : Addr → Prop) (ρ : List (String × D)) (m : Str → Option Value) (ds : List D) (E : Value → Shared → Prop), chkEs env.kindOf es ms = true → EnvRep s.heap env m →
    HOk base s.heap H → NV w.params env.kindOf (namesL ms) ρ m s.heap H → evEs cf ρ ms = some ds →
    wpAny (model prog w) A (spliced (es.map fun e => (false, eval e env))) (fun vs s' => Keeps s s' ∧ RepAll w.params s'.heap H vs ds) E s
noncomputable def ST (prog : Program) (w : World) (A : Around) (base : Heap) (cf : CF) (me : ME) : Prop :=
  ∀ (s : Shared) (env : Env) (e : Expr) (H : Addr → Prop) (ρ : List (String × D)) (m : Str → Option Value) (d : D) (t : Bool) (E : Value → Shared → Prop), chkE env.kindOf e me = true → EnvRep s.heap env m →
    HOk base s.heap H → NV w.params env.kindOf me.names ρ m s.heap H → evE cf ρ me = some d → truth d = some t →
    wpAny (model prog w) A (isTrue e env (eval e env)) (fun b s' => Keeps s s' ∧ b = t) E s
noncomputable def SB (prog : Program) (w : World) (A : Around) (base : Heap) (cf : CF) (ms : List ME) : Prop :=
  ∀ (s : Shared) (env : Env) (es : List Expr) (op : BoolOp) (pos : Pos) (H : Addr → Prop) (ρ : List (String × D)) (m : Str → Option Value) (d : D) (E : Value → Shared → Prop), chkEs env.kindOf es ms = true → EnvRep s.heap env m →
    HOk base s.heap H → NV w.params env.kindOf (namesL ms) ρ m s.heap H → evBop cf ρ op ms = some d →
    wpAny (model prog w) A (eval (.BoolOp op es pos) env) (Post w s H d) E s ∧ ∀ t whole, truth d = some t → wpAny (model prog w) A (isTrue (.BoolOp op es pos) env whole) (fun b s' => Keeps s s' ∧ b = t) E s
noncomputable def SC (prog : Program) (w : World) (A : Around) (base : Heap) (cf : CF) (ms : List ME) : Prop :=
  ∀ (s : Shared) (env : Env) (es : List Expr) (H : Addr → Prop) (ρ : List (String × D)) (m : Str → Option Value) (t : Bool) (E : Value → Shared → Prop), chkEs env.kindOf es ms = true → EnvRep s.heap env m →
    HOk base s.heap H → NV w.params env.kindOf (namesL ms) ρ m s.heap H → evCs cf ρ ms = some t →
    wpAny (model prog w) A (forIn es true fun c r => if r = true then do let ok ← isTrue c env (eval c env); pure (ForInStep.yield ok) else pure (ForInStep.yield r)) (fun b s' => Keeps s s' ∧ b = t) E s

/-! leaves -/
theorem se_var (x : String) : SE prog w A base cf (.var x) := by
  intro s env e H ρ m d E hc R hb hn he
  replace hc := inv_var hc; obtain ⟨_, _, rfl, hc⟩ := hc
  · simp only [Bool.and_eq_true, beq_iff_eq] at hc
    obtain ⟨rfl, hv⟩ := hc
    simp only [ev_var, ev_glob, ev_int, ev_str, ev_bool, ev_none, ev_bin, ev_cmp, ev_bop, ev_not, ev_neg, ev_tup, ev_lst, ev_dct, ev_sub, ev_sl, ev_comp, ev_call, ev_isi, ev_blt, ev_lcp] at he
    obtain ⟨v, h1, h2⟩ := hn x (by simp [nm_var, nm_lcp]) hv d he
    exact load_snd R hv h1 ⟨Kp.refl _, h2⟩
theorem se_glob (G : GOk mg mb base) (C : CSound prog w base mg cf A) (x : String) : SE prog w A base cf (.glob x) := by
  intro s env e H ρ m d E hc R hb hn he
  replace hc := inv_glob hc; obtain ⟨_, _, rfl, hc⟩ := hc
  · simp only [Bool.and_eq_true, beq_iff_eq, isGlob, bne_iff_ne] at hc
    obtain ⟨rfl, hv, hd⟩ := hc
    simp only [ev_var, ev_glob, ev_int, ev_str, ev_bool, ev_none, ev_bin, ev_cmp, ev_bop, ev_not, ev_neg, ev_tup, ev_lst, ev_dct, ev_sub, ev_sl, ev_comp, ev_call, ev_isi, ev_blt, ev_lcp] at he
    obtain ⟨v, h1, h2⟩ := C.glob x d he
    refine Calls.Name_function_global R.kind hv (Calls.loadGlobal_global (mg := mg) (by rw [R.glob]; exact Ns.keepAt G.g (hb.keep _)) h1 ⟨Kp.refl _, ?_⟩) (by simpa using hd)
    exact h2.mono (fun a o _ e => hb.keep a o e) fun a o e q => absurd q (hb.off a o e)
theorem se_int (i : Int) : SE prog w A base cf (.int i) := by
  intro s env e H ρ m d E hc R hb hn he
  replace hc := inv_int hc; obtain ⟨_, _, rfl⟩ := hc
  · simp only [ev_var, ev_glob, ev_int, ev_str, ev_bool, ev_none, ev_bin, ev_cmp, ev_bop, ev_not, ev_neg, ev_tup, ev_lst, ev_dct, ev_sub, ev_sl, ev_comp, ev_call, ev_isi, ev_blt, ev_lcp] at he; cases he
    exact wpAny_Constant_int ⟨Kp.tok _ _, .int _ _⟩
theorem se_str (x : String) : SE prog w A base cf (.str x) := by
  intro s env e H ρ m d E hc R hb hn he
  replace hc := inv_str hc; obtain ⟨_, _, rfl⟩ := hc
  · simp only [ev_var, ev_glob, ev_int, ev_str, ev_bool, ev_none, ev_bin, ev_cmp, ev_bop, ev_not, ev_neg, ev_tup, ev_lst, ev_dct, ev_sub, ev_sl, ev_comp, ev_call, ev_isi, ev_blt, ev_lcp] at he; cases he
    exact Calls.Constant_str ⟨Kp.tok _ _, .str _ _⟩
theorem se_bool (b : Bool) : SE prog w A base cf (.bool b) := by
  intro s env e H ρ m d E hc R hb hn he
  replace hc := inv_bool hc; obtain ⟨_, _, rfl⟩ := hc
  · simp only [ev_var, ev_glob, ev_int, ev_str, ev_bool, ev_none, ev_bin, ev_cmp, ev_bop, ev_not, ev_neg, ev_tup, ev_lst, ev_dct, ev_sub, ev_sl, ev_comp, ev_call, ev_isi, ev_blt, ev_lcp] at he; cases he
    exact PyProof.Rows.Constant_bool ⟨Kp.refl _, .bool _⟩
theorem se_none : SE prog w A base cf .none := by
  intro s env e H ρ m d E hc R hb hn he
  replace hc := inv_none hc; obtain ⟨_, _, rfl⟩ := hc
  · simp only [ev_var, ev_glob, ev_int, ev_str, ev_bool, ev_none, ev_bin, ev_cmp, ev_bop, ev_not, ev_neg, ev_tup, ev_lst, ev_dct, ev_sub, ev_sl, ev_comp, ev_call, ev_isi, ev_blt, ev_lcp] at he; cases he
    exact PyProof.Rows.Constant_none ⟨Kp.refl _, .none⟩

theorem spliced_ok {es : List Expr} {ms : List ME} {k : KD} (hc : chkEs k es ms = true) (env : Env) : starEach es env = es.map fun e => (false, eval e env) := by
  induction ms generalizing es with
  | nil => cases es with
    | nil => rfl
    | cons _ _ => simp [cs_nil, cs_cons, cs_consn] at hc
  | cons a r ih => cases es with
    | nil => simp [cs_nil, cs_cons, cs_consn] at hc
    | cons e es' =>
      simp only [cs_nil, cs_cons, cs_consn, Bool.and_eq_true] at hc
      have he : ∀ x p, e ≠ .Starred x p := by
        rintro x p rfl
        have := chk_shape hc.1
        cases a <;> cases this
      have : starEach (e :: es') env = (false, eval e env) :: starEach es' env := by
        cases e <;> first | rfl | exact absurd rfl (he _ _)
      rw [this, ih hc.2]; rfl
theorem backTo_ok (pos : Pos) (es : List Expr) (env : Env) : backTo pos (es.map fun e => (false, eval e env)) = es.map fun e => (false, eval e env) := by
  unfold backTo
  rw [List.map_map]
  rfl

/-! nodes -/
noncomputable def SF (prog : Program) (w : World) (A : Around) (base : Heap) (cf : CF) (me : ME) : Prop :=
  ∀ (s : Shared) (env : Env) (e : Expr) (H : Addr → Prop) (ρ : List (String × D)) (m : Str → Option Value) (d : D) (fr : Bool) (E : Value → Shared → Prop), chkE env.kindOf e me = true → EnvRep s.heap env m →
    HOk base s.heap H → NV w.params env.kindOf me.names ρ m s.heap H → evF cf ρ me = some (d, fr) → wpAny (model prog w) A (eval e env) (PostF w s H d fr) E s
theorem sf_bin {op : Operator} {a b : ME} (ha : SE prog w A base cf a) (hb : SE prog w A base cf b) : SF prog w A base cf (.bin op a b) := by
  intro s env e H ρ m d fr E hc R hw hn he
  replace hc := inv_bin hc; obtain ⟨_, _, _, _, rfl, hc⟩ := hc
  · simp only [Bool.and_eq_true, beq_iff_eq] at hc
    obtain ⟨⟨rfl, h1⟩, h2⟩ := hc
    simp only [evF_bin, ev_var, ev_glob, ev_int, ev_str, ev_bool, ev_none, ev_bin, ev_cmp, ev_bop, ev_not, ev_neg, ev_tup, ev_lst, ev_dct, ev_sub, ev_sl, ev_comp, ev_call, ev_isi, ev_blt, ev_lcp, Option.map_eq_some_iff] at he
    obtain ⟨d', he, e'⟩ := he
    cases e'
    split at he
    · rename_i x hx
      split at he
      · rename_i y hy
        refine wpAny_BinOp (wpAny_mono (ha s env _ H ρ m x E h1 R hw (hn.sub fun _ hx => List.mem_append_left _ hx) hx) (fun v s₁ q₁ => ?_) fun _ _ e => e)
        refine wpAny_mono (hb s₁ env _ H ρ m y E h2 (R.keeps (Kp.heap q₁.1)) (hw.keeps (Kp.heap q₁.1)) ((hn.keeps (Kp.heap q₁.1)).sub fun _ hx => List.mem_append_right _ hx) hy) (fun v₂ s₂ q₂ => ?_) fun _ _ e => e
        exact wpAny_mono (bin_snd (q₁.2.keeps (Kp.heap q₂.1)) q₂.2 ((hw.keeps (Kp.heap q₁.1)).keeps (Kp.heap q₂.1)).ex he) (fun v₃ s₃ q₃ => q₃.after (Kp.trans q₁.1 q₂.1)) fun _ _ e => e
      · cases he
    · cases he

theorem se_cmp {op : CmpOp} {a b : ME} (hu : A.units + 1 < cLine) (ha : SE prog w A base cf a) (hb : SE prog w A base cf b) : SE prog w A base cf (.cmp op a b) := by
  intro s env e H ρ m d E hc R hw hn he
  replace hc := inv_cmp hc; obtain ⟨_, _, _, rfl, hc⟩ := hc
  · simp only [Bool.and_eq_true, beq_iff_eq] at hc
    obtain ⟨⟨hs, h1⟩, h2⟩ := hc
    simp only [ev_var, ev_glob, ev_int, ev_str, ev_bool, ev_none, ev_bin, ev_cmp, ev_bop, ev_not, ev_neg, ev_tup, ev_lst, ev_dct, ev_sub, ev_sl, ev_comp, ev_call, ev_isi, ev_blt, ev_lcp] at he
    split at he
    · rename_i x hx
      split at he
      · rename_i y hy
        refine wpAny_Compare1 (wpAny_mono (ha s env _ H ρ m x E h1 R hw (hn.sub fun _ hx => List.mem_append_left _ hx) hx) (fun v s₁ q₁ => ?_) fun _ _ e => e) (notSet_marks hs)
        refine wpAny_mono (hb s₁ env _ H ρ m y E h2 (R.keeps (Kp.heap q₁.1)) (hw.keeps (Kp.heap q₁.1)) ((hn.keeps (Kp.heap q₁.1)).sub fun _ hx => List.mem_append_right _ hx) hy) (fun v₂ s₂ q₂ => ?_) fun _ _ e => e
        refine wpAny_mono (cmp_snd (q₁.2.keeps (Kp.heap q₂.1)) q₂.2 hu he) (fun v₃ s₃ q₃ => ⟨Kp.trans (Kp.trans q₁.1 q₂.1) q₃.1, q₃.2⟩) fun _ _ e => e
      · cases he
    · cases he
theorem st_cmp {op : CmpOp} {a b : ME} (hu : A.units + 1 < cLine) (ha : SE prog w A base cf a) (hb : SE prog w A base cf b) : ST prog w A base cf (.cmp op a b) := by
  intro s env e H ρ m d t E hc R hw hn he ht
  replace hc := inv_cmp hc; obtain ⟨_, _, _, rfl, hc⟩ := hc
  · simp only [Bool.and_eq_true, beq_iff_eq] at hc
    obtain ⟨⟨hs, h1⟩, h2⟩ := hc
    simp only [ev_var, ev_glob, ev_int, ev_str, ev_bool, ev_none, ev_bin, ev_cmp, ev_bop, ev_not, ev_neg, ev_tup, ev_lst, ev_dct, ev_sub, ev_sl, ev_comp, ev_call, ev_isi, ev_blt, ev_lcp] at he
    split at he
    · rename_i x hx
      split at he
      · rename_i y hy
        refine wpAny_isTrue_Compare1 (wpAny_mono (ha s env _ H ρ m x E h1 R hw (hn.sub fun _ hx => List.mem_append_left _ hx) hx) (fun v s₁ q₁ => ?_) fun _ _ e => e) (notSet_marks hs)
        refine wpAny_mono (hb s₁ env _ H ρ m y E h2 (R.keeps (Kp.heap q₁.1)) (hw.keeps (Kp.heap q₁.1)) ((hn.keeps (Kp.heap q₁.1)).sub fun _ hx => List.mem_append_right _ hx) hy) (fun v₂ s₂ q₂ => ?_) fun _ _ e => e
        refine wpAny_mono (cmp_snd (q₁.2.keeps (Kp.heap q₂.1)) q₂.2 hu he) (fun v₃ s₃ q₃ => ?_) fun _ _ e => e
        exact wpAny_mono (truth_snd q₃.2 ht) (fun b s₄ q₄ => ⟨Kp.trans (Kp.trans (Kp.trans q₁.1 q₂.1) q₃.1) q₄.1, q₄.2⟩) fun _ _ e => e
      · cases he
    · cases he
theorem se_not {a : ME} (ha : SE prog w A base cf a) : SE prog w A base cf (.not a) := by
  intro s env e H ρ m d E hc R hw hn he
  replace hc := inv_not hc; obtain ⟨_, _, rfl, hc⟩ := hc
  · simp only [ev_var, ev_glob, ev_int, ev_str, ev_bool, ev_none, ev_bin, ev_cmp, ev_bop, ev_not, ev_neg, ev_tup, ev_lst, ev_dct, ev_sub, ev_sl, ev_comp, ev_call, ev_isi, ev_blt, ev_lcp] at he
    split at he
    · rename_i x hx
      simp only [Option.map_eq_some_iff] at he
      obtain ⟨t, ht, rfl⟩ := he
      refine PyProof.Rows.UnaryOp_ (wpAny_mono (ha s env _ H ρ m x E hc R hw hn hx) (fun v s₁ q₁ => ?_) fun _ _ e => e)
      exact PyProof.Rows.not_of (wpAny_mono (truth_snd q₁.2 ht) (fun b s₂ q₂ => ⟨Kp.trans q₁.1 q₂.1, q₂.2 ▸ .bool _⟩) fun _ _ e => e)
    · cases he
theorem st_not {a : ME} (ha : ST prog w A base cf a) : ST prog w A base cf (.not a) := by
  intro s env e H ρ m d t E hc R hw hn he ht
  replace hc := inv_not hc; obtain ⟨_, _, rfl, hc⟩ := hc
  · simp only [ev_var, ev_glob, ev_int, ev_str, ev_bool, ev_none, ev_bin, ev_cmp, ev_bop, ev_not, ev_neg, ev_tup, ev_lst, ev_dct, ev_sub, ev_sl, ev_comp, ev_call, ev_isi, ev_blt, ev_lcp] at he
    split at he
    · rename_i x hx
      simp only [Option.map_eq_some_iff] at he
      obtain ⟨t', ht', rfl⟩ := he
      cases ht
      exact PyProof.Rows.isTrue_not (wpAny_mono (ha s env _ H ρ m x t' E hc R hw hn hx ht') (fun b s₂ q₂ => ⟨q₂.1, by rw [q₂.2]⟩) fun _ _ e => e)
    · cases he
theorem se_neg {a : ME} (ha : SE prog w A base cf a) : SE prog w A base cf (.neg a) := by
  intro s env e H ρ m d E hc R hw hn he
  replace hc := inv_neg hc; obtain ⟨_, _, rfl, hc⟩ := hc
  · simp only [ev_var, ev_glob, ev_int, ev_str, ev_bool, ev_none, ev_bin, ev_cmp, ev_bop, ev_not, ev_neg, ev_tup, ev_lst, ev_dct, ev_sub, ev_sl, ev_comp, ev_call, ev_isi, ev_blt, ev_lcp] at he
    split at he
    · rename_i i hx
      cases he
      refine PyProof.Rows.UnaryOp_ (wpAny_mono (ha s env _ H ρ m _ E hc R hw hn hx) (fun v s₁ q₁ => ?_) fun _ _ e => e)
      obtain ⟨k, r⟩ := q₁
      cases r
      exact PyProof.Rows.neg_int ⟨Kp.trans k (Kp.tok _ _), .int _ _⟩
    · cases he
theorem ses_nil : SEs prog w A base cf [] := by
  intro s env es H ρ m ds E hc R hw hn he
  cases es with
  | nil => simp only [evs_nil, evs_cons] at he; cases he; exact Calls.spliced_nil ⟨Kp.refl _, .nil⟩
  | cons _ _ => simp [cs_nil, cs_cons, cs_consn] at hc
theorem ses_cons {a : ME} {r : List ME} (ha : SE prog w A base cf a) (hr : SEs prog w A base cf r) : SEs prog w A base cf (a :: r) := by
  intro s env es H ρ m ds E hc R hw hn he
  cases es with
  | nil => simp [cs_nil, cs_cons, cs_consn] at hc
  | cons e es' =>
    simp only [cs_nil, cs_cons, cs_consn, Bool.and_eq_true] at hc
    simp only [evs_nil, evs_cons] at he
    split at he
    · rename_i x hx
      split at he
      · rename_i xs hxs
        cases he
        refine Calls.spliced_cons (wpAny_mono (ha s env _ H ρ m x E hc.1 R hw (hn.sub fun _ hx => List.mem_append_left _ hx) hx) (fun v s₁ q₁ => ?_) fun _ _ e => e)
        refine wpAny_mono (hr s₁ env _ H ρ m xs E hc.2 (R.keeps (Kp.heap q₁.1)) (hw.keeps (Kp.heap q₁.1)) ((hn.keeps (Kp.heap q₁.1)).sub fun _ hx => List.mem_append_right _ hx) hxs) (fun vs s₂ q₂ => ?_) fun _ _ e => e
        exact ⟨Kp.trans q₁.1 q₂.1, .cons (q₁.2.keeps (Kp.heap q₂.1)) q₂.2⟩
      · cases he
    · cases he
theorem se_tup {ms : List ME} (hr : SEs prog w A base cf ms) : SE prog w A base cf (.tup ms) := by
  intro s env e H ρ m d E hc R hw hn he
  replace hc := inv_tup hc; obtain ⟨_, _, _, rfl, hc⟩ := hc
  · simp only [ev_var, ev_glob, ev_int, ev_str, ev_bool, ev_none, ev_bin, ev_cmp, ev_bop, ev_not, ev_neg, ev_tup, ev_lst, ev_dct, ev_sub, ev_sl, ev_comp, ev_call, ev_isi, ev_blt, ev_lcp] at he
    split at he
    · rename_i ds hds
      split at he
      · rename_i hl; cases he
        refine PyProof.Rows.Tuple_ ?_
        rw [spliced_ok hc, backTo_ok]
        refine wpAny_mono (hr s env _ H ρ m ds E hc R hw hn hds) (fun vs s₁ q₁ => ?_) fun _ _ e => e
        have e := q₁.2.length
        refine wpAny_newObj_type ⟨Kp.trans q₁.1 (Kp.push _ _), ?_⟩ (by show vs.toArray.size ≤ sizeLine; rw [List.size_toArray, e]; exact hl)
        exact rep_newTup (hw.keeps (Kp.heap q₁.1)).ex hl (by simpa using q₁.2)
      · cases he
    · cases he
/-- a new list -/
theorem sf_lst {ms : List ME} (hr : SEs prog w A base cf ms) : SF prog w A base cf (.lst ms) := by
  intro s env e H ρ m d fr E hc R hw hn he
  replace hc := inv_lst hc; obtain ⟨_, _, rfl, hc⟩ := hc
  · simp only [evF_lst, ev_var, ev_glob, ev_int, ev_str, ev_bool, ev_none, ev_bin, ev_cmp, ev_bop, ev_not, ev_neg, ev_tup, ev_lst, ev_dct, ev_sub, ev_sl, ev_comp, ev_call, ev_isi, ev_blt, ev_lcp, Option.map_eq_some_iff] at he
    obtain ⟨d', he, e'⟩ := he
    cases e'
    split at he
    · rename_i ds hds
      split at he
      · rename_i hl; cases he
        refine PyProof.Rows.List_ ?_
        rw [spliced_ok hc, backTo_ok]
        refine wpAny_mono (hr s env _ H ρ m ds E hc R hw hn hds) (fun vs s₁ q₁ => ?_) fun _ _ e => e
        have e := q₁.2.length
        have hx := (hw.keeps (Kp.heap q₁.1)).ex
        have own : OwnL w.params (s₁.heap.push (lstO vs.toArray 0)) H s₁.heap.objs.size ds := by
          refine ⟨vs.toArray, 0, Heap.get?_push_size _ rfl, hl, ?_⟩
          have r : RepAll w.params s₁.heap H vs.toArray.toList ds := by simpa using q₁.2
          exact r.mono (fun _ _ _ e => Heap.gt_push_of_some _ e) fun a o e q => q.elim id fun q => absurd (Heap.gt_lt e) (q ▸ Nat.lt_irrefl _)
        refine wpAny_newObj_type ⟨Kp.trans q₁.1 (Kp.push _ _), own.rep hx.fresh, fun _ => ⟨_, rfl, ?_, own⟩⟩ (by show vs.toArray.size ≤ sizeLine; rw [List.size_toArray, e]; exact hl)
        cases q : gat s.heap s₁.heap.objs.size with
        | none => rfl
        | some o => exact absurd (Heap.gt_lt (Kp.heap q₁.1 _ _ q)) (Nat.lt_irrefl _)
      · cases he
    · cases he
end
end Mine
namespace Mine
open PySem PySem.SeqAt

section
variable {prog : Program} {w : World} {A : Around} {s : Shared} {base : Heap} {mg mb : Str → Option Value} {cf : CF}

theorem se_of_sf {me : ME} (h : SF prog w A base cf me) (hf : ∀ ρ d, evE cf ρ me = some d → ∃ fr, evF cf ρ me = some (d, fr)) : SE prog w A base cf me := by
  intro s env e H ρ m d E hc R hw hn he
  obtain ⟨fr, hfr⟩ := hf ρ d he
  exact wpAny_mono (h s env e H ρ m d fr E hc R hw hn hfr) (fun _ _ q => ⟨q.1, q.2.1⟩) fun _ _ e => e

theorem subscripted_plain {sl : Expr} {o i : Value} (h : ∀ a b c d, sl ≠ .Slice a b c d) : subscripted sl false o i = operate [o, i] (getItem o i) := by
  cases sl <;> first | rfl | exact absurd rfl (h _ _ _ _)

theorem se_sub {a b : ME} (hu : A.units + 1 < cLine) (ha : SE prog w A base cf a) (hb : SE prog w A base cf b) : SE prog w A base cf (.sub a b) := by
  intro s env e H ρ m d E hc R hw hn he
  replace hc := inv_sub hc; obtain ⟨v, sl, pos, rfl, hns, hc⟩ := hc
  · skip
    simp only [Bool.and_eq_true] at hc
    simp only [ev_var, ev_glob, ev_int, ev_str, ev_bool, ev_none, ev_bin, ev_cmp, ev_bop, ev_not, ev_neg, ev_tup, ev_lst, ev_dct, ev_sub, ev_sl, ev_comp, ev_call, ev_isi, ev_blt, ev_lcp] at he
    split at he
    · rename_i x hx
      split at he
      · rename_i y hy
        refine PyProof.Rows.Subscript_ (wpAny_mono (ha s env _ H ρ m x E hc.1 R hw (hn.sub fun _ hx => List.mem_append_left _ hx) hx) (fun v s₁ q₁ => ?_) fun _ _ e => e)
        refine wpAny_mono (hb s₁ env _ H ρ m y E hc.2 (R.keeps (Kp.heap q₁.1)) (hw.keeps (Kp.heap q₁.1)) ((hn.keeps (Kp.heap q₁.1)).sub fun _ hx => List.mem_append_right _ hx) hy) (fun v₂ s₂ q₂ => ?_) fun _ _ e => e
        obtain ⟨g, T, id, hT, hl⟩ := getItem_snd hu (prog := prog) (w := w) (A := A) (E := E) (q₁.2.keeps (Kp.heap q₂.1)) q₂.2 he
        refine PyProof.Rows.tail_any hT hl (wpAny_mono g (fun v₃ s₃ q₃ => ⟨Kp.trans (Kp.trans q₁.1 q₂.1) q₃.1, q₃.2⟩) fun _ _ e => e) (subscripted_plain fun a b c d q => ?_)
        exact hns a b c d q
      · cases he
    · cases he

/-- a bound of a slice -/
theorem part_snd {a : ME} (ha : SE prog w A base cf a) {s : Shared} {env : Env} {l : Option Expr} {H : Addr → Prop} {ρ : List (String × D)} {m : Str → Option Value} {d : D} {E : Value → Shared → Prop}
    (hc : (match l with | Option.none => a.isNone | some x => chkE env.kindOf x a) = true) (R : EnvRep s.heap env m) (hw : HOk base s.heap H) (hn : NV w.params env.kindOf a.names ρ m s.heap H) (he : evE cf ρ a = some d) :
    wpAny (model prog w) A (evalPart l env) (Post w s H d) E s := by
  cases l with
  | none =>
    have : a = .none := by cases a <;> first | rfl | (cases hc)
    subst this
    simp only [ev_var, ev_glob, ev_int, ev_str, ev_bool, ev_none, ev_bin, ev_cmp, ev_bop, ev_not, ev_neg, ev_tup, ev_lst, ev_dct, ev_sub, ev_sl, ev_comp, ev_call, ev_isi, ev_blt, ev_lcp] at he; cases he
    rw [evalPart_none]
    exact wpAny_pure ⟨Kp.refl _, .none⟩
  | some x => exact ha s env x H ρ m d E hc R hw hn he

theorem part_str {P : Params} {h : Heap} {H : Addr → Prop} {v : Value} {d : D} {a : Option Int} (r : Rep P h H v d) (ha : bndS d = some a) : ∃ l : Option (Int × Tok), v = partValue l ∧ l.map (·.1) = a := by
  cases r <;> simp only [bndS] at ha <;> cases ha
  · exact ⟨none, rfl, rfl⟩
  · exact ⟨some (_, _), rfl, rfl⟩
theorem sl_str {x : Str} {t : Tok} {vl vu : Value} {lo hi d : D} {H : Addr → Prop} {E : Value → Shared → Prop} (rl : Rep w.params s.heap H vl lo) (ru : Rep w.params s.heap H vu hi) (he : slD (.str x) lo hi = some d) {a : Addr}
    (ho : s.heap.get? a = some { cls := .type "slice", data := .fields #[vl, vu, .none] }) : wpAny (model prog w) A (getItem (.str x t) (.ref a)) (PostF w s H d d.isList) E s := by
  simp only [slD] at he
  split at he
  · rename_i hsz
    rw [Option.bind_eq_some_iff] at he
    obtain ⟨a', h1, he⟩ := he
    rw [Option.map_eq_some_iff] at he
    obtain ⟨b', h2, rfl⟩ := he
    obtain ⟨l, rfl, rfl⟩ := part_str rl h1
    obtain ⟨u, rfl, rfl⟩ := part_str ru h2
    exact wpAny_getItem_str_slice (st := none) ⟨_, ho, rfl, rfl⟩ rfl (post_val_or_str ⟨Nat.le_trans (Txt.slice_le _ _ _) hsz, fun t' k => ⟨Kp.tok _ _, .str _ _, fun e => nomatch e⟩⟩)
  · cases he
theorem slice_snd {v : Value} {x : D} {vl vu : Value} {lo hi d : D} {H : Addr → Prop} {E : Value → Shared → Prop} (hH : Ex s.heap H) (rx : Rep w.params s.heap H v x) (rl : Rep w.params s.heap H vl lo) (ru : Rep w.params s.heap H vu hi) (he : slD x lo hi = some d) {a : Addr}
    (ho : s.heap.get? a = some { cls := .type "slice", data := .fields #[vl, vu, .none] }) : wpAny (model prog w) A (getItem v (.ref a)) (PostF w s H d d.isList) E s ∧ ∃ T id, s.TypeIs v T ∧ typeLookup (.type T) "__getitem__" = pure (some (.builtin id)) := by
  cases x <;> first | (cases he; done) | skip
  · skip
    cases rx
    exact ⟨sl_str rl ru he ho, "str", _, typeIs_str _ _ _, F.slot_str_getitem.lookup⟩
theorem sf_sl {a lo hi : ME} (ha : SE prog w A base cf a) (hl : SE prog w A base cf lo) (hh : SE prog w A base cf hi) : SF prog w A base cf (.sl a lo hi) := by
  intro s env e H ρ m d fr E hc R hw hn he
  replace hc := inv_sl hc; obtain ⟨_, _, _, _, _, rfl, hc⟩ := hc
  · rename_i v l u p pos
    simp only [Bool.and_eq_true] at hc
    obtain ⟨⟨h1, h2⟩, h3⟩ := hc
    simp only [evF_sl, ev_var, ev_glob, ev_int, ev_str, ev_bool, ev_none, ev_bin, ev_cmp, ev_bop, ev_not, ev_neg, ev_tup, ev_lst, ev_dct, ev_sub, ev_sl, ev_comp, ev_call, ev_isi, ev_blt, ev_lcp, Option.map_eq_some_iff] at he
    obtain ⟨d', he, e'⟩ := he
    cases e'
    split at he
    · rename_i x hx
      split at he
      · rename_i y hy
        split at he
        · rename_i z hz
          refine PyProof.Rows.Subscript_ (wpAny_mono (ha s env _ H ρ m x E h1 R hw (hn.sub fun _ hx => List.mem_append_left _ (List.mem_append_left _ hx)) hx) (fun v s₁ q₁ => ?_) fun _ _ e => e)
          refine wpAny_Slice ?_
          refine wpAny_mono (part_snd hl h2 (R.keeps (Kp.heap q₁.1)) (hw.keeps (Kp.heap q₁.1)) ((hn.keeps (Kp.heap q₁.1)).sub fun _ hx => List.mem_append_left _ (List.mem_append_right _ hx)) hy) (fun vl s₂ q₂ => ?_) fun _ _ e => e
          have k2 := Kp.trans q₁.1 q₂.1
          refine wpAny_mono (part_snd hh h3 (R.keeps (Kp.heap k2)) (hw.keeps (Kp.heap k2)) ((hn.keeps (Kp.heap k2)).sub fun _ hx => List.mem_append_right _ hx) hz) (fun vu s₃ q₃ => ?_) fun _ _ e => e
          rw [evalPart_none]
          refine wpAny_pure ?_
          have k3 := Kp.trans k2 q₃.1
          have kp := Kp.push s₃ { cls := .type "slice", data := .fields #[vl, vu, .none] }
          have rx := (q₁.2.keeps (Kp.heap (Kp.trans q₂.1 q₃.1))).keeps (Kp.heap kp)
          have rl := (q₂.2.keeps (Kp.heap q₃.1)).keeps (Kp.heap kp)
          have ru := q₃.2.keeps (Kp.heap kp)
          have hex := ((hw.keeps (Kp.heap k3)).keeps (Kp.heap kp)).ex
          have ho := Heap.get?_push_size s₃.heap (o := { cls := .type "slice", data := .fields #[vl, vu, .none] }) rfl
          obtain ⟨g1, T, id, g2, g3⟩ := slice_snd (prog := prog) (A := A) (E := E) (s := { s₃ with heap := s₃.heap.push { cls := .type "slice", data := .fields #[vl, vu, .none] } }) hex rx rl ru he ho
          exact PyProof.Rows.tail_any (ops := [_, _]) g2 g3 (wpAny_mono g1 (fun _ _ q => q.after (Kp.trans k3 kp)) fun _ _ e => e) rfl
        · cases he
      · cases he
    · cases he
end
end Mine
namespace Mine
open PySem PySem.SeqAt

section
variable {prog : Program} {w : World} {A : Around} {s : Shared} {base : Heap} {mg mb : Str → Option Value} {cf : CF}

theorem evalArgs_snd {f : Value} {es : List Expr} {ms : List ME} {env : Env} {pos : Pos} {Q : Args → Shared → Prop} {E : Value → Shared → Prop} (hc : chkEs env.kindOf es ms = true)
    (h : wpAny (model prog w) A (spliced (es.map fun e => (false, eval e env))) (fun vs s' => Q ⟨vs, []⟩ s') E s) :
    wpAny (model prog w) A (evalArgs f true (backTo pos (starEach es env)) []) Q E s := by
  rw [spliced_ok hc, backTo_ok]
  cases es with
  | nil =>
    unfold evalArgs
    show wpAny _ A (spliced [] >>= _) Q E s
    refine wpAny_bind (wpAny_mono h (fun vs s' h' => ?_) fun _ _ x => x)
    refine wpAny_bind (wpAny_pure ?_)
    refine wpAny_holding ?_
    exact wpAny_bind (wpAny_pure (wpAny_bind (wpAny_pure (wpAny_pure h'))))
  | cons e es => exact Calls.evalArgs_plain h

theorem any_false (es : List Expr) (env : Env) : ((es.map fun e => (false, eval e env)).any (·.1)) = false := by
  induction es with
  | nil => rfl
  | cons _ _ ih => simpa using ih

theorem sf_call (G : GOk mg mb base) (C : CS0 prog w base mg cf A) {f : String} {ms : List ME} (hr : SEs prog w A base cf ms) : SF prog w A base cf (.call f ms) := by
  intro s env e H ρ m d fr E hc R hw hn he
  replace hc := inv_call hc; obtain ⟨_, _, _, _, rfl, hc⟩ := hc
  · rename_i g gp as pos
    simp only [Bool.and_eq_true, beq_iff_eq, isGlob, bne_iff_ne] at hc
    obtain ⟨⟨rfl, hk, hd⟩, hc⟩ := hc
    simp only [evF_call] at he
    split at he
    · rename_i ds hds
      obtain ⟨a, o, fd, h1, h2, h3, h4⟩ := C f ds d fr he
      refine PyProof.Rows.Call_Name rfl (Calls.Name_function_global R.kind hk (Calls.loadGlobal_global (mg := mg) (by rw [R.glob]; exact Ns.keepAt G.g (hw.keep _)) h1 ?_) (by simpa using hd))
      refine Calls.callWith_function (o := o) (fd := fd) (evalArgs_snd hc ?_)
      refine wpAny_mono (hr s env as H ρ m ds E hc R hw hn hds) (fun vs s₁ q₁ => ⟨⟨Heap.of_gt ((hw.keeps (Kp.heap q₁.1)).keep _ _ h2) (notTab_of (by rw [h3]; nofun)), h3⟩, ?_⟩) fun _ _ e => e
      refine wpAny_mono (h4 s₁ H vs E (hw.keeps (Kp.heap q₁.1)) q₁.2) (fun v s₂ q₂ => ⟨Kp.trans q₁.1 q₂.1, q₂.2.1, fun hf => ?_⟩) fun _ _ e => e
      obtain ⟨a', e1, e3, e4⟩ := q₂.2.2 hf
      refine ⟨a', e1, ?_, e4⟩
      cases q : gat s.heap a' with
      | none => rfl
      | some o' => rw [Kp.heap q₁.1 _ _ q] at e3; cases e3
    · cases he

theorem name_blt (G : GOk mg mb base) {env : Env} {m : Str → Option Value} {H : Addr → Prop} {f : String} {p : Pos} {E : Value → Shared → Prop} {Q : Value → Shared → Prop} (hf : f ∈ bltNames) (R : EnvRep s.heap env m) (hw : HOk base s.heap H)
    (hk : env.kindOf (Str.ofString f) = some .globalImplicit) (hd : Str.ofString f ≠ Str.ofString "__debug__") (h : Q (bltVal f) s) : wpAny (model prog w) A (eval (.Name (Str.ofString f) p) env) Q E s := by
  obtain ⟨h1, h2⟩ := G.blt f hf
  exact Calls.Name_function_global R.kind hk (Calls.loadGlobal_builtin (mg := mg) (mb := mb) (by rw [R.glob]; exact Ns.keepAt G.g (hw.keep _)) h1 (by rw [R.blt]; exact Ns.keepAt G.b (hw.keep _)) h2 h) (by simpa using hd)

theorem callWith_blt {f : String} {pos : Pos} {es : List Expr} {ms : List ME} {env : Env} {Q : Value → Shared → Prop} {E : Value → Shared → Prop} (hc : chkEs env.kindOf es ms = true)
    (h : wpAny (model prog w) A (spliced (es.map fun e => (false, eval e env))) (fun vs s' => wpAny (model prog w) A (call (bltVal f) vs) Q E s') E s) :
    wpAny (model prog w) A (callWith pos (bltVal f) [] (backTo pos (starEach es env)) []) Q E s := by
  have hp : (backTo pos (starEach es env)).any (·.1) = false := by rw [spliced_ok hc, backTo_ok]; exact any_false _ _
  have key : (∃ id, bltVal f = .builtin id) ∨ ∃ T, bltVal f = .type T := by
    unfold bltVal; split <;> first | exact .inl ⟨_, rfl⟩ | exact .inr ⟨_, rfl⟩
  rcases key with ⟨id, e⟩ | ⟨T, e⟩
  · rw [e] at h ⊢; exact Calls.callWith_builtin hp (evalArgs_snd hc h)
  · rw [e] at h ⊢; exact PyProof.Rows.callWith_type hp (evalArgs_snd hc h)

theorem se_blt (G : GOk mg mb base) (hh : A.handled = none) {f : String} {ms : List ME} (hf : f ∈ bltNames) (hr : SEs prog w A base cf ms) : SE prog w A base cf (.blt f ms) := by
  intro s env e H ρ m d E hc R hw hn he
  replace hc := inv_blt hc; obtain ⟨_, _, _, _, rfl, hc⟩ := hc
  · rename_i g gp as pos
    simp only [Bool.and_eq_true, beq_iff_eq, isGlob, bne_iff_ne] at hc
    obtain ⟨⟨rfl, hk, hd⟩, hc⟩ := hc
    simp only [ev_var, ev_glob, ev_int, ev_str, ev_bool, ev_none, ev_bin, ev_cmp, ev_bop, ev_not, ev_neg, ev_tup, ev_lst, ev_dct, ev_sub, ev_sl, ev_comp, ev_call, ev_isi, ev_blt, ev_lcp] at he
    split at he
    · rename_i ds hds
      refine PyProof.Rows.Call_Name rfl (name_blt G hf R hw hk hd (callWith_blt hc ?_))
      refine wpAny_mono (hr s env as H ρ m ds E hc R hw hn hds) (fun vs s₁ q₁ => ?_) fun _ _ e => e
      exact wpAny_mono (blt_snd hh q₁.2 (hw.keeps (Kp.heap q₁.1)).ex he) (fun v s₂ q₂ => ⟨Kp.trans q₁.1 q₂.1, q₂.2⟩) fun _ _ e => e
    · cases he
theorem sf_lcp (G : GOk mg mb base) (hh : A.handled = none) {a : ME} (hr : SEs prog w A base cf [a]) : SF prog w A base cf (.lcp a) := by
  intro s env e H ρ m d fr E hc R hw hn he
  replace hc := inv_lcp hc; obtain ⟨g, gp, x, pos, rfl, hc, hx⟩ := hc
  simp only [Bool.and_eq_true, beq_iff_eq, isGlob, bne_iff_ne] at hc
  obtain ⟨rfl, hk, hd⟩ := hc
  simp only [evF_lcp, ev_var, ev_glob, ev_int, ev_str, ev_bool, ev_none, ev_bin, ev_cmp, ev_bop, ev_not, ev_neg, ev_tup, ev_lst, ev_dct, ev_sub, ev_sl, ev_comp, ev_call, ev_isi, ev_blt, ev_lcp, Option.map_eq_some_iff] at he
  obtain ⟨d', he, e'⟩ := he
  cases e'
  split at he
  · rename_i dx hdx
    rw [Option.map_eq_some_iff] at he
    obtain ⟨ds, he, rfl⟩ := he
    have hc' : chkEs env.kindOf [x] [a] = true := by simp [cs_nil, cs_cons, cs_consn, hx]
    refine PyProof.Rows.Call_Name rfl (name_blt G (f := "list") (by decide) R hw hk hd (callWith_blt hc' ?_))
    refine wpAny_mono (hr s env [x] H ρ m [dx] E hc' R hw (hn.sub fun y hy => by simpa [nms_nil, nms_cons, nm_var, nm_lcp] using hy) (by simp [evs_nil, evs_cons, hdx])) (fun vs s₁ q₁ => ?_) fun _ _ e => e
    obtain ⟨k, r⟩ := q₁
    cases r with
    | cons r1 r2 =>
      cases r2
      exact wpAny_mono (lst_snd hh r1 (hw.keeps (Kp.heap k)).ex he) (fun v s₂ q₂ => q₂.after k) fun _ _ e => e
  · cases he

theorem se_isi (G : GOk mg mb base) {a : ME} {T : String} (ha : SE prog w A base cf a) : SE prog w A base cf (.isi a T) := by
  intro s env e H ρ m d E hc R hw hn he
  replace hc := inv_isi hc; obtain ⟨_, _, _, _, _, _, rfl, hc⟩ := hc
  · rename_i g gp x t tp pos
    simp only [Bool.and_eq_true, beq_iff_eq, isGlob, bne_iff_ne] at hc
    obtain ⟨⟨⟨⟨rfl, hk, hd⟩, rfl⟩, hk2, hd2⟩, hc⟩ := hc
    simp only [ev_var, ev_glob, ev_int, ev_str, ev_bool, ev_none, ev_bin, ev_cmp, ev_bop, ev_not, ev_neg, ev_tup, ev_lst, ev_dct, ev_sub, ev_sl, ev_comp, ev_call, ev_isi, ev_blt, ev_lcp] at he
    split at he
    · rename_i dx hdx
      simp only [Option.map_eq_some_iff] at he
      obtain ⟨b, hb, rfl⟩ := he
      have hT : T ∈ bltNames ∧ bltVal T = .type T := by
        unfold isiD at hb
        split at hb
        · rename_i h
          rcases h with rfl | rfl | rfl | rfl | rfl <;> exact ⟨by decide, rfl⟩
        · cases hb
      have hs : starEach [x, .Name (Str.ofString T) tp] env = [(false, eval x env), (false, eval (.Name (Str.ofString T) tp) env)] := by
        have := spliced_ok (es := [x]) (ms := [a]) (k := env.kindOf) (by simp [cs_nil, cs_cons, cs_consn, hc]) env
        have hx : ∀ y p, x ≠ .Starred y p := by
          rintro y p rfl
          simp [starEach] at this
        cases x <;> first | rfl | exact absurd rfl (hx _ _)
      refine PyProof.Rows.Call_Name (trees := [(false, eval x env), (false, eval (.Name (Str.ofString T) tp) env)]) (by rw [hs]; rfl) (name_blt G (f := "isinstance") (by decide) R hw hk hd ?_)
      refine Calls.callWith_builtin rfl (Calls.evalArgs_plain (Calls.spliced_cons ?_))
      refine wpAny_mono (ha s env x H ρ m dx E hc R hw hn hdx) (fun v s₁ q₁ => Calls.spliced_cons ?_) fun _ _ e => e
      refine name_blt G hT.1 (R.keeps (Kp.heap q₁.1)) (hw.keeps (Kp.heap q₁.1)) hk2 hd2 (Calls.spliced_nil ?_)
      rw [hT.2]
      exact wpAny_mono (isi_snd q₁.2 hb) (fun v s₂ q₂ => ⟨Kp.trans q₁.1 q₂.1, q₂.2⟩) fun _ _ e => e
    · cases he
end
end Mine
namespace Mine
open PySem

theorem lookup_zip_mem {α : Type} : ∀ (ns : List Str) (vs : List α), ns.length = vs.length → ∀ x ∈ ns, ((ns.zip vs).lookup x).isSome = true
  | [], _, _, x, h => nomatch h
  | n :: ns, [], h, _, _ => by simp at h
  | n :: ns, v :: vs, h, x, hx => by
    rw [List.zip_cons_cons, lookup_cons']
    split
    · rfl
    · rename_i hne
      rcases List.mem_cons.mp hx with e | e
      · exact absurd e hne
      · exact lookup_zip_mem ns vs (by simpa using h) x e
theorem filterMap_zip {α : Type} : ∀ (ns : List Str) (vs : List α), ns.Nodup → ns.length = vs.length → ns.filterMap (fun n => ((ns.zip vs).lookup n).map (n, ·)) = ns.zip vs
  | [], [], _, _ => rfl
  | [], _ :: _, _, h => by simp at h
  | _ :: _, [], _, h => by simp at h
  | n :: ns, v :: vs, hn, h => by
    rw [List.zip_cons_cons, List.filterMap_cons, lookup_cons', if_pos rfl]
    simp only [Option.map_some]
    congr 1
    rw [List.nodup_cons] at hn
    have ih := filterMap_zip ns vs hn.2 (by simpa using h)
    have cg : ∀ (l : List Str), (∀ x ∈ l, x ∈ ns) → l.filterMap (fun m => (((n, v) :: ns.zip vs).lookup m).map (m, ·)) = l.filterMap (fun m => ((ns.zip vs).lookup m).map (m, ·)) := by
      intro l
      induction l with
      | nil => intro _; rfl
      | cons x l il =>
        intro hl
        rw [List.filterMap_cons, List.filterMap_cons, lookup_cons', if_neg (show x ≠ n from fun e => hn.1 (e ▸ hl x (.head _))), il fun y hy => hl y (.tail _ hy)]
    rw [cg ns fun _ h => h]; exact ih

theorem bindArgs_plain {fd : FuncData} {vals : List Value} (h1 : fd.params.posonlyargs = []) (h2 : fd.params.kwonlyargs = []) (h3 : fd.params.vararg = none) (h4 : fd.params.kwarg = none) (h5 : fd.defaults = .none)
    (hnd : (fd.params.args.map (·.arg)).Nodup) (hl : (fd.params.args.map (·.arg)).length = vals.length) : bindArgs fd ⟨vals, []⟩ = pure ((fd.params.args.map (·.arg)).zip vals) := by
  unfold bindArgs
  simp only [h1, h2, h3, h4, h5, List.map_nil, List.nil_append, List.append_nil]
  have hm : List.filter (fun n => (List.lookup n (((fd.params.args.map (·.arg)).zip vals))).isNone) (fd.params.args.map (·.arg)) = [] := by
    rw [List.filter_eq_nil_iff]
    intro x hx
    have := lookup_zip_mem _ vals hl x hx
    simp only [Option.isNone_iff_eq_none]
    intro e
    rw [e] at this
    cases this
  have hs : seqItems? Value.none = (pure none : Sem (Option (Array Value))) := rfl
  simp only [List.forIn_nil, pure_bind, hs, Option.getD_none, List.drop_nil, List.length_nil, Nat.sub_zero, List.take_length]
  have hg : decide (vals.length > (List.map (fun x => x.arg) fd.params.args).length) = false := by simp; rw [← hl]; simp
  rw [hm, hg]
  simp only [Bool.false_and, Bool.false_eq_true, if_false, List.isEmpty_nil, Bool.not_true, List.zip_nil_right, List.forIn_nil, pure_bind]
  rw [filterMap_zip _ _ hnd hl]
end Mine
namespace Mine
open PySem PyProof.Rows

/-! halving -/
theorem mid_in {lo hi : Nat} (h : lo < hi) : lo ≤ (lo + hi) / 2 ∧ (lo + hi) / 2 < hi :=
  ⟨(Nat.le_div_iff_mul_le (Nat.succ_pos 1)).mpr (Nat.mul_two lo ▸ Nat.add_le_add_left (Nat.le_of_lt h) lo), Nat.div_lt_of_lt_mul (Nat.two_mul hi ▸ Nat.add_lt_add_right h hi)⟩
theorem mid_less {lo hi m n x : Nat} (h1 : lo ≤ m) (h2 : m < hi) (h3 : hi - lo ≤ n - x) (h4 : x < n) : hi - (m + 1) ≤ n - (x + 1) ∧ m - lo ≤ n - (x + 1) := by omega
/-! a strict weak order on places, and the order with the places as a second key -/
structure Wk (kl : Nat → Nat → Bool) : Prop where
  irr : ∀ p, kl p p = false
  tr : ∀ {p q r}, kl p q = true → kl q r = true → kl p r = true
  neg : ∀ {p q r}, kl p q = false → kl q r = false → kl p r = false

noncomputable def Rk (kl : Nat → Nat → Bool) (p q : Nat) : Prop := kl p q = true ∨ (kl q p = false ∧ p < q)

section
variable {kl : Nat → Nat → Bool}
theorem Wk.asym (W : Wk kl) {p q : Nat} (h : kl p q = true) : kl q p = false := by
  cases e : kl q p with
  | false => rfl
  | true => have := W.tr h e; rw [W.irr] at this; cases this
theorem Wk.lt_le (W : Wk kl) {p q r : Nat} (h : kl p q = true) (h2 : kl r q = false) : kl p r = true := by
  cases e : kl p r with
  | true => rfl
  | false => have := W.neg e h2; rw [h] at this; cases this
theorem Wk.le_lt (W : Wk kl) {p q r : Nat} (h : kl q p = false) (h2 : kl q r = true) : kl p r = true := by
  cases e : kl p r with
  | true => rfl
  | false => have := W.neg h e; rw [h2] at this; cases this
theorem Rk.le (W : Wk kl) {p q : Nat} (h : Rk kl p q) : kl q p = false := h.elim W.asym (·.1)
theorem Rk.tr (W : Wk kl) {p q r : Nat} (h : Rk kl p q) (h2 : Rk kl q r) : Rk kl p r := by
  rcases h with h | ⟨h, l⟩
  · exact .inl (W.lt_le h (h2.le W))
  · rcases h2 with h2 | ⟨h2, l2⟩
    · exact .inl (W.le_lt h h2)
    · exact .inr ⟨W.neg h2 h, Nat.lt_trans l l2⟩
/-! merging two lists -/
structure Mg (R : Nat → Nat → Prop) (T G xs ys : List Nat) : Prop where
  perm : (G ++ (xs ++ ys)).Perm T
  srt : G.Pairwise R
  le : ∀ g ∈ G, ∀ y, y ∈ xs ∨ y ∈ ys → R g y
variable {R : Nat → Nat → Prop} {T G xs ys : List Nat}
theorem Mg.swap (h : Mg R T G xs ys) : Mg R T G ys xs :=
  ⟨(List.Perm.append_left G List.perm_append_comm).trans h.perm, h.srt, fun g hg y hy => h.le g hg y hy.symm⟩
theorem Mg.take {C : List Nat} (h : Mg R T G (C ++ xs) ys) (hs : (C ++ xs).Pairwise R) (hy : ∀ c ∈ C, ∀ y ∈ ys, R c y) : Mg R T (G ++ C) xs ys := by
  have hs' := List.pairwise_append.mp hs
  refine ⟨?_, List.pairwise_append.mpr ⟨h.srt, hs'.1, fun g hg c hc => h.le g hg c (.inl (List.mem_append_left _ hc))⟩, fun g hg y hy' => ?_⟩
  · have := h.perm; rwa [List.append_assoc, ← List.append_assoc C]
  · rcases List.mem_append.mp hg with hg | hg
    · exact h.le g hg y (hy'.imp_left (List.mem_append_right _))
    · exact hy'.elim (hs'.2.2 g hg y) (hy g hg y)
theorem Mg.fin (h : Mg R T G xs []) (hs : xs.Pairwise R) : (G ++ xs).Perm T ∧ (G ++ xs).Pairwise R :=
  ⟨by have := h.perm; rwa [List.append_nil] at this, List.pairwise_append.mpr ⟨h.srt, hs, fun g hg y hy => h.le g hg y (.inl hy)⟩⟩
theorem Mg.len (h : Mg R T G xs ys) : G.length + (xs.length + ys.length) = T.length := by
  have := h.perm.length_eq; rwa [List.length_append, List.length_append] at this
end
end Mine
namespace Mine
open PySem PyProof.Rows

noncomputable def gallopG (beyond : Nat → StateT SortSt Sem (Option Bool)) (n hint : Nat) : StateT SortSt Sem (Option Nat) := do
  let mut lastofs := 0
  let mut ofs := 1
  let mut lo := 0
  let mut hi := 0
  let some right ← beyond hint | return none
  if right then
    let maxofs := n - hint
    for _ in [0:n] do
      if ofs ≥ maxofs then break
      let some more ← beyond (hint + ofs) | return none
      if !more then break
      lastofs := ofs
      ofs := 2 * ofs + 1
    lo := hint + lastofs + 1
    hi := hint + min ofs maxofs
  else
    let maxofs := hint + 1
    for _ in [0:n] do
      if ofs ≥ maxofs then break
      let some found ← beyond (hint - ofs) | return none
      if found then break
      lastofs := ofs
      ofs := 2 * ofs + 1
    lo := hint + 1 - min ofs maxofs
    hi := hint - lastofs
  for _ in [0:n] do
    if lo ≥ hi then break
    let m := lo + (hi - lo) / 2
    let some more ← beyond m | return none
    if more then lo := m + 1 else hi := m
  return some hi

noncomputable def gallop' : Bool → Keyed → Array Keyed → Nat → Nat → Nat → StateT SortSt Sem (Option Nat) := sortPriv% PySem.Builtin.gallop
theorem gallop'_eq (left : Bool) (key : Keyed) (arr : Array Keyed) (base n hint : Nat) :
    gallop' left key arr base n hint = gallopG (fun i => do
      let x ← elem' arr (base + i)
      if left then lt' x key else return (← lt' key x).map (!·)) n hint := rfl

section
variable {M : Model} {A : Around} {E : Value → Shared → Prop} {s : Shared}

/-- the search ends at the border of b -/
structure Brd (b : Nat → Bool) (n k : Nat) : Prop where
  le : k ≤ n
  lo : ∀ i, i < k → b i = true
  hi : ∀ i, k ≤ i → i < n → b i = false

theorem wpS_gallopG {st : SortSt} {beyond : Nat → StateT SortSt Sem (Option Bool)} {b : Nat → Bool} {n hint : Nat} {Q : Option Nat → SortSt → Prop} (hh : hint < n)
    (hb : ∀ i, i < n → ∀ Q : Option Bool → SortSt → Prop, Q (some (b i)) st → wpS M A E s (beyond i) Q st)
    (mono : ∀ i j, i ≤ j → j < n → b j = true → b i = true)
    (h : ∀ k, Brd b n k → Q (some k) st) : wpS M A E s (gallopG beyond n hint) Q st := by
  have up : ∀ i j, i ≤ j → j < n → b i = false → b j = false := fun i j h1 h2 e => by
    cases e2 : b j with
    | false => rfl
    | true => rw [mono i j h1 h2 e2] at e; cases e
  have fin : ∀ lo hi : Nat, lo ≤ hi → hi ≤ n → (∀ i, i < lo → b i = true) → (∀ i, hi ≤ i → i < n → b i = false) →
      wpS M A E s (do
        let mut lo := lo
        let mut hi := hi
        for _ in [0:n] do
          if lo ≥ hi then break
          let m := lo + (hi - lo) / 2
          let some more ← beyond m | return none
          if more then lo := m + 1 else hi := m
        return some hi : StateT SortSt Sem (Option Nat)) Q st := by
    intro lo hi h1 h2 h3 h4
    refine wpS_bind (wpS_mono (wpS_forRange (I := fun x c st' => st' = st ∧ ∃ hi lo, c = (none, lo, hi) ∧ lo ≤ hi ∧ hi ≤ n ∧ hi - lo ≤ n - x ∧ (∀ i, i < lo → b i = true) ∧ (∀ i, hi ≤ i → i < n → b i = false))
      (Q := fun c st' => st' = st ∧ ∃ hi lo, c = (none, lo, hi) ∧ Brd b n hi) ?step ?fin ⟨rfl, hi, lo, rfl, h1, h2, Nat.le_trans (Nat.sub_le _ _) h2, h3, h4⟩) ?post)
    case post => rintro c st' ⟨rfl, hi, lo, rfl, hB⟩; exact wpS_pure (h hi hB)
    case fin =>
      rintro c st' ⟨rfl, hi, lo, rfl, a1, a2, a3, a4, a5⟩
      have e : lo = hi := by omega
      subst e
      exact ⟨rfl, lo, lo, rfl, a2, a4, a5⟩
    case step =>
      rintro x c st' _ hx ⟨rfl, hi, lo, rfl, a1, a2, a3, a4, a5⟩
      dsimp only
      by_cases hge : lo ≥ hi
      · rw [if_pos hge]
        have e : lo = hi := Nat.le_antisymm a1 hge
        subst e
        exact wpS_pure ⟨rfl, lo, lo, rfl, a2, a4, a5⟩
      · rw [if_neg hge]
        have hlt := Nat.lt_of_not_le hge
        have m2 : lo + (hi - lo) / 2 < hi := Nat.add_lt_of_lt_sub' (Nat.div_lt_self (Nat.sub_pos_of_lt hlt) (Nat.lt_succ_self 1))
        have m1 : lo ≤ lo + (hi - lo) / 2 ∧ lo + (hi - lo) / 2 < hi ∧ hi - (lo + (hi - lo) / 2 + 1) ≤ n - (x + 1) ∧ lo + (hi - lo) / 2 - lo ≤ n - (x + 1) := ⟨Nat.le_add_right _ _, m2, mid_less (Nat.le_add_right _ _) m2 a3 hx⟩
        generalize lo + (hi - lo) / 2 = m at m1
        refine wpS_bind (hb m (Nat.lt_of_lt_of_le m1.2.1 a2) _ ?_)
        cases e : b m with
        | true => exact wpS_pure ⟨rfl, hi, m + 1, rfl, m1.2.1, a2, m1.2.2.1, fun i hi' => mono i m (Nat.le_of_lt_succ hi') (Nat.lt_of_lt_of_le m1.2.1 a2) e, a5⟩
        | false => exact wpS_pure ⟨rfl, m, lo, rfl, m1.1, Nat.le_trans (Nat.le_of_lt m1.2.1) a2, m1.2.2.2, a4, fun i h1 h2 => up m i h1 h2 e⟩
  unfold gallopG
  refine wpS_bind (hb hint hh _ ?_)
  dsimp only
  cases er : b hint with
  | true =>
    simp only [if_true]
    refine wpS_bind (wpS_mono (wpS_forRange (I := fun x c st' => st' = st ∧ ∃ l o, c = (none, l, o) ∧ l < o ∧ x < o ∧ hint + l < n ∧ b (hint + l) = true)
      (Q := fun c st' => st' = st ∧ ∃ l o, c = (none, l, o) ∧ l < o ∧ hint + l < n ∧ b (hint + l) = true ∧ (n - hint ≤ o ∨ (hint + o < n ∧ b (hint + o) = false))) ?step1 ?fin1 ⟨rfl, 0, 1, rfl, Nat.zero_lt_one, Nat.zero_lt_one, hh, er⟩) ?post1)
    case post1 =>
      rintro c st' ⟨rfl, l, o, rfl, a1, a2, a3, a4⟩
      refine fin (hint + l + 1) (hint + min o (n - hint)) (by omega) (by omega) (fun i hi => mono i _ (Nat.le_of_lt_succ hi) a2 a3) (fun i h1 h2 => ?_)
      rcases a4 with a4 | ⟨a4, a5⟩
      · exact absurd h2 (by omega)
      · exact up (hint + o) i (by omega) h2 a5
    case fin1 =>
      rintro c st' ⟨rfl, l, o, rfl, a1, a2, a3, a4⟩
      exact ⟨rfl, l, o, rfl, a1, a3, a4, .inl (by omega)⟩
    case step1 =>
      rintro x c st' _ hx ⟨rfl, l, o, rfl, a1, a2, a3, a4⟩
      dsimp only
      by_cases hge : o ≥ n - hint
      · rw [if_pos hge]; exact wpS_pure ⟨rfl, l, o, rfl, a1, a3, a4, .inl hge⟩
      · rw [if_neg hge]
        have ho : hint + o < n := by omega
        refine wpS_bind (hb _ ho _ ?_)
        cases e : b (hint + o) with
        | true => exact wpS_pure ⟨rfl, o, 2 * o + 1, rfl, by omega, by omega, ho, e⟩
        | false => exact wpS_pure ⟨rfl, l, o, rfl, a1, a3, a4, .inr ⟨ho, e⟩⟩
  | false =>
    simp only [Bool.false_eq_true, if_false]
    refine wpS_bind (wpS_mono (wpS_forRange (I := fun x c st' => st' = st ∧ ∃ l o, c = (none, l, o) ∧ l < o ∧ x < o ∧ b (hint - l) = false)
      (Q := fun c st' => st' = st ∧ ∃ l o, c = (none, l, o) ∧ l < o ∧ b (hint - l) = false ∧ (hint + 1 ≤ o ∨ b (hint - o) = true)) ?step2 ?fin2 ⟨rfl, 0, 1, rfl, Nat.zero_lt_one, Nat.zero_lt_one, er⟩) ?post2)
    case post2 =>
      rintro c st' ⟨rfl, l, o, rfl, a1, a3, a4⟩
      refine fin (hint + 1 - min o (hint + 1)) (hint - l) (by omega) (by omega) (fun i hi => ?_) (fun i h1 h2 => up _ i h1 h2 a3)
      rcases a4 with a4 | a4
      · exact absurd hi (by omega)
      · exact mono i (hint - o) (by omega) (by omega) a4
    case fin2 =>
      rintro c st' ⟨rfl, l, o, rfl, a1, a2, a4⟩
      exact ⟨rfl, l, o, rfl, a1, a4, .inl (by omega)⟩
    case step2 =>
      rintro x c st' _ hx ⟨rfl, l, o, rfl, a1, a2, a4⟩
      dsimp only
      by_cases hge : o ≥ hint + 1
      · rw [if_pos hge]; exact wpS_pure ⟨rfl, l, o, rfl, a1, a4, .inl hge⟩
      · rw [if_neg hge]
        refine wpS_bind (hb _ (by omega) _ ?_)
        cases e : b (hint - o) with
        | false => exact wpS_pure ⟨rfl, o, 2 * o + 1, rfl, by omega, by omega, e⟩
        | true => exact wpS_pure ⟨rfl, l, o, rfl, a1, a4, .inr e⟩
end
end Mine
namespace Mine
open PySem PyProof.Rows

noncomputable def tag (F : Nat → Keyed) (L : List Nat) : Array Keyed := (L.map F).toArray
section
variable {F : Nat → Keyed}
theorem tag_size (L : List Nat) : (tag F L).size = L.length := by simp [tag]
theorem tag_get {L : List Nat} {i p : Nat} (h : L[i]? = some p) : (tag F L)[i]? = some (F p) := by simp [tag, h]
theorem tag_app (L K : List Nat) : tag F L ++ tag F K = tag F (L ++ K) := by simp [tag]
theorem tag_push (L : List Nat) (p : Nat) : (tag F L).push (F p) = tag F (L ++ [p]) := by simp [tag]
theorem tag_rev (L : List Nat) : (tag F L).reverse = tag F L.reverse := by simp [tag]
theorem tag_ext (L : List Nat) (i j : Nat) : (tag F L).extract i j = tag F ((L.take j).drop i) := by
  apply Array.ext'
  simp [tag, List.drop_take, List.extract_eq_take_drop]
theorem tag_ext_all (L : List Nat) (i : Nat) : (tag F L).extract i (tag F L).size = tag F (L.drop i) := by
  rw [tag_ext, tag_size, List.take_length]

/-- all but the gallop figure is as before -/
structure Sm (st st' : SortSt) : Prop where
  kind : kindOf st' = kindOf st
  arr : arrOf st' = arrOf st
  pend : pendingOf st' = pendingOf st
  failed : failedOf st' = failedOf st
theorem Sm.rfl' (st : SortSt) : Sm st st := ⟨rfl, rfl, rfl, rfl⟩

noncomputable def setMinGallop' : Nat → StateT SortSt Sem Unit := sortPriv% PySem.Builtin.setMinGallop
theorem setMinGallop'_eq (g : Nat) : setMinGallop' g = modify fun s => SortSt.mk' (kindOf s) (arrOf s) (pendingOf s) g (failedOf s) := rfl

section
variable {M : Model} {A : Around} {E : Value → Shared → Prop} {s : Shared}
theorem wpS_setMin {st st₀ : SortSt} {g : Nat} {Q : Unit → SortSt → Prop} (hs : Sm st₀ st) (h : ∀ st', Sm st₀ st' → Q () st') : wpS M A E s (setMinGallop' g) Q st := by
  rw [setMinGallop'_eq]; exact wpS_modify (h _ ⟨hs.kind, hs.arr, hs.pend, hs.failed⟩)
theorem wpS_elem {st : SortSt} {arr : Array Keyed} {i : Nat} {x : Keyed} {Q : Keyed → SortSt → Prop} (e : arr[i]? = some x) (h : Q x st) : wpS M A E s (elem' arr i) Q st := by
  rw [elem'_eq, e]; exact wpS_pure h
end

/-- comparing is by kl -/
noncomputable def Cmp (M : Model) (A : Around) (E : Value → Shared → Prop) (s : Shared) (kd : SortKind) (F : Nat → Keyed) (n : Nat) (kl : Nat → Nat → Bool) : Prop :=
  ∀ (st : SortSt) (p q : Nat), kindOf st = kd → p < n → q < n → ∀ Q : Option Bool → SortSt → Prop, Q (some (kl p q)) st → wpS M A E s (lt' (F p) (F q)) Q st

section
variable {M : Model} {A : Around} {E : Value → Shared → Prop} {s : Shared} {kd : SortKind} {n : Nat} {kl : Nat → Nat → Bool}
theorem getD_mem {L : List Nat} {i : Nat} (h : i < L.length) : L[i]? = some (L.getD i 0) ∧ L.getD i 0 ∈ L := by
  have e2 : L.getD i 0 = L[i] := (List.getElem_eq_getD 0).symm
  rw [e2]; exact ⟨List.getElem?_eq_getElem h, List.getElem_mem h⟩
theorem wpS_gallopR {st : SortSt} {left : Bool} {L : List Nat} {key base len hint : Nat} {Q : Option Nat → SortSt → Prop} (W : Wk kl) (C : Cmp M A E s kd F n kl) (hk : kindOf st = kd)
    (hn : ∀ p ∈ L, p < n) (hkey : key < n) (hs : ∀ i j, i < j → j < len → Rk kl (L.getD (base + i) 0) (L.getD (base + j) 0)) (hlen : base + len ≤ L.length) (hh : hint < len)
    (h : ∀ k, Brd (fun i => if left then kl (L.getD (base + i) 0) key else !kl key (L.getD (base + i) 0)) len k → Q (some k) st) :
    wpS M A E s (gallop' left (F key) (tag F L) base len hint) Q st := by
  have mem := fun i (hi : i < len) => getD_mem (Nat.lt_of_lt_of_le (Nat.add_lt_add_left hi base) hlen)
  rw [gallop'_eq]
  refine wpS_gallopG hh (fun i hi Q' hq => ?_) (fun i j hij hj e => ?_) h
  · refine wpS_bind (wpS_elem (tag_get (mem i hi).1) ?_)
    cases left with
    | true => exact C st _ _ hk (hn _ (mem i hi).2) hkey _ hq
    | false => exact wpS_bind (C st _ _ hk hkey (hn _ (mem i hi).2) _ (wpS_pure hq))
  · rcases Nat.lt_or_eq_of_le hij with hlt | rfl
    · have r := hs i j hlt hj
      cases left with
      | true => exact W.le_lt (r.le W) e
      | false =>
        have e' : kl key (L.getD (base + j) 0) = false := by simpa using e
        show (!kl key (L.getD (base + i) 0)) = true
        rw [W.neg e' (r.le W)]; rfl
    · exact e
theorem wpS_gallop {st : SortSt} {left : Bool} {L : List Nat} {key base len hint : Nat} {Q : Option Nat → SortSt → Prop} (W : Wk kl) (C : Cmp M A E s kd F n kl) (hk : kindOf st = kd)
    (hn : ∀ p ∈ L, p < n) (hkey : key < n) (hs : L.Pairwise (Rk kl)) (hlen : base + len ≤ L.length) (hh : hint < len)
    (h : ∀ k, Brd (fun i => if left then kl (L.getD (base + i) 0) key else !kl key (L.getD (base + i) 0)) len k → Q (some k) st) :
    wpS M A E s (gallop' left (F key) (tag F L) base len hint) Q st :=
  wpS_gallopR W C hk hn hkey (fun i j hij hj => by
    have hj' : base + j < L.length := Nat.lt_of_lt_of_le (Nat.add_lt_add_left hj base) hlen
    have hij' := Nat.add_lt_add_left hij base
    have := List.pairwise_iff_getElem.mp hs (base + i) (base + j) (Nat.lt_trans hij' hj') hj' hij'
    rwa [List.getElem_eq_getD 0, List.getElem_eq_getD 0] at this) hlen hh h
end
end
end Mine
namespace Mine
open PySem PyProof.Rows

noncomputable abbrev KA := Array Keyed
noncomputable abbrev M5 := Option KA × KA × Nat × Nat × Nat
noncomputable abbrev M6 := Option KA × KA × Nat × Nat × Nat × Nat
noncomputable abbrev M7 := Option KA × KA × Nat × Nat × Nat × Nat × Nat
noncomputable abbrev lDone (a b : KA) (out : KA) (ia ib : Nat) : KA := out ++ a.extract ia a.size ++ b.extract ib b.size

noncomputable def loT1 (a b : KA) (g : Nat) (out : KA) (ia ib ac bc : Nat) : StateT SortSt Sem (ForInStep M6) := do
  let y ← elem' b ib
  let x ← elem' a ia
  let r ← lt' y x
  match r with
  | some w =>
    if w = true then do
      let y ← elem' b ib
      if (ib + 1 == b.size) = true then pure (.done (some (lDone a b (out.push y) ia (ib + 1)), out.push y, ia, ib + 1, 0, bc + 1))
      else if bc + 1 ≥ g then pure (.done (none, out.push y, ia, ib + 1, 0, bc + 1)) else pure (.yield (none, out.push y, ia, ib + 1, 0, bc + 1))
    else do
      let x ← elem' a ia
      if (ia + 1 + 1 == a.size) = true then pure (.done (some (lDone b a (out.push x) ib (ia + 1)), out.push x, ia + 1, ib, ac + 1, 0))
      else if ac + 1 ≥ g then pure (.done (none, out.push x, ia + 1, ib, ac + 1, 0)) else pure (.yield (none, out.push x, ia + 1, ib, ac + 1, 0))
  | _ => pure (.done (some (lDone a b out ia ib), out, ia, ib, ac, bc))
noncomputable def loC (a b : KA) (out : KA) (ia ib g ac bc : Nat) : StateT SortSt Sem (ForInStep M7) := do
  let x ← elem' a ia
  if (ia + 1 + 1 == a.size) = true then pure (.done (some (lDone b a (out.push x) ib (ia + 1)), out.push x, ia + 1, ib, g, ac, bc))
  else if (decide (ac < 7) && decide (bc < 7)) = true then pure (.done (none, out.push x, ia + 1, ib, g, ac, bc)) else pure (.yield (none, out.push x, ia + 1, ib, g, ac, bc))
noncomputable def loB (a b : KA) (out : KA) (ia ib g ac bc : Nat) : StateT SortSt Sem (ForInStep M7) := do
  let y ← elem' b ib
  if (ib + 1 == b.size) = true then pure (.done (some (lDone a b (out.push y) ia (ib + 1)), out.push y, ia, ib + 1, g, ac, bc))
  else do
    let x ← elem' a ia
    let r ← gallop' true x b (ib + 1) (b.size - (ib + 1)) 0
    match r with
    | some k =>
      if k > 0 then
        if (ib + 1 + k == b.size) = true then pure (.done (some (lDone a b (out.push y ++ b.extract (ib + 1) (ib + 1 + k)) ia (ib + 1 + k)), out.push y ++ b.extract (ib + 1) (ib + 1 + k), ia, ib + 1 + k, g, ac, k))
        else loC a b (out.push y ++ b.extract (ib + 1) (ib + 1 + k)) ia (ib + 1 + k) g ac k
      else loC a b (out.push y) ia (ib + 1) g ac k
    | _ => pure (.done (some (lDone a b (out.push y) ia (ib + 1)), out.push y, ia, ib + 1, g, ac, bc))
noncomputable def loA (a b : KA) (out : KA) (ia ib g ac bc : Nat) : StateT SortSt Sem (ForInStep M7) := do
  setMinGallop' g
  let y ← elem' b ib
  let r ← gallop' false y a ia (a.size - ia) 0
  match r with
  | some k =>
    if k > 0 then
      if (ia + k + 1 == a.size) = true then pure (.done (some (lDone b a (out ++ a.extract ia (ia + k)) ib (ia + k)), out ++ a.extract ia (ia + k), ia + k, ib, g, k, bc))
      else if (ia + k == a.size) = true then pure (.done (some (lDone a b (out ++ a.extract ia (ia + k)) (ia + k) ib), out ++ a.extract ia (ia + k), ia + k, ib, g, k, bc))
      else loB a b (out ++ a.extract ia (ia + k)) (ia + k) ib g k bc
    else loB a b out ia ib g k bc
  | _ => pure (.done (some (lDone a b out ia ib), out, ia, ib, g, ac, bc))
noncomputable def loT2 (a b : KA) (out : KA) (ia ib g ac bc : Nat) : StateT SortSt Sem (ForInStep M7) :=
  if g > 1 then loA a b out ia ib (g - 1) ac bc else loA a b out ia ib g ac bc
noncomputable def loT (a b : KA) (out : KA) (ia ib g : Nat) : StateT SortSt Sem (ForInStep M5) := do
  let c ← forIn [:a.size + b.size] ((none, out, ia, ib, 0, 0) : M6) fun _ c => loT1 a b g c.2.1 c.2.2.1 c.2.2.2.1 c.2.2.2.2.1 c.2.2.2.2.2
  match c.1 with
  | some r => pure (.done (some r, c.2.1, c.2.2.1, c.2.2.2.1, g))
  | none => do
    liftM (rule "list.sort.gallop")
    let c ← forIn [:a.size + b.size] ((none, c.2.1, c.2.2.1, c.2.2.2.1, g + 1, c.2.2.2.2.1, c.2.2.2.2.2) : M7) fun _ c => loT2 a b c.2.1 c.2.2.1 c.2.2.2.1 c.2.2.2.2.1 c.2.2.2.2.2.1 c.2.2.2.2.2.2
    match c.1 with
    | some r => pure (.done (some r, c.2.1, c.2.2.1, c.2.2.2.1, c.2.2.2.2.1))
    | none => do
      setMinGallop' (c.2.2.2.2.1 + 1)
      pure (.yield (none, c.2.1, c.2.2.1, c.2.2.2.1, c.2.2.2.2.1 + 1))

noncomputable def mergeLo' : KA → KA → StateT SortSt Sem KA := sortPriv% PySem.Builtin.mergeLo
theorem mergeLo'_eq (a b : KA) : mergeLo' a b = (do
  rule "list.sort.merge-lo"
  let y ← elem' b 0
  if (1 == b.size) = true then return lDone a b #[y] 0 1
  if (0 + 1 == a.size) = true then return lDone b a #[y] 1 0
  let g := gallopOf (← get)
  let c ← forIn [:a.size + b.size] ((none, #[y], 0, 1, g) : M5) fun _ c => loT a b c.2.1 c.2.2.1 c.2.2.2.1 c.2.2.2.2
  match c.1 with
  | some r => pure r
  | none => unsupported "internal:list.sort.merge-bound") := by
  have h0 : mergeLo' a b = (do
      rule "list.sort.merge-lo"
      let total := a.size + b.size
      let done (out : Array Keyed) (ia ib : Nat) := out ++ a.extract ia a.size ++ b.extract ib b.size
      let lastOfA (out : Array Keyed) (ia ib : Nat) := out ++ b.extract ib b.size ++ a.extract ia a.size
      let mut out : Array Keyed := #[← elem' b 0]
      let mut ia := 0
      let mut ib := 1
      if ib == b.size then return done out ia ib
      if ia + 1 == a.size then return lastOfA out ia ib
      let mut minGallop := gallopOf (← get)
      for _ in [0:total] do
        let mut acount := 0
        let mut bcount := 0
        for _ in [0:total] do
          let some bWins ← lt' (← elem' b ib) (← elem' a ia) | return done out ia ib
          if bWins then
            out := out.push (← elem' b ib); ib := ib + 1; bcount := bcount + 1; acount := 0
            if ib == b.size then return done out ia ib
            if bcount ≥ minGallop then break
          else
            out := out.push (← elem' a ia); ia := ia + 1; acount := acount + 1; bcount := 0
            if ia + 1 == a.size then return lastOfA out ia ib
            if acount ≥ minGallop then break
        rule "list.sort.gallop"
        minGallop := minGallop + 1
        for _ in [0:total] do
          if minGallop > 1 then minGallop := minGallop - 1
          setMinGallop' minGallop
          let some k ← gallop' false (← elem' b ib) a ia (a.size - ia) 0 | return done out ia ib
          acount := k
          if k > 0 then
            out := out ++ a.extract ia (ia + k); ia := ia + k
            if ia + 1 == a.size then return lastOfA out ia ib
            if ia == a.size then return done out ia ib
          out := out.push (← elem' b ib); ib := ib + 1
          if ib == b.size then return done out ia ib
          let some k ← gallop' true (← elem' a ia) b ib (b.size - ib) 0 | return done out ia ib
          bcount := k
          if k > 0 then
            out := out ++ b.extract ib (ib + k); ib := ib + k
            if ib == b.size then return done out ia ib
          out := out.push (← elem' a ia); ia := ia + 1
          if ia + 1 == a.size then return lastOfA out ia ib
          if acount < 7 && bcount < 7 then break
        minGallop := minGallop + 1
        setMinGallop' minGallop
      unsupported "internal:list.sort.merge-bound") := rfl
  rw [h0]
  refine congrArg (bind _) (funext fun _ => congrArg (bind _) (funext fun y => ?_))
  dsimp only
  refine congrArg (ite _ _) (congrArg (ite _ _) (congrArg (bind _) (funext fun g => ?_)))
  refine congr (congrArg bind (congrArg (forIn _ _) (funext fun x => funext fun c => ?_))) (funext fun c => by obtain ⟨r, c⟩ := c; cases r <;> rfl)
  unfold loT
  refine congr (congrArg bind rfl) (funext fun c => ?_)
  obtain ⟨r, c⟩ := c
  cases r with
  | some r => rfl
  | none =>
    refine congrArg (bind _) (funext fun _ => ?_)
    refine congr (congrArg bind ?_) (funext fun c => by obtain ⟨r, c⟩ := c; cases r <;> rfl)
    rfl
end Mine
namespace Mine
open PySem PyProof.Rows

/-- what is asked of the two lists that are merged -/
structure Two (kl : Nat → Nat → Bool) (n : Nat) (X Y : List Nat) : Prop where
  sx : X.Pairwise (Rk kl)
  sy : Y.Pairwise (Rk kl)
  lt : ∀ p ∈ X, ∀ q ∈ Y, p < q
  bx : ∀ p ∈ X, p < n
  by_ : ∀ p ∈ Y, p < n
  last : ∀ q ∈ Y, ∀ x, X[X.length - 1]? = some x → kl q x = true
  first : ∀ p ∈ X, ∀ y, Y[0]? = some y → kl y p = true

section
variable {F : Nat → Keyed} {M : Model} {A : Around} {E : Value → Shared → Prop} {s : Shared} {kd : SortKind} {n : Nat} {kl : Nat → Nat → Bool} {X Y : List Nat}

noncomputable def GoodM (F : Nat → Keyed) (kl : Nat → Nat → Bool) (X Y : List Nat) (st₀ : SortSt) (r : KA) (st : SortSt) : Prop :=
  ∃ T, r = tag F T ∧ T.Perm (X ++ Y) ∧ T.Pairwise (Rk kl) ∧ Sm st₀ st
/-- between two turns -/
structure Mid (F : Nat → Keyed) (kl : Nat → Nat → Bool) (X Y : List Nat) (st₀ : SortSt) (len : Nat) (out : KA) (ia ib : Nat) (st : SortSt) : Prop where
  sm : Sm st₀ st
  hia : ia + 1 < X.length
  hib : ib < Y.length
  mg : ∃ G, out = tag F G ∧ len ≤ G.length ∧ Mg (Rk kl) (X ++ Y) G (X.drop ia) (Y.drop ib)

theorem Mid.lt {st₀ st : SortSt} {len : Nat} {out : KA} {ia ib : Nat} (h : Mid F kl X Y st₀ len out ia ib st) : len < X.length + Y.length := by
  obtain ⟨G, _, hl, hm⟩ := h.mg
  have := hm.len
  rw [List.length_drop, List.length_drop, List.length_append] at this
  have := h.hib
  omega
theorem drop_head {L : List Nat} {i : Nat} (h : i < L.length) : ∃ p, L[i]? = some p ∧ L.drop i = p :: L.drop (i + 1) :=
  ⟨L[i], List.getElem?_eq_getElem h, List.drop_eq_getElem_cons h⟩
theorem drop_srt {L : List Nat} {R : Nat → Nat → Prop} (h : L.Pairwise R) (i : Nat) : (L.drop i).Pairwise R := h.sublist (List.drop_sublist _ _)

/-- one list is at its end -/
theorem fin_done {st₀ st : SortSt} {G : List Nat} {ia ib : Nat} (T : Two kl n X Y) (hs : Sm st₀ st) (h : Mg (Rk kl) (X ++ Y) G (X.drop ia) (Y.drop ib)) (e : ia = X.length ∨ ib = Y.length) :
    GoodM F kl X Y st₀ (lDone (tag F X) (tag F Y) (tag F G) ia ib) st := by
  refine ⟨G ++ X.drop ia ++ Y.drop ib, by rw [lDone, tag_ext_all, tag_ext_all, tag_app, tag_app], ?_⟩
  rcases e with e | e <;> subst e
  · rw [List.drop_length] at h ⊢; rw [List.append_nil]; exact ⟨(h.swap.fin (drop_srt T.sy _)).1, (h.swap.fin (drop_srt T.sy _)).2, hs⟩
  · rw [List.drop_length] at h ⊢; rw [List.append_nil]; exact ⟨(h.fin (drop_srt T.sx _)).1, (h.fin (drop_srt T.sx _)).2, hs⟩
theorem fin_last {st₀ st : SortSt} {G : List Nat} {ia ib : Nat} (T : Two kl n X Y) (hs : Sm st₀ st) (h : Mg (Rk kl) (X ++ Y) G (X.drop ia) (Y.drop ib)) (e : ia + 1 = X.length) :
    GoodM F kl X Y st₀ (lDone (tag F Y) (tag F X) (tag F G) ib ia) st := by
  refine ⟨G ++ Y.drop ib ++ X.drop ia, by rw [lDone, tag_ext_all, tag_ext_all, tag_app, tag_app], ?_⟩
  obtain ⟨p, hp, hd⟩ := drop_head (L := X) (i := ia) (e ▸ Nat.lt_succ_self _)
  rw [e, List.drop_length] at hd
  have hl : ∀ y ∈ Y.drop ib, Rk kl y p := fun y hy => .inl (T.last y (List.mem_of_mem_drop hy) p (by rw [← e]; exact hp))
  rw [hd] at h ⊢
  have h2 : Mg (Rk kl) (X ++ Y) (G ++ Y.drop ib) [] [p] := by
    have h3 := h.swap
    rw [← List.append_nil (Y.drop ib)] at h3
    refine h3.take (by rw [List.append_nil]; exact drop_srt T.sy _) fun c hc y hy => ?_
    rw [List.mem_singleton.mp hy]; exact hl c hc
  exact ⟨(h2.swap.fin (List.pairwise_singleton _ _)).1, (h2.swap.fin (List.pairwise_singleton _ _)).2, hs⟩

theorem mg_y {G : List Nat} {ia ib y : Nat} (T : Two kl n X Y) (h : Mg (Rk kl) (X ++ Y) G (X.drop ia) (Y.drop ib)) (hy : Y.drop ib = y :: Y.drop (ib + 1)) (hl : ∀ x ∈ X.drop ia, kl y x = true) :
    Mg (Rk kl) (X ++ Y) (G ++ [y]) (X.drop ia) (Y.drop (ib + 1)) := by
  have h' := h.swap
  rw [hy] at h'
  exact (h'.take (C := [y]) (by have := drop_srt T.sy ib; rw [hy] at this; exact this) fun c hc x hx => by rw [List.mem_singleton.mp hc]; exact .inl (hl x hx)).swap
theorem mg_x {G : List Nat} {ia ib x : Nat} (T : Two kl n X Y) (h : Mg (Rk kl) (X ++ Y) G (X.drop ia) (Y.drop ib)) (hx : X.drop ia = x :: X.drop (ia + 1)) (hl : ∀ y ∈ Y.drop ib, kl y x = false) :
    Mg (Rk kl) (X ++ Y) (G ++ [x]) (X.drop (ia + 1)) (Y.drop ib) := by
  have h' := h
  rw [hx] at h'
  refine h'.take (C := [x]) (by have := drop_srt T.sx ia; rw [hx] at this; exact this) fun c hc y hy => ?_
  rw [List.mem_singleton.mp hc]
  exact .inr ⟨hl y hy, T.lt x (List.mem_of_mem_drop (hx ▸ List.mem_cons_self)) y (List.mem_of_mem_drop hy)⟩
theorem mg_xs {G : List Nat} {ia ib k : Nat} (T : Two kl n X Y) (h : Mg (Rk kl) (X ++ Y) G (X.drop ia) (Y.drop ib)) (hl : ∀ x ∈ (X.drop ia).take k, ∀ y ∈ Y.drop ib, kl y x = false) :
    Mg (Rk kl) (X ++ Y) (G ++ (X.drop ia).take k) (X.drop (ia + k)) (Y.drop ib) := by
  have h' := h
  rw [← List.take_append_drop k (X.drop ia), List.drop_drop] at h'
  refine h'.take (by rw [← List.drop_drop, List.take_append_drop]; exact drop_srt T.sx ia) fun c hc y hy => ?_
  exact .inr ⟨hl c hc y hy, T.lt c (List.mem_of_mem_drop (List.mem_of_mem_take hc)) y (List.mem_of_mem_drop hy)⟩
theorem mg_ys {G : List Nat} {ia ib k : Nat} (T : Two kl n X Y) (h : Mg (Rk kl) (X ++ Y) G (X.drop ia) (Y.drop ib)) (hl : ∀ y ∈ (Y.drop ib).take k, ∀ x ∈ X.drop ia, kl y x = true) :
    Mg (Rk kl) (X ++ Y) (G ++ (Y.drop ib).take k) (X.drop ia) (Y.drop (ib + k)) := by
  have h' := h.swap
  rw [← List.take_append_drop k (Y.drop ib), List.drop_drop] at h'
  exact (h'.take (by rw [← List.drop_drop, List.take_append_drop]; exact drop_srt T.sy ib) fun c hc x hx => .inl (hl c hc x hx)).swap

theorem head_le (W : Wk kl) {L : List Nat} {i p : Nat} (hs : L.Pairwise (Rk kl)) (h : L.drop i = p :: L.drop (i + 1)) : ∀ x ∈ L.drop i, kl x p = false := fun x hx => by
  have hs' := drop_srt hs i
  rw [h] at hs' hx
  rcases List.mem_cons.mp hx with rfl | hx
  · exact W.irr _
  · exact ((List.pairwise_cons.mp hs').1 x hx).le W
/-- the border of a search, over the list's rest -/
theorem brd_take {L : List Nat} {b : Nat → Bool} {i k : Nat} (h : Brd (fun j => b (L.getD (i + j) 0)) (L.length - i) k) : (∀ x ∈ (L.drop i).take k, b x = true) ∧ (∀ x ∈ L.drop (i + k), b x = false) := by
  constructor
  · intro x hx
    obtain ⟨j, hj, rfl⟩ := List.getElem_of_mem hx
    have hj' : j < k := Nat.lt_of_lt_of_le hj (List.length_take_le _ _)
    have := h.lo j hj'
    rw [List.getElem_take, List.getElem_drop, List.getElem_eq_getD 0]; exact this
  · intro x hx
    obtain ⟨j, hj, rfl⟩ := List.getElem_of_mem hx
    rw [List.length_drop] at hj
    have := h.hi (k + j) (Nat.le_add_right _ _) (by omega)
    rw [List.getElem_drop, List.getElem_eq_getD 0]
    rwa [← Nat.add_assoc] at this
end
end Mine
namespace Mine
open PySem PyProof.Rows

section
variable {F : Nat → Keyed} {M : Model} {A : Around} {E : Value → Shared → Prop} {s : Shared} {kd : SortKind} {n : Nat} {kl : Nat → Nat → Bool} {X Y : List Nat} {st₀ : SortSt}

noncomputable def Ok (F : Nat → Keyed) (kl : Nat → Nat → Bool) (X Y : List Nat) (st₀ : SortSt) (len : Nat) (o : Option KA) (out : KA) (ia ib : Nat) (st : SortSt) : Prop := match o with
  | some r => GoodM F kl X Y st₀ r st
  | none => Mid F kl X Y st₀ len out ia ib st
noncomputable def P6 (F : Nat → Keyed) (kl : Nat → Nat → Bool) (X Y : List Nat) (st₀ : SortSt) (len : Nat) (r : ForInStep M6) (st : SortSt) : Prop := match r with
  | .done c => Ok F kl X Y st₀ len c.1 c.2.1 c.2.2.1 c.2.2.2.1 st
  | .yield c => Mid F kl X Y st₀ len c.2.1 c.2.2.1 c.2.2.2.1 st
noncomputable def P7 (F : Nat → Keyed) (kl : Nat → Nat → Bool) (X Y : List Nat) (st₀ : SortSt) (len : Nat) (r : ForInStep M7) (st : SortSt) : Prop := match r with
  | .done c => Ok F kl X Y st₀ len c.1 c.2.1 c.2.2.1 c.2.2.2.1 st
  | .yield c => Mid F kl X Y st₀ len c.2.1 c.2.2.1 c.2.2.2.1 st
theorem len_push {G : List Nat} {len : Nat} (h : len ≤ G.length) (x : Nat) : len + 1 ≤ (G ++ [x]).length := by
  rw [List.length_append]; exact Nat.succ_le_succ h
theorem len_app {G : List Nat} {len : Nat} (h : len ≤ G.length) (x : List Nat) : len ≤ (G ++ x).length := by
  rw [List.length_append]; exact Nat.le_trans h (Nat.le_add_right _ _)
theorem beq_size {F : Nat → Keyed} {i : Nat} {L : List Nat} : ((i == (tag F L).size) = true) ↔ i = L.length := by rw [tag_size]; exact beq_iff_eq
theorem mem_at {L : List Nat} {i p : Nat} (h : L[i]? = some p) : p ∈ L := List.mem_of_getElem? h

variable (W : Wk kl) (C : Cmp M A E s kd F n kl) (T : Two kl n X Y) (hk₀ : kindOf st₀ = kd)
include W C T hk₀

theorem loT1_ok {st : SortSt} {len g ia ib ac bc : Nat} {out : KA} (h : Mid F kl X Y st₀ len out ia ib st) :
    wpS M A E s (loT1 (tag F X) (tag F Y) g out ia ib ac bc) (P6 F kl X Y st₀ (len + 1)) st := by
  obtain ⟨hs, hia, hib, G, rfl, hl, hm⟩ := h
  obtain ⟨x, hx, hxd⟩ := drop_head (Nat.lt_of_succ_lt hia)
  obtain ⟨y, hy, hyd⟩ := drop_head hib
  refine wpS_bind (wpS_elem (tag_get hy) (wpS_bind (wpS_elem (tag_get hx) (wpS_bind (C st y x (hs.kind.trans hk₀) (T.by_ y (mem_at hy)) (T.bx x (mem_at hx)) _ ?_)))))
  cases e : kl y x with
  | true =>
    have hm' := mg_y T hm hyd fun x' hx' => W.lt_le e (head_le W T.sx hxd x' hx')
    refine wpS_bind (wpS_elem (tag_get hy) ?_)
    rw [tag_push]
    split
    · next he => exact wpS_pure (fin_done T hs hm' (.inr (beq_size.mp he)))
    · next he =>
      have hM : Mid F kl X Y st₀ (len + 1) (tag F (G ++ [y])) ia (ib + 1) st := ⟨hs, hia, Nat.lt_of_le_of_ne hib fun e => he (beq_size.mpr e), _, rfl, len_push hl y, hm'⟩
      split <;> exact wpS_pure hM
  | false =>
    have hm' := mg_x T hm hxd fun y' hy' => W.neg (head_le W T.sy hyd y' hy') e
    refine wpS_bind (wpS_elem (tag_get hx) ?_)
    rw [tag_push]
    split
    · next he => exact wpS_pure (fin_last T hs hm' (beq_size.mp he))
    · next he =>
      have hM : Mid F kl X Y st₀ (len + 1) (tag F (G ++ [x])) (ia + 1) ib st := ⟨hs, Nat.lt_of_le_of_ne hia fun e => he (beq_size.mpr e), hib, _, rfl, len_push hl x, hm'⟩
      split <;> exact wpS_pure hM

omit W C hk₀ in
theorem loC_ok {st : SortSt} {len g ia ib ac bc : Nat} {out : KA} (h : Mid F kl X Y st₀ len out ia ib st) (hx : ∀ x, X[ia]? = some x → ∀ y ∈ Y.drop ib, kl y x = false) :
    wpS M A E s (loC (tag F X) (tag F Y) out ia ib g ac bc) (P7 F kl X Y st₀ (len + 1)) st := by
  obtain ⟨hs, hia, hib, G, rfl, hl, hm⟩ := h
  obtain ⟨x, hx', hxd⟩ := drop_head (Nat.lt_of_succ_lt hia)
  have hm' := mg_x T hm hxd (hx x hx')
  refine wpS_bind (wpS_elem (tag_get hx') ?_)
  rw [tag_push]
  split
  · next he => exact wpS_pure (fin_last T hs hm' (beq_size.mp he))
  · next he =>
    have hM : Mid F kl X Y st₀ (len + 1) (tag F (G ++ [x])) (ia + 1) ib st := ⟨hs, Nat.lt_of_le_of_ne hia fun e => he (beq_size.mpr e), hib, _, rfl, len_push hl x, hm'⟩
    split <;> exact wpS_pure hM

theorem loB_ok {st : SortSt} {len g ia ib ac bc : Nat} {out : KA} (h : Mid F kl X Y st₀ len out ia ib st) (hy : ∀ y, Y[ib]? = some y → ∀ x ∈ X.drop ia, kl y x = true) :
    wpS M A E s (loB (tag F X) (tag F Y) out ia ib g ac bc) (P7 F kl X Y st₀ (len + 1)) st := by
  obtain ⟨hs, hia, hib, G, rfl, hl, hm⟩ := h
  obtain ⟨x, hx, hxd⟩ := drop_head (Nat.lt_of_succ_lt hia)
  obtain ⟨y, hy', hyd⟩ := drop_head hib
  have hm' := mg_y T hm hyd (hy y hy')
  refine wpS_bind (wpS_elem (tag_get hy') ?_)
  rw [tag_push]
  split
  · next he => exact wpS_pure (fin_done T hs hm' (.inr (beq_size.mp he)))
  · next he =>
    have hib' : ib + 1 < Y.length := Nat.lt_of_le_of_ne hib fun e => he (beq_size.mpr e)
    refine wpS_bind (wpS_elem (tag_get hx) ?_)
    rw [tag_size]
    refine wpS_bind (wpS_gallop W C (hs.kind.trans hk₀) T.by_ (T.bx x (mem_at hx)) T.sy (Nat.le_of_eq (Nat.add_sub_cancel' hib)) (Nat.sub_pos_of_lt hib') fun k hk => ?_)
    have hb := brd_take (b := fun z => kl z x) hk
    dsimp only
    split
    · next hk0 =>
      have hm2 := mg_ys T hm' (k := k) fun y' hy'' x' hx' => W.lt_le (hb.1 y' hy'') (head_le W T.sx hxd x' hx')
      have et : (tag F (G ++ [y])) ++ (tag F Y).extract (ib + 1) (ib + 1 + k) = tag F (G ++ [y] ++ (Y.drop (ib + 1)).take k) := by
        rw [tag_ext, tag_app, List.drop_take, Nat.add_sub_cancel_left]
      rw [et]
      split
      · next he2 => exact wpS_pure (fin_done T hs hm2 (.inr (beq_iff_eq.mp he2)))
      · next he2 =>
        have hib2 : ib + 1 + k < Y.length := Nat.lt_of_le_of_ne (Nat.add_le_of_le_sub' hib hk.le) fun e => he2 (beq_iff_eq.mpr e)
        exact loC_ok T ⟨hs, hia, hib2, _, rfl, Nat.le_trans (Nat.le_succ _) (len_app (len_push hl y) _), hm2⟩ fun x' hx' y' hy'' => by rw [hx] at hx'; cases hx'; exact hb.2 y' hy''
    · next hk0 =>
      have ek : k = 0 := Nat.eq_zero_of_not_pos hk0
      subst ek
      exact loC_ok T ⟨hs, hia, hib', _, rfl, Nat.le_trans (Nat.le_succ _) (len_push hl y), hm'⟩ fun x' hx' y' hy'' => by rw [hx] at hx'; cases hx'; exact hb.2 y' hy''

theorem loA_ok {st : SortSt} {len g ia ib ac bc : Nat} {out : KA} (h : Mid F kl X Y st₀ len out ia ib st) :
    wpS M A E s (loA (tag F X) (tag F Y) out ia ib g ac bc) (P7 F kl X Y st₀ (len + 1)) st := by
  obtain ⟨hs, hia, hib, G, rfl, hl, hm⟩ := h
  obtain ⟨y, hy, hyd⟩ := drop_head hib
  have hia' := Nat.lt_of_succ_lt hia
  refine wpS_bind (wpS_setMin hs fun st hs => wpS_bind (wpS_elem (tag_get hy) ?_))
  rw [tag_size]
  refine wpS_bind (wpS_gallop W C (hs.kind.trans hk₀) T.bx (T.by_ y (mem_at hy)) T.sx (Nat.le_of_eq (Nat.add_sub_cancel' (Nat.le_of_lt hia'))) (Nat.sub_pos_of_lt hia') fun k hk => ?_)
  have hb := brd_take (b := fun z => !kl y z) hk
  have hb2 : ∀ x ∈ X.drop (ia + k), kl y x = true := fun x hx => by have := hb.2 x hx; cases e : kl y x with
    | true => rfl
    | false => rw [e] at this; cases this
  dsimp only
  split
  · next hk0 =>
    have hm2 := mg_xs T hm (k := k) fun x' hx' y' hy' => W.neg (head_le W T.sy hyd y' hy') (by have := hb.1 x' hx'; cases e : kl y x' with
      | false => rfl
      | true => rw [e] at this; cases this)
    have et : (tag F G) ++ (tag F X).extract ia (ia + k) = tag F (G ++ (X.drop ia).take k) := by
      rw [tag_ext, tag_app, List.drop_take, Nat.add_sub_cancel_left]
    rw [et]
    split
    · next he => exact wpS_pure (fin_last T hs hm2 (beq_iff_eq.mp he))
    · next he =>
      split
      · next he2 => exact wpS_pure (fin_done T hs hm2 (.inl (beq_iff_eq.mp he2)))
      · next he2 =>
        have h1 : ia + k < X.length := Nat.lt_of_le_of_ne (Nat.add_le_of_le_sub' (Nat.le_of_lt hia') hk.le) fun e => he2 (beq_iff_eq.mpr e)
        have h2 : ia + k + 1 < X.length := Nat.lt_of_le_of_ne h1 fun e => he (beq_iff_eq.mpr e)
        exact loB_ok W C T hk₀ ⟨hs, h2, hib, _, rfl, len_app hl _, hm2⟩ fun y' hy' x' hx' => by rw [hy] at hy'; cases hy'; exact hb2 x' hx'
  · next hk0 =>
    have ek : k = 0 := Nat.eq_zero_of_not_pos hk0
    subst ek
    exact loB_ok W C T hk₀ ⟨hs, hia, hib, _, rfl, hl, hm⟩ fun y' hy' x' hx' => by rw [hy] at hy'; cases hy'; exact hb2 x' hx'

theorem loT_ok {st : SortSt} {len g ia ib : Nat} {out : KA} (h : Mid F kl X Y st₀ len out ia ib st) :
    wpS M A E s (loT (tag F X) (tag F Y) out ia ib g) (fun r st => match r with
      | .done c => ∃ r, c.1 = some r ∧ GoodM F kl X Y st₀ r st
      | .yield c => Mid F kl X Y st₀ (len + 1) c.2.1 c.2.2.1 c.2.2.2.1 st) st := by
  have over : ∀ {l out ia ib st} {P : Prop}, X.length + Y.length ≤ l → Mid F kl X Y st₀ l out ia ib st → P := fun h1 h2 => absurd h2.lt (Nat.not_lt_of_le h1)
  refine wpS_bind (wpS_mono (wpS_forRange (I := fun x (c : M6) st => Mid F kl X Y st₀ (len + x) c.2.1 c.2.2.1 c.2.2.2.1 st)
    (Q := fun c st => Ok F kl X Y st₀ (len + 1) c.1 c.2.1 c.2.2.1 c.2.2.2.1 st) (fun x c st _ _ hI => wpS_mono (loT1_ok W C T hk₀ hI) fun r st' hr => ?_) (fun c st hI => ?_) h) fun c st' hc => ?_)
  · cases r with
    | done c =>
      obtain ⟨o, c⟩ := c
      cases o with
      | some r => exact hr
      | none => exact ⟨hr.sm, hr.hia, hr.hib, hr.mg.imp fun G hG => ⟨hG.1, Nat.le_trans (Nat.add_le_add_left (Nat.le_add_left _ _) _) hG.2.1, hG.2.2⟩⟩
    | yield c => exact hr
  · rw [tag_size, tag_size, Nat.max_eq_right (Nat.zero_le _)] at hI
    exact over (Nat.le_add_left _ _) hI
  · obtain ⟨o, c⟩ := c
    cases o with
    | some r => exact wpS_pure ⟨r, rfl, hc⟩
    | none =>
      refine wpS_bind (wpS_lift (wpAny_rule ⟨rfl, ?_⟩))
      refine wpS_bind (wpS_mono (wpS_forRange (I := fun x (c : M7) st => Mid F kl X Y st₀ (len + 1 + x) c.2.1 c.2.2.1 c.2.2.2.1 st)
        (Q := fun c st => Ok F kl X Y st₀ (len + 1) c.1 c.2.1 c.2.2.1 c.2.2.2.1 st) (fun x c st _ _ hI => ?_) (fun c st hI => ?_) hc) fun c st' hc => ?_)
      · have key : wpS M A E s (loT2 (tag F X) (tag F Y) c.2.1 c.2.2.1 c.2.2.2.1 c.2.2.2.2.1 c.2.2.2.2.2.1 c.2.2.2.2.2.2) (P7 F kl X Y st₀ (len + 1 + x + 1)) st := by
          unfold loT2; split <;> exact loA_ok W C T hk₀ hI
        refine wpS_mono key fun r st' hr => ?_
        cases r with
        | done c =>
          obtain ⟨o, c⟩ := c
          cases o with
          | some r => exact hr
          | none => exact ⟨hr.sm, hr.hia, hr.hib, hr.mg.imp fun G hG => ⟨hG.1, Nat.le_trans (Nat.le_add_right _ (x + 1)) hG.2.1, hG.2.2⟩⟩
        | yield c => exact hr
      · rw [tag_size, tag_size, Nat.max_eq_right (Nat.zero_le _)] at hI
        exact over (Nat.le_add_left _ _) hI
      · obtain ⟨o, c⟩ := c
        cases o with
        | some r => exact wpS_pure ⟨r, rfl, hc⟩
        | none => exact wpS_bind (wpS_setMin hc.sm fun st'' hs => wpS_pure ⟨hs, hc.hia, hc.hib, hc.mg⟩)

theorem mergeLo_ok {st : SortSt} (hs : Sm st₀ st) (hX : 0 < X.length) (hY : 0 < Y.length) : wpS M A E s (mergeLo' (tag F X) (tag F Y)) (GoodM F kl X Y st₀) st := by
  rw [mergeLo'_eq]
  obtain ⟨y, hy, hyd⟩ := drop_head hY
  have hm : Mg (Rk kl) (X ++ Y) [] (X.drop 0) (Y.drop 0) := ⟨List.Perm.refl _, .nil, fun _ h => nomatch h⟩
  have hm' := mg_y T hm hyd fun x hx => T.first x (List.mem_of_mem_drop hx) y hy
  refine wpS_bind (wpS_lift (wpAny_rule ⟨rfl, wpS_bind (wpS_elem (tag_get hy) ?_)⟩))
  show wpS M A E s (if (1 == (tag F Y).size) = true then _ else _) _ _
  split
  · next he => exact wpS_pure (fin_done (G := [y]) T hs hm' (.inr (beq_size.mp he)))
  · next he =>
    split
    · next he2 => exact wpS_pure (fin_last (G := [y]) T hs hm' (beq_size.mp he2))
    · next he2 =>
      refine wpS_bind (wpS_get ?_)
      refine wpS_bind (wpS_mono (wpS_forRange (I := fun x (c : M5) st => Mid F kl X Y st₀ x c.2.1 c.2.2.1 c.2.2.2.1 st)
        (Q := fun c st => ∃ r, c.1 = some r ∧ GoodM F kl X Y st₀ r st) (fun x c st _ hx hI => ?_) (fun c st hI => ?_)
        ⟨hs, Nat.lt_of_le_of_ne hX fun e => he2 (beq_size.mpr e), Nat.lt_of_le_of_ne hY fun e => he (beq_size.mpr e), [y], rfl, Nat.zero_le _, hm'⟩) fun c st' hc => ?_)
      · refine wpS_mono (loT_ok W C T hk₀ hI) fun r st' hr => ?_
        cases r with
        | done c => exact hr
        | yield c => exact hr
      · rw [tag_size, tag_size, Nat.max_eq_right (Nat.zero_le _)] at hI
        exact absurd hI.lt (Nat.lt_irrefl _)
      · obtain ⟨r, e, hr⟩ := hc
        rw [e]; exact wpS_pure hr
end
end Mine
namespace Mine
open PySem PyProof.Rows

noncomputable abbrev hDone (a b : KA) (out : KA) (na nb : Nat) : KA := a.extract 0 na ++ b.extract 0 nb ++ out.reverse

noncomputable def hiT1 (a b : KA) (g : Nat) (na nb : Nat) (out : KA) (ac bc : Nat) : StateT SortSt Sem (ForInStep (Option KA × Nat × Nat × KA × Nat × Nat)) := do
  let y ← elem' b (nb - 1)
  let x ← elem' a (na - 1)
  let r ← lt' y x
  match r with
  | some w =>
    if w = true then do
      let x ← elem' a (na - 1)
      if (na - 1 == 0) = true then pure (.done (some (hDone a b (out.push x) (na - 1) nb), na - 1, nb, out.push x, ac + 1, 0))
      else if ac + 1 ≥ g then pure (.done (none, na - 1, nb, out.push x, ac + 1, 0)) else pure (.yield (none, na - 1, nb, out.push x, ac + 1, 0))
    else do
      let y ← elem' b (nb - 1)
      if (nb - 1 == 1) = true then pure (.done (some (hDone b a (out.push y) (nb - 1) na), na, nb - 1, out.push y, 0, bc + 1))
      else if bc + 1 ≥ g then pure (.done (none, na, nb - 1, out.push y, 0, bc + 1)) else pure (.yield (none, na, nb - 1, out.push y, 0, bc + 1))
  | _ => pure (.done (some (hDone a b out na nb), na, nb, out, ac, bc))
noncomputable abbrev H7 := Option KA × Nat × Nat × KA × Nat × Nat × Nat
noncomputable abbrev H6 := Option KA × Nat × Nat × KA × Nat × Nat
noncomputable abbrev H5 := Option KA × Nat × Nat × KA × Nat
noncomputable def hiC (a b : KA) (na nb : Nat) (out : KA) (g ac bc : Nat) : StateT SortSt Sem (ForInStep H7) := do
  let x ← elem' a (na - 1)
  if (na - 1 == 0) = true then pure (.done (some (hDone a b (out.push x) (na - 1) nb), na - 1, nb, out.push x, g, ac, bc))
  else if (decide (ac < 7) && decide (bc < 7)) = true then pure (.done (none, na - 1, nb, out.push x, g, ac, bc)) else pure (.yield (none, na - 1, nb, out.push x, g, ac, bc))
noncomputable def hiB (a b : KA) (na nb : Nat) (out : KA) (g ac bc : Nat) : StateT SortSt Sem (ForInStep H7) := do
  let y ← elem' b (nb - 1)
  if (nb - 1 == 1) = true then pure (.done (some (hDone b a (out.push y) (nb - 1) na), na, nb - 1, out.push y, g, ac, bc))
  else do
    let x ← elem' a (na - 1)
    let r ← gallop' true x b 0 (nb - 1) (nb - 1 - 1)
    match r with
    | some k =>
      if nb - 1 - k > 0 then
        if (k == 1) = true then pure (.done (some (hDone b a (out.push y ++ (b.extract k (nb - 1)).reverse) k na), na, k, out.push y ++ (b.extract k (nb - 1)).reverse, g, ac, nb - 1 - k))
        else if (k == 0) = true then pure (.done (some (hDone a b (out.push y ++ (b.extract k (nb - 1)).reverse) na k), na, k, out.push y ++ (b.extract k (nb - 1)).reverse, g, ac, nb - 1 - k))
        else hiC a b na k (out.push y ++ (b.extract k (nb - 1)).reverse) g ac (nb - 1 - k)
      else hiC a b na (nb - 1) (out.push y) g ac (nb - 1 - k)
    | _ => pure (.done (some (hDone a b (out.push y) na (nb - 1)), na, nb - 1, out.push y, g, ac, bc))
noncomputable def hiA (a b : KA) (na nb : Nat) (out : KA) (g ac bc : Nat) : StateT SortSt Sem (ForInStep H7) := do
  setMinGallop' g
  let y ← elem' b (nb - 1)
  let r ← gallop' false y a 0 na (na - 1)
  match r with
  | some k =>
    if na - k > 0 then
      if (k == 0) = true then pure (.done (some (hDone a b (out ++ (a.extract k na).reverse) k nb), k, nb, out ++ (a.extract k na).reverse, g, na - k, bc))
      else hiB a b k nb (out ++ (a.extract k na).reverse) g (na - k) bc
    else hiB a b na nb out g (na - k) bc
  | _ => pure (.done (some (hDone a b out na nb), na, nb, out, g, ac, bc))
noncomputable def hiT2 (a b : KA) (na nb : Nat) (out : KA) (g ac bc : Nat) : StateT SortSt Sem (ForInStep H7) :=
  if g > 1 then hiA a b na nb out (g - 1) ac bc else hiA a b na nb out g ac bc
noncomputable def hiT (a b : KA) (na nb : Nat) (out : KA) (g : Nat) : StateT SortSt Sem (ForInStep H5) := do
  let c ← forIn [:a.size + b.size] ((none, na, nb, out, 0, 0) : H6) fun _ c => hiT1 a b g c.2.1 c.2.2.1 c.2.2.2.1 c.2.2.2.2.1 c.2.2.2.2.2
  match c.1 with
  | some r => pure (.done (some r, c.2.1, c.2.2.1, c.2.2.2.1, g))
  | none => do
    liftM (rule "list.sort.gallop")
    let c ← forIn [:a.size + b.size] ((none, c.2.1, c.2.2.1, c.2.2.2.1, g + 1, c.2.2.2.2.1, c.2.2.2.2.2) : H7) fun _ c => hiT2 a b c.2.1 c.2.2.1 c.2.2.2.1 c.2.2.2.2.1 c.2.2.2.2.2.1 c.2.2.2.2.2.2
    match c.1 with
    | some r => pure (.done (some r, c.2.1, c.2.2.1, c.2.2.2.1, c.2.2.2.2.1))
    | none => do
      setMinGallop' (c.2.2.2.2.1 + 1)
      pure (.yield (none, c.2.1, c.2.2.1, c.2.2.2.1, c.2.2.2.2.1 + 1))

noncomputable def mergeHi' : KA → KA → StateT SortSt Sem KA := sortPriv% PySem.Builtin.mergeHi
theorem mergeHi'_eq (a b : KA) : mergeHi' a b = (do
  rule "list.sort.merge-hi"
  let x ← elem' a (a.size - 1)
  if (a.size - 1 == 0) = true then return hDone a b #[x] (a.size - 1) b.size
  if (b.size == 1) = true then return hDone b a #[x] b.size (a.size - 1)
  let g := gallopOf (← get)
  let c ← forIn [:a.size + b.size] ((none, a.size - 1, b.size, #[x], g) : H5) fun _ c => hiT a b c.2.1 c.2.2.1 c.2.2.2.1 c.2.2.2.2
  match c.1 with
  | some r => pure r
  | none => unsupported "internal:list.sort.merge-bound") := by
  have h0 : mergeHi' a b = (do
    rule "list.sort.merge-hi"
    let total := a.size + b.size
    let done (out : Array Keyed) (na nb : Nat) := a.extract 0 na ++ b.extract 0 nb ++ out.reverse
    let firstOfB (out : Array Keyed) (na nb : Nat) := b.extract 0 nb ++ a.extract 0 na ++ out.reverse
    let mut na := a.size - 1
    let mut nb := b.size
    let mut out : Array Keyed := #[← elem' a na]
    if na == 0 then return done out na nb
    if nb == 1 then return firstOfB out na nb
    let mut minGallop := gallopOf (← get)
    for _ in [0:total] do
      let mut acount := 0
      let mut bcount := 0
      for _ in [0:total] do
        let some aWins ← lt' (← elem' b (nb - 1)) (← elem' a (na - 1)) | return done out na nb
        if aWins then
          na := na - 1; out := out.push (← elem' a na); acount := acount + 1; bcount := 0
          if na == 0 then return done out na nb
          if acount ≥ minGallop then break
        else
          nb := nb - 1; out := out.push (← elem' b nb); bcount := bcount + 1; acount := 0
          if nb == 1 then return firstOfB out na nb
          if bcount ≥ minGallop then break
      rule "list.sort.gallop"
      minGallop := minGallop + 1
      for _ in [0:total] do
        if minGallop > 1 then minGallop := minGallop - 1
        setMinGallop' minGallop
        let some at_ ← gallop' false (← elem' b (nb - 1)) a 0 na (na - 1) | return done out na nb
        let k := na - at_
        acount := k
        if k > 0 then
          out := out ++ (a.extract at_ na).reverse; na := at_
          if na == 0 then return done out na nb
        nb := nb - 1; out := out.push (← elem' b nb)
        if nb == 1 then return firstOfB out na nb
        let some at_ ← gallop' true (← elem' a (na - 1)) b 0 nb (nb - 1) | return done out na nb
        let k := nb - at_
        bcount := k
        if k > 0 then
          out := out ++ (b.extract at_ nb).reverse; nb := at_
          if nb == 1 then return firstOfB out na nb
          if nb == 0 then return done out na nb
        na := na - 1; out := out.push (← elem' a na)
        if na == 0 then return done out na nb
        if acount < 7 && bcount < 7 then break
      minGallop := minGallop + 1
      setMinGallop' minGallop
    unsupported "internal:list.sort.merge-bound") := rfl
  rw [h0]
  refine congrArg (bind _) (funext fun _ => congrArg (bind _) (funext fun y => ?_))
  dsimp only
  refine congrArg (ite _ _) (congrArg (ite _ _) (congrArg (bind _) (funext fun g => ?_)))
  refine congr (congrArg bind (congrArg (forIn _ _) (funext fun x => funext fun c => ?_))) (funext fun c => by obtain ⟨r, c⟩ := c; cases r <;> rfl)
  unfold hiT
  refine congr (congrArg bind rfl) (funext fun c => ?_)
  obtain ⟨r, c⟩ := c
  cases r with
  | some r => rfl
  | none =>
    refine congrArg (bind _) (funext fun _ => ?_)
    refine congr (congrArg bind ?_) (funext fun c => by obtain ⟨r, c⟩ := c; cases r <;> rfl)
    rfl
end Mine
namespace Mine
open PySem PyProof.Rows

section
variable {F : Nat → Keyed} {M : Model} {A : Around} {E : Value → Shared → Prop} {s : Shared} {kd : SortKind} {n : Nat} {kl : Nat → Nat → Bool} {X Y : List Nat} {st₀ : SortSt}

noncomputable abbrev Rr (kl : Nat → Nat → Bool) (p q : Nat) : Prop := Rk kl q p
noncomputable abbrev rt (L : List Nat) (i : Nat) : List Nat := (L.take i).reverse
structure HMid (F : Nat → Keyed) (kl : Nat → Nat → Bool) (X Y : List Nat) (st₀ : SortSt) (len na nb : Nat) (out : KA) (st : SortSt) : Prop where
  sm : Sm st₀ st
  ha : 0 < na
  ha2 : na ≤ X.length
  hb : 1 < nb
  hb2 : nb ≤ Y.length
  mg : ∃ G, out = tag F G ∧ len ≤ G.length ∧ Mg (Rr kl) (X ++ Y) G (rt X na) (rt Y nb)
theorem HMid.lt {st : SortSt} {len : Nat} {out : KA} {na nb : Nat} (h : HMid F kl X Y st₀ len na nb out st) : len < X.length + Y.length := by
  obtain ⟨G, _, hl, hm⟩ := h.mg
  have := hm.len
  rw [List.length_reverse, List.length_reverse, List.length_append, List.length_take_of_le h.ha2, List.length_take_of_le h.hb2] at this
  have := h.ha
  omega
theorem rt_head {L : List Nat} {i : Nat} (h : 0 < i) (h2 : i ≤ L.length) : ∃ p, L[i - 1]? = some p ∧ rt L i = p :: rt L (i - 1) := by
  obtain ⟨j, rfl⟩ : ∃ j, i = j + 1 := ⟨i - 1, (Nat.sub_add_cancel h).symm⟩
  refine ⟨L[j], List.getElem?_eq_getElem h2, ?_⟩
  show (L.take (j + 1)).reverse = L[j] :: (L.take j).reverse
  rw [List.take_add_one, List.getElem?_eq_getElem h2, Option.toList_some, List.reverse_append]; rfl
theorem rt_srt {L : List Nat} (h : L.Pairwise (Rk kl)) (i : Nat) : (rt L i).Pairwise (Rr kl) := List.pairwise_reverse.mpr (h.sublist (List.take_sublist _ _))
theorem rt_mem {L : List Nat} {i x : Nat} (h : x ∈ rt L i) : x ∈ L := List.mem_of_mem_take (List.mem_reverse.mp h)
theorem rt_split (L : List Nat) {k i : Nat} (h : k ≤ i) : rt L i = ((L.take i).drop k).reverse ++ rt L k := by
  rw [rt, rt, ← List.reverse_append]
  congr 1
  have := List.take_append_drop k (L.take i)
  rwa [List.take_take, Nat.min_eq_left h, eq_comm] at this
theorem tag_ext0 (L : List Nat) (i : Nat) : (tag F L).extract 0 i = tag F (L.take i) := by rw [tag_ext, List.drop_zero]
theorem turn_fin {G xs : List Nat} (h : (G ++ xs.reverse).Perm (X ++ Y) ∧ (G ++ xs.reverse).Pairwise (Rr kl)) : (xs ++ G.reverse).Perm (X ++ Y) ∧ (xs ++ G.reverse).Pairwise (Rk kl) := by
  have e : (G ++ xs.reverse).reverse = xs ++ G.reverse := by rw [List.reverse_append, List.reverse_reverse]
  exact ⟨e ▸ (List.reverse_perm _).trans h.1, e ▸ List.pairwise_reverse.mpr h.2⟩
theorem hfin_done {st : SortSt} {G : List Nat} {na nb : Nat} (T : Two kl n X Y) (hs : Sm st₀ st) (h : Mg (Rr kl) (X ++ Y) G (rt X na) (rt Y nb)) (e : na = 0 ∨ nb = 0) :
    GoodM F kl X Y st₀ (hDone (tag F X) (tag F Y) (tag F G) na nb) st := by
  refine ⟨X.take na ++ Y.take nb ++ G.reverse, by rw [hDone, tag_ext0, tag_ext0, tag_app, tag_rev, tag_app], ?_⟩
  rcases e with e | e <;> subst e
  · rw [List.take_zero, List.nil_append]
    have := turn_fin (h.swap.fin (rt_srt T.sy _)); exact ⟨this.1, this.2, hs⟩
  · rw [List.take_zero, List.append_nil]
    have := turn_fin (h.fin (rt_srt T.sx _)); exact ⟨this.1, this.2, hs⟩
theorem hfin_first {st : SortSt} {G : List Nat} {na nb : Nat} (T : Two kl n X Y) (hs : Sm st₀ st) (h : Mg (Rr kl) (X ++ Y) G (rt X na) (rt Y nb)) (e : nb = 1) (hY : 1 ≤ Y.length) :
    GoodM F kl X Y st₀ (hDone (tag F Y) (tag F X) (tag F G) nb na) st := by
  subst e
  refine ⟨Y.take 1 ++ X.take na ++ G.reverse, by rw [hDone, tag_ext0, tag_ext0, tag_app, tag_rev, tag_app], ?_⟩
  obtain ⟨y, hy, hd⟩ := rt_head (L := Y) Nat.zero_lt_one hY
  have hd' : rt Y 1 = [y] := hd
  have ht : Y.take 1 = [y] := by have := congrArg List.reverse hd'; rwa [List.reverse_reverse] at this
  rw [hd'] at h
  rw [ht]
  have h2 : Mg (Rr kl) (X ++ Y) (G ++ rt X na) [] [y] := by
    have h3 := h
    rw [← List.append_nil (rt X na)] at h3
    refine h3.take (by rw [List.append_nil]; exact rt_srt T.sx _) fun c hc y' hy' => ?_
    rw [List.mem_singleton.mp hy']; exact .inl (T.first c (rt_mem hc) y hy)
  have := turn_fin (X := X) (Y := Y) (kl := kl) (G := G) (xs := [y] ++ X.take na) (by rw [List.reverse_append, ← List.append_assoc]; exact h2.swap.fin (List.pairwise_singleton _ _))
  exact ⟨this.1, this.2, hs⟩

theorem hmg_x {G : List Nat} {na nb x : Nat} (T : Two kl n X Y) (h : Mg (Rr kl) (X ++ Y) G (rt X na) (rt Y nb)) (hx : rt X na = x :: rt X (na - 1)) (hl : ∀ y ∈ rt Y nb, kl y x = true) :
    Mg (Rr kl) (X ++ Y) (G ++ [x]) (rt X (na - 1)) (rt Y nb) := by
  have hs := rt_srt T.sx na
  rw [hx] at h hs
  exact h.take (C := [x]) hs fun c hc y hy => by rw [List.mem_singleton.mp hc]; exact .inl (hl y hy)
theorem hmg_y {G : List Nat} {na nb y : Nat} (T : Two kl n X Y) (h : Mg (Rr kl) (X ++ Y) G (rt X na) (rt Y nb)) (hy : rt Y nb = y :: rt Y (nb - 1)) (hl : ∀ x ∈ rt X na, kl y x = false) :
    Mg (Rr kl) (X ++ Y) (G ++ [y]) (rt X na) (rt Y (nb - 1)) := by
  have hs := rt_srt T.sy nb
  have hm : y ∈ Y := rt_mem (hy ▸ List.mem_cons_self)
  have h' := h.swap
  rw [hy] at h' hs
  exact (h'.take (C := [y]) hs fun c hc x hx => by rw [List.mem_singleton.mp hc]; exact .inr ⟨hl x hx, T.lt x (rt_mem hx) y hm⟩).swap
theorem hmg_xs {G : List Nat} {na nb k : Nat} (T : Two kl n X Y) (h : Mg (Rr kl) (X ++ Y) G (rt X na) (rt Y nb)) (hk : k ≤ na) (hl : ∀ x ∈ (X.take na).drop k, ∀ y ∈ rt Y nb, kl y x = true) :
    Mg (Rr kl) (X ++ Y) (G ++ ((X.take na).drop k).reverse) (rt X k) (rt Y nb) := by
  have hs := rt_srt T.sx na
  rw [rt_split X hk] at h hs
  exact h.take hs fun c hc y hy => .inl (hl c (List.mem_reverse.mp hc) y hy)
theorem hmg_ys {G : List Nat} {na nb k : Nat} (T : Two kl n X Y) (h : Mg (Rr kl) (X ++ Y) G (rt X na) (rt Y nb)) (hk : k ≤ nb) (hl : ∀ y ∈ (Y.take nb).drop k, ∀ x ∈ rt X na, kl y x = false) :
    Mg (Rr kl) (X ++ Y) (G ++ ((Y.take nb).drop k).reverse) (rt X na) (rt Y k) := by
  have hs := rt_srt T.sy nb
  have h' := h.swap
  rw [rt_split Y hk] at h' hs
  exact (h'.take hs fun c hc x hx => .inr ⟨hl c (List.mem_reverse.mp hc) x hx, T.lt x (rt_mem hx) c (List.mem_of_mem_take (List.mem_of_mem_drop (List.mem_reverse.mp hc)))⟩).swap
theorem rhead_le (W : Wk kl) {L : List Nat} {i p : Nat} (hs : L.Pairwise (Rk kl)) (h : rt L i = p :: rt L (i - 1)) : ∀ x ∈ rt L i, kl p x = false := fun x hx => by
  have hs' := rt_srt hs i
  rw [h] at hs' hx
  rcases List.mem_cons.mp hx with rfl | hx
  · exact W.irr _
  · exact Rk.le W ((List.pairwise_cons.mp hs').1 x hx)
theorem brd_rt {L : List Nat} {b : Nat → Bool} {m k : Nat} (h : Brd (fun j => b (L.getD (0 + j) 0)) m k) : (∀ x ∈ rt L k, b x = true) ∧ (∀ x ∈ (L.take m).drop k, b x = false) := by
  constructor
  · intro x hx
    obtain ⟨j, hj, rfl⟩ := List.getElem_of_mem (List.mem_reverse.mp hx)
    have := h.lo j (Nat.lt_of_lt_of_le hj (List.length_take_le _ _))
    rw [List.getElem_take, List.getElem_eq_getD 0]; rwa [Nat.zero_add] at this
  · intro x hx
    obtain ⟨j, hj, rfl⟩ := List.getElem_of_mem hx
    have hj' : k + j < m := by
      rw [List.length_drop] at hj
      exact Nat.lt_of_lt_of_le (Nat.add_lt_of_lt_sub' hj) (List.length_take_le _ _)
    have := h.hi (k + j) (Nat.le_add_right _ _) hj'
    rw [List.getElem_drop, List.getElem_take, List.getElem_eq_getD 0]; rwa [Nat.zero_add] at this

noncomputable def HiOk (F : Nat → Keyed) (kl : Nat → Nat → Bool) (X Y : List Nat) (st₀ : SortSt) (len : Nat) (o : Option KA) (na nb : Nat) (out : KA) (st : SortSt) : Prop := match o with
  | some r => GoodM F kl X Y st₀ r st
  | none => HMid F kl X Y st₀ len na nb out st
noncomputable def HP6 (F : Nat → Keyed) (kl : Nat → Nat → Bool) (X Y : List Nat) (st₀ : SortSt) (len : Nat) (r : ForInStep H6) (st : SortSt) : Prop := match r with
  | .done c => HiOk F kl X Y st₀ len c.1 c.2.1 c.2.2.1 c.2.2.2.1 st
  | .yield c => HMid F kl X Y st₀ len c.2.1 c.2.2.1 c.2.2.2.1 st
noncomputable def HP7 (F : Nat → Keyed) (kl : Nat → Nat → Bool) (X Y : List Nat) (st₀ : SortSt) (len : Nat) (r : ForInStep H7) (st : SortSt) : Prop := match r with
  | .done c => HiOk F kl X Y st₀ len c.1 c.2.1 c.2.2.1 c.2.2.2.1 st
  | .yield c => HMid F kl X Y st₀ len c.2.1 c.2.2.1 c.2.2.2.1 st
theorem pos_ne {i : Nat} (h : ¬ (i == 0) = true) : 0 < i := Nat.pos_of_ne_zero fun e => h (beq_iff_eq.mpr e)
theorem pred_gt {i : Nat} (h : 1 < i) (h2 : ¬ (i - 1 == 1) = true) : 1 < i - 1 := Nat.lt_of_le_of_ne (Nat.le_sub_one_of_lt h) fun e => h2 (beq_iff_eq.mpr e.symm)

variable (W : Wk kl) (C : Cmp M A E s kd F n kl) (T : Two kl n X Y) (hk₀ : kindOf st₀ = kd)
include W C T hk₀

theorem hiT1_ok {st : SortSt} {len g na nb ac bc : Nat} {out : KA} (h : HMid F kl X Y st₀ len na nb out st) :
    wpS M A E s (hiT1 (tag F X) (tag F Y) g na nb out ac bc) (HP6 F kl X Y st₀ (len + 1)) st := by
  obtain ⟨hs, ha, ha2, hb, hb2, G, rfl, hl, hm⟩ := h
  obtain ⟨x, hx, hxd⟩ := rt_head ha ha2
  obtain ⟨y, hy, hyd⟩ := rt_head (Nat.lt_of_succ_lt hb) hb2
  refine wpS_bind (wpS_elem (tag_get hy) (wpS_bind (wpS_elem (tag_get hx) (wpS_bind (C st y x (hs.kind.trans hk₀) (T.by_ y (mem_at hy)) (T.bx x (mem_at hx)) _ ?_)))))
  cases e : kl y x with
  | true =>
    have hm' := hmg_x T hm hxd fun y' hy' => W.le_lt (rhead_le W T.sy hyd y' hy') e
    refine wpS_bind (wpS_elem (tag_get hx) ?_)
    rw [tag_push]
    split
    · next he => exact wpS_pure (hfin_done T hs hm' (.inl (beq_iff_eq.mp he)))
    · next he =>
      have hM : HMid F kl X Y st₀ (len + 1) (na - 1) nb (tag F (G ++ [x])) st := ⟨hs, pos_ne he, Nat.le_trans (Nat.sub_le _ _) ha2, hb, hb2, _, rfl, len_push hl x, hm'⟩
      split <;> exact wpS_pure hM
  | false =>
    have hm' := hmg_y T hm hyd fun x' hx' => W.neg e (rhead_le W T.sx hxd x' hx')
    refine wpS_bind (wpS_elem (tag_get hy) ?_)
    rw [tag_push]
    split
    · next he => exact wpS_pure (hfin_first T hs hm' (beq_iff_eq.mp he) (Nat.le_trans (Nat.le_of_lt hb) hb2))
    · next he =>
      have hM : HMid F kl X Y st₀ (len + 1) na (nb - 1) (tag F (G ++ [y])) st := ⟨hs, ha, ha2, pred_gt hb he, Nat.le_trans (Nat.sub_le _ _) hb2, _, rfl, len_push hl y, hm'⟩
      split <;> exact wpS_pure hM

omit W C hk₀ in
theorem hiC_ok {st : SortSt} {len g na nb ac bc : Nat} {out : KA} (h : HMid F kl X Y st₀ len na nb out st) (hx : ∀ x, X[na - 1]? = some x → ∀ y ∈ rt Y nb, kl y x = true) :
    wpS M A E s (hiC (tag F X) (tag F Y) na nb out g ac bc) (HP7 F kl X Y st₀ (len + 1)) st := by
  obtain ⟨hs, ha, ha2, hb, hb2, G, rfl, hl, hm⟩ := h
  obtain ⟨x, hx', hxd⟩ := rt_head ha ha2
  have hm' := hmg_x T hm hxd (hx x hx')
  refine wpS_bind (wpS_elem (tag_get hx') ?_)
  rw [tag_push]
  split
  · next he => exact wpS_pure (hfin_done T hs hm' (.inl (beq_iff_eq.mp he)))
  · next he =>
    have hM : HMid F kl X Y st₀ (len + 1) (na - 1) nb (tag F (G ++ [x])) st := ⟨hs, pos_ne he, Nat.le_trans (Nat.sub_le _ _) ha2, hb, hb2, _, rfl, len_push hl x, hm'⟩
    split <;> exact wpS_pure hM

theorem hiB_ok {st : SortSt} {len g na nb ac bc : Nat} {out : KA} (h : HMid F kl X Y st₀ len na nb out st) (hy : ∀ y, Y[nb - 1]? = some y → ∀ x ∈ rt X na, kl y x = false) :
    wpS M A E s (hiB (tag F X) (tag F Y) na nb out g ac bc) (HP7 F kl X Y st₀ (len + 1)) st := by
  obtain ⟨hs, ha, ha2, hb, hb2, G, rfl, hl, hm⟩ := h
  obtain ⟨x, hx, hxd⟩ := rt_head ha ha2
  obtain ⟨y, hy', hyd⟩ := rt_head (Nat.lt_of_succ_lt hb) hb2
  have hm' := hmg_y T hm hyd (hy y hy')
  have hY1 : 1 ≤ Y.length := Nat.le_trans (Nat.le_of_lt hb) hb2
  refine wpS_bind (wpS_elem (tag_get hy') ?_)
  rw [tag_push]
  split
  · next he => exact wpS_pure (hfin_first T hs hm' (beq_iff_eq.mp he) hY1)
  · next he =>
    have hb' := pred_gt hb he
    have hb2' : nb - 1 ≤ Y.length := Nat.le_trans (Nat.sub_le _ _) hb2
    refine wpS_bind (wpS_elem (tag_get hx) ?_)
    refine wpS_bind (wpS_gallop W C (hs.kind.trans hk₀) T.by_ (T.bx x (mem_at hx)) T.sy ((Nat.zero_add _).symm ▸ hb2') (Nat.sub_lt (Nat.lt_of_succ_lt hb') Nat.zero_lt_one) fun k hk => ?_)
    have hbr := brd_rt (b := fun z => kl z x) hk
    dsimp only
    split
    · next hk0 =>
      have hm2 := hmg_ys T hm' hk.le fun y' hy'' x' hx' => W.neg (hbr.2 y' hy'') (rhead_le W T.sx hxd x' hx')
      have et : (tag F (G ++ [y])) ++ ((tag F Y).extract k (nb - 1)).reverse = tag F (G ++ [y] ++ ((Y.take (nb - 1)).drop k).reverse) := by
        rw [tag_ext, tag_rev, tag_app]
      rw [et]
      split
      · next he2 => exact wpS_pure (hfin_first T hs hm2 (beq_iff_eq.mp he2) hY1)
      · next he2 =>
        split
        · next he3 => exact wpS_pure (hfin_done T hs hm2 (.inr (beq_iff_eq.mp he3)))
        · next he3 =>
          exact hiC_ok T ⟨hs, ha, ha2, Nat.lt_of_le_of_ne (pos_ne he3) fun e => he2 (beq_iff_eq.mpr e.symm), Nat.le_trans hk.le hb2', _, rfl, Nat.le_trans (Nat.le_succ _) (len_app (len_push hl y) _), hm2⟩
            fun x' hx' y' hy'' => by rw [hx] at hx'; cases hx'; exact hbr.1 y' hy''
    · next hk0 =>
      have ek : k = nb - 1 := Nat.le_antisymm hk.le (Nat.le_of_sub_eq_zero (Nat.eq_zero_of_not_pos hk0))
      subst ek
      exact hiC_ok T ⟨hs, ha, ha2, hb', hb2', _, rfl, Nat.le_trans (Nat.le_succ _) (len_push hl y), hm'⟩ fun x' hx' y' hy'' => by rw [hx] at hx'; cases hx'; exact hbr.1 y' hy''

theorem hiA_ok {st : SortSt} {len g na nb ac bc : Nat} {out : KA} (h : HMid F kl X Y st₀ len na nb out st) :
    wpS M A E s (hiA (tag F X) (tag F Y) na nb out g ac bc) (HP7 F kl X Y st₀ (len + 1)) st := by
  obtain ⟨hs, ha, ha2, hb, hb2, G, rfl, hl, hm⟩ := h
  obtain ⟨y, hy, hyd⟩ := rt_head (Nat.lt_of_succ_lt hb) hb2
  refine wpS_bind (wpS_setMin hs fun st hs => wpS_bind (wpS_elem (tag_get hy) ?_))
  refine wpS_bind (wpS_gallop W C (hs.kind.trans hk₀) T.bx (T.by_ y (mem_at hy)) T.sx ((Nat.zero_add _).symm ▸ ha2) (Nat.sub_lt ha Nat.zero_lt_one) fun k hk => ?_)
  have hbr := brd_rt (b := fun z => !kl y z) hk
  have hb1 : ∀ x ∈ rt X k, kl y x = false := fun x hx => by have := hbr.1 x hx; cases e : kl y x with
    | false => rfl
    | true => rw [e] at this; cases this
  dsimp only
  split
  · next hk0 =>
    have hm2 := hmg_xs T hm hk.le fun x' hx' y' hy' => W.le_lt (rhead_le W T.sy hyd y' hy') (by have := hbr.2 x' hx'; cases e : kl y x' with
      | true => rfl
      | false => rw [e] at this; cases this)
    have et : (tag F G) ++ ((tag F X).extract k na).reverse = tag F (G ++ ((X.take na).drop k).reverse) := by
      rw [tag_ext, tag_rev, tag_app]
    rw [et]
    split
    · next he => exact wpS_pure (hfin_done T hs hm2 (.inl (beq_iff_eq.mp he)))
    · next he => exact hiB_ok W C T hk₀ ⟨hs, pos_ne he, Nat.le_trans hk.le ha2, hb, hb2, _, rfl, len_app hl _, hm2⟩ fun y' hy' x' hx' => by rw [hy] at hy'; cases hy'; exact hb1 x' hx'
  · next hk0 =>
    have ek : k = na := Nat.le_antisymm hk.le (Nat.le_of_sub_eq_zero (Nat.eq_zero_of_not_pos hk0))
    subst ek
    exact hiB_ok W C T hk₀ ⟨hs, ha, ha2, hb, hb2, _, rfl, hl, hm⟩ fun y' hy' x' hx' => by rw [hy] at hy'; cases hy'; exact hb1 x' hx'

theorem hiT_ok {st : SortSt} {len g na nb : Nat} {out : KA} (h : HMid F kl X Y st₀ len na nb out st) :
    wpS M A E s (hiT (tag F X) (tag F Y) na nb out g) (fun r st => match r with
      | .done c => ∃ r, c.1 = some r ∧ GoodM F kl X Y st₀ r st
      | .yield c => HMid F kl X Y st₀ (len + 1) c.2.1 c.2.2.1 c.2.2.2.1 st) st := by
  have over : ∀ {l na nb out st} {P : Prop}, X.length + Y.length ≤ l → HMid F kl X Y st₀ l na nb out st → P := fun h1 h2 => absurd h2.lt (Nat.not_lt_of_le h1)
  refine wpS_bind (wpS_mono (wpS_forRange (I := fun x (c : H6) st => HMid F kl X Y st₀ (len + x) c.2.1 c.2.2.1 c.2.2.2.1 st)
    (Q := fun c st => HiOk F kl X Y st₀ (len + 1) c.1 c.2.1 c.2.2.1 c.2.2.2.1 st) (fun x c st _ _ hI => wpS_mono (hiT1_ok W C T hk₀ hI) fun r st' hr => ?_) (fun c st hI => ?_) h) fun c st' hc => ?_)
  · cases r with
    | done c =>
      obtain ⟨o, c⟩ := c
      cases o with
      | some r => exact hr
      | none => exact ⟨hr.sm, hr.ha, hr.ha2, hr.hb, hr.hb2, hr.mg.imp fun G hG => ⟨hG.1, Nat.le_trans (Nat.add_le_add_left (Nat.le_add_left _ _) _) hG.2.1, hG.2.2⟩⟩
    | yield c => exact hr
  · rw [tag_size, tag_size, Nat.max_eq_right (Nat.zero_le _)] at hI
    exact over (Nat.le_add_left _ _) hI
  · obtain ⟨o, c⟩ := c
    cases o with
    | some r => exact wpS_pure ⟨r, rfl, hc⟩
    | none =>
      refine wpS_bind (wpS_lift (wpAny_rule ⟨rfl, ?_⟩))
      refine wpS_bind (wpS_mono (wpS_forRange (I := fun x (c : H7) st => HMid F kl X Y st₀ (len + 1 + x) c.2.1 c.2.2.1 c.2.2.2.1 st)
        (Q := fun c st => HiOk F kl X Y st₀ (len + 1) c.1 c.2.1 c.2.2.1 c.2.2.2.1 st) (fun x c st _ _ hI => ?_) (fun c st hI => ?_) hc) fun c st' hc => ?_)
      · have key : wpS M A E s (hiT2 (tag F X) (tag F Y) c.2.1 c.2.2.1 c.2.2.2.1 c.2.2.2.2.1 c.2.2.2.2.2.1 c.2.2.2.2.2.2) (HP7 F kl X Y st₀ (len + 1 + x + 1)) st := by
          unfold hiT2; split <;> exact hiA_ok W C T hk₀ hI
        refine wpS_mono key fun r st' hr => ?_
        cases r with
        | done c =>
          obtain ⟨o, c⟩ := c
          cases o with
          | some r => exact hr
          | none => exact ⟨hr.sm, hr.ha, hr.ha2, hr.hb, hr.hb2, hr.mg.imp fun G hG => ⟨hG.1, Nat.le_trans (Nat.le_add_right _ (x + 1)) hG.2.1, hG.2.2⟩⟩
        | yield c => exact hr
      · rw [tag_size, tag_size, Nat.max_eq_right (Nat.zero_le _)] at hI
        exact over (Nat.le_add_left _ _) hI
      · obtain ⟨o, c⟩ := c
        cases o with
        | some r => exact wpS_pure ⟨r, rfl, hc⟩
        | none => exact wpS_bind (wpS_setMin hc.sm fun st'' hs => wpS_pure ⟨hs, hc.ha, hc.ha2, hc.hb, hc.hb2, hc.mg⟩)

theorem mergeHi_ok {st : SortSt} (hs : Sm st₀ st) (hX : 0 < X.length) (hY : 0 < Y.length) : wpS M A E s (mergeHi' (tag F X) (tag F Y)) (GoodM F kl X Y st₀) st := by
  rw [mergeHi'_eq]
  obtain ⟨x, hx, hxd⟩ := rt_head hX (Nat.le_refl _)
  have hm : Mg (Rr kl) (X ++ Y) [] (rt X X.length) (rt Y Y.length) := ⟨by
    rw [List.nil_append, rt, rt, List.take_length, List.take_length]; exact (List.reverse_perm X).append (List.reverse_perm Y), .nil, fun _ h => nomatch h⟩
  have hm' := hmg_x T hm hxd fun y hy => T.last y (rt_mem hy) x hx
  refine wpS_bind (wpS_lift (wpAny_rule ⟨rfl, ?_⟩))
  rw [tag_size, tag_size]
  refine wpS_bind (wpS_elem (tag_get hx) ?_)
  split
  · next he => exact wpS_pure (hfin_done (G := [x]) T hs hm' (.inl (beq_iff_eq.mp he)))
  · next he =>
    split
    · next he2 => exact wpS_pure (hfin_first (G := [x]) T hs hm' (beq_iff_eq.mp he2) hY)
    · next he2 =>
      refine wpS_bind (wpS_get ?_)
      refine wpS_bind (wpS_mono (wpS_forRange (I := fun x (c : H5) st => HMid F kl X Y st₀ x c.2.1 c.2.2.1 c.2.2.2.1 st)
        (Q := fun c st => ∃ r, c.1 = some r ∧ GoodM F kl X Y st₀ r st) (fun x c st _ hx hI => ?_) (fun c st hI => ?_)
        ⟨hs, pos_ne he, Nat.sub_le _ _, Nat.lt_of_le_of_ne hY fun e => he2 (beq_iff_eq.mpr e.symm), Nat.le_refl _, [x], rfl, Nat.zero_le _, hm'⟩) fun c st' hc => ?_)
      · refine wpS_mono (hiT_ok W C T hk₀ hI) fun r st' hr => ?_
        cases r with
        | done c => exact hr
        | yield c => exact hr
      · rw [Nat.max_eq_right (Nat.zero_le _)] at hI
        exact absurd hI.lt (Nat.lt_irrefl _)
      · obtain ⟨r, e, hr⟩ := hc
        rw [e]; exact wpS_pure hr
end
end Mine
namespace Mine
open PySem PyProof.Rows

noncomputable def KG (ga : Array Nat) (i : Nat) : Nat := ga[i]?.getD 0
theorem KG_congr {ga gb : Array Nat} {i j : Nat} (h : ga[i]? = gb[j]?) : KG ga i = KG gb j := by unfold KG; rw [h]
theorem KG_mirror {ga : Array Nat} {i j : Nat} (hj : j ≤ ga.size) (k : Nat) : KG (mirror ga i j ((j - i) / 2)) k = if i ≤ k ∧ k < j then KG ga (i + j - 1 - k) else KG ga k := by
  have e := getElem?_mirror_all (i := i) hj k
  split <;> rename_i h1
  · rw [if_pos h1] at e; exact KG_congr e
  · rw [if_neg h1] at e; exact KG_congr e
theorem KG_bubble {ga : Array Nat} {src d : Nat} (hs : src < ga.size) (hd : d ≤ src) (k : Nat) :
    KG (bubble ga src d) k = if k = src - d then KG ga src else if src - d < k ∧ k ≤ src then KG ga (k - 1) else KG ga k := by
  have e := getElem?_bubble hs d hd k
  split <;> rename_i h1
  · rw [if_pos h1] at e; exact KG_congr e
  · rw [if_neg h1] at e
    split <;> rename_i h2
    · rw [if_pos h2] at e; exact KG_congr e
    · rw [if_neg h2] at e; exact KG_congr e
theorem swaps_map {β : Type} (F : Nat → Keyed) (p q : β → Nat) : ∀ (l : List β) (ga : Array Nat),
    l.foldl (fun a k => a.swapIfInBounds (p k) (q k)) (ga.map F) = (l.foldl (fun a k => a.swapIfInBounds (p k) (q k)) ga).map F
  | [], _ => rfl
  | k :: l, ga => by
    have e : (ga.map F).swapIfInBounds (p k) (q k) = (ga.swapIfInBounds (p k) (q k)).map F := by
      rw [Array.swapIfInBounds_def, Array.swapIfInBounds_def]
      simp only [Array.size_map]
      split
      · split
        · simp only [Array.swap_def, Array.map_set, Array.getElem_map]
        · rfl
      · rfl
    rw [List.foldl_cons, e, swaps_map F p q l, List.foldl_cons]

noncomputable def SrtR (R : Nat → Nat → Prop) (ga : Array Nat) (lo hi : Nat) : Prop := ∀ i j, lo ≤ i → i < j → j < hi → R (KG ga i) (KG ga j)

/-- the state while the run that begins at lo is being found: it stands for ga; what lies at lo to hi came from there, the rest behind is as it was -/
structure Rg (F : Nat → Keyed) (kd : SortKind) (n : Nat) (p : Array (Nat × Nat × Nat)) (g₀ : Array Nat) (lo hi : Nat) (ga : Array Nat) (st : SortSt) : Prop where
  arr : arrOf st = ga.map F
  kind : kindOf st = kd
  failed : failedOf st = none
  pend : pendingOf st = p
  perm : ga.Perm (Array.range n)
  blk : ∀ i, lo ≤ i → i < hi → lo ≤ KG ga i ∧ KG ga i < hi
  unt : ∀ i, hi ≤ i → i < n → KG ga i = i
  pre : ∀ i, i < lo → KG ga i = KG g₀ i

section
variable {F : Nat → Keyed} {M : Model} {A : Around} {E : Value → Shared → Prop} {s : Shared} {kd : SortKind} {n : Nat} {kl : Nat → Nat → Bool} {p : Array (Nat × Nat × Nat)} {g₀ ga : Array Nat} {lo hi : Nat} {st : SortSt} {R : Nat → Nat → Prop}

theorem Rg.size (h : Rg F kd n p g₀ lo hi ga st) : ga.size = n := h.perm.size_eq.trans Array.size_range
theorem Rg.lt (h : Rg F kd n p g₀ lo hi ga st) {i : Nat} (hi' : i < n) : KG ga i < n ∧ (arrOf st)[i]? = some (F (KG ga i)) := by
  have hs : i < ga.size := h.size.symm ▸ hi'
  have e : KG ga i = ga[i] := by unfold KG; rw [getElem?_pos ga i hs]; rfl
  have hm : ga[i] ∈ ga.toList := by simp
  have hr := (Array.perm_iff_toList_perm.mp h.perm).mem_iff.mp hm
  rw [Array.toList_range, List.mem_range] at hr
  refine ⟨e ▸ hr, ?_⟩
  rw [h.arr, Array.getElem?_map, getElem?_pos ga i hs, e]; rfl
theorem wpS_ltR (C : Cmp M A E s kd F n kl) (h : Rg F kd n p g₀ lo hi ga st) {i j : Nat} (hi' : i < n) (hj : j < n) {Q : Option Bool → SortSt → Prop} (hq : Q (some (kl (KG ga i) (KG ga j))) st) :
    wpS M A E s (ltAt' i j) Q st := by
  rw [ltAt'_eq]
  refine wpS_bind (wpS_get (wpS_bind (wpS_elem (h.lt hi').2 (wpS_bind (wpS_elem (h.lt hj).2 ?_)))))
  exact C st _ _ h.kind (h.lt hi').1 (h.lt hj).1 _ hq
theorem Rg.ext (h : Rg F kd n p g₀ lo hi ga st) {hi' : Nat} (h1 : hi ≤ hi') (h2 : hi' ≤ n) (h3 : lo ≤ hi) : Rg F kd n p g₀ lo hi' ga st :=
  ⟨h.arr, h.kind, h.failed, h.pend, h.perm, fun i a b => by
    rcases Nat.lt_or_ge i hi with c | c
    · exact ⟨(h.blk i a c).1, Nat.lt_of_lt_of_le (h.blk i a c).2 h1⟩
    · rw [h.unt i c (Nat.lt_of_lt_of_le b h2)]; exact ⟨a, b⟩, fun i a => h.unt i (Nat.le_trans h1 a), h.pre⟩
theorem Rg.mirror (h : Rg F kd n p g₀ lo hi ga st) {i j : Nat} (hi' : lo ≤ i) (hj : j ≤ hi) (hn : hi ≤ n) : Rg F kd n p g₀ lo hi (PyProof.Rows.mirror ga i j ((j - i) / 2)) (setArr st (PyProof.Rows.mirror (arrOf st) i j ((j - i) / 2))) := by
  have hsz : j ≤ ga.size := h.size.symm ▸ Nat.le_trans hj hn
  refine ⟨?_, h.kind, h.failed, h.pend, (mirror_perm _ _ _ _).trans h.perm, fun k a b => ?_, fun k a b => ?_, fun k a => ?_⟩
  · show PyProof.Rows.mirror (arrOf st) i j ((j - i) / 2) = _
    rw [h.arr]; exact swaps_map F _ _ _ _
  · rw [KG_mirror hsz]
    split
    · exact h.blk _ (by omega) (by omega)
    · exact h.blk _ a b
  · rw [KG_mirror hsz, if_neg (fun c => Nat.lt_irrefl _ (Nat.lt_of_lt_of_le c.2 (Nat.le_trans hj a)))]; exact h.unt k a b
  · rw [KG_mirror hsz, if_neg (fun c => Nat.lt_irrefl _ (Nat.lt_of_lt_of_le a (Nat.le_trans hi' c.1)))]; exact h.pre k a
theorem SrtR.one (h : hi ≤ lo + 1) : SrtR R ga lo hi := fun i j a b c => absurd (Nat.lt_of_lt_of_le c h) (Nat.not_lt_of_le (Nat.succ_le_of_lt (Nat.lt_of_le_of_lt a b)))
theorem SrtR.ext (hs : SrtR R ga lo hi) (tr : ∀ {a b c}, R a b → R b c → R a c) (hl : lo < hi) (hr : R (KG ga (hi - 1)) (KG ga hi)) : SrtR R ga lo (hi + 1) := fun i j a b c => by
  rcases Nat.lt_or_eq_of_le (Nat.le_of_lt_succ c) with c | rfl
  · exact hs i j a b c
  · rcases Nat.lt_or_eq_of_le (Nat.le_sub_one_of_lt b) with d | rfl
    · exact tr (hs i (j - 1) a d (Nat.sub_one_lt_of_lt hl)) hr
    · exact hr
theorem SrtR.mirror (hs : SrtR R ga lo hi) (hsz : hi ≤ ga.size) : SrtR (fun a b => R b a) (PyProof.Rows.mirror ga lo hi ((hi - lo) / 2)) lo hi := fun i j a b c => by
  rw [KG_mirror hsz, KG_mirror hsz, if_pos ⟨a, Nat.lt_trans b c⟩, if_pos ⟨Nat.le_trans a (Nat.le_of_lt b), c⟩]
  exact hs _ _ (by omega) (by omega) (by omega)

/-- a block of like keys, turned round -/
theorem like_mirror (W : Wk kl) {b h : Nat} (hsz : h ≤ ga.size) (e : ∀ i, b ≤ i → i < h → KG ga i = i ∧ kl (h - 1) i = false ∧ kl i (h - 1) = false) : SrtR (Rr kl) (PyProof.Rows.mirror ga b h ((h - b) / 2)) b h := by
  refine SrtR.mirror (R := Rk kl) (fun i j a c d => ?_) hsz
  have h1 := e i a (Nat.lt_trans c d)
  have h2 := e j (Nat.le_trans a (Nat.le_of_lt c)) d
  rw [h1.1, h2.1]
  exact .inr ⟨W.neg h2.2.2 h1.2.1, c⟩
end
end Mine
namespace Mine
open PySem PyProof.Rows

noncomputable def ascL (lo a nrem : Nat) : StateT SortSt Sem AscSt :=
  forIn [a:nrem] ((none, a) : AscSt) fun _ c => do
    let x ← ltAt' (lo + c.2) (lo + c.2 - 1)
    match x with
    | some smaller => if smaller = true then pure (.done (none, c.2)) else pure (.yield (none, c.2 + 1))
    | _ => pure (.done (some none, c.2))
noncomputable def tailL (lo n nrem : Nat) : StateT SortSt Sem (Option Nat) := do
  reverseSlice' lo (lo + n)
  let c ← ascL lo n nrem
  match c.1 with
  | some r => pure r
  | none => pure (some c.2)
noncomputable def descT (lo n q : Nat) : StateT SortSt Sem (ForInStep DescSt) := do
  let x ← ltAt' (lo + n) (lo + n - 1)
  match x with
  | some smaller =>
    if smaller = true then
      if q > 0 then do
        reverseSlice' (lo + n - (q + 1)) (lo + n)
        pure (.yield (none, n + 1, 0))
      else pure (.yield (none, n + 1, 0))
    else do
      let x ← ltAt' (lo + n - 1) (lo + n)
      match x with
      | some larger => if larger = true then pure (.done (none, n, q)) else pure (.yield (none, n + 1, q + 1))
      | _ => pure (.done (some none, n, q))
  | _ => pure (.done (some none, n, q))
noncomputable def descP (lo n nrem : Nat) : StateT SortSt Sem (Option Nat) := do
  liftM (rule "list.sort.descending-run")
  let c ← forIn [n + 1:nrem] ((none, n + 1, 0) : DescSt) fun _ c => descT lo c.2.1 c.2.2
  match c.1 with
  | some r => pure r
  | none =>
    if c.2.2 > 0 then do
      reverseSlice' (lo + c.2.1 - (c.2.2 + 1)) (lo + c.2.1)
      tailL lo c.2.1 nrem
    else tailL lo c.2.1 nrem
theorem countRunL_eq (lo nrem : Nat) : countRun' lo nrem = (do
    let c ← ascL lo 1 nrem
    match c.1 with
    | some r => pure r
    | none =>
      if (c.2 == nrem) = true then pure (some c.2)
      else if c.2 > 1 then do
        let x ← ltAt' lo (lo + c.2 - 1)
        match x with
        | some rose => if rose = true then pure (some c.2) else do
            reverseSlice' lo (lo + c.2)
            descP lo c.2 nrem
        | _ => pure none
      else descP lo c.2 nrem) := by
  have tl : ∀ n, (do
      reverseSlice' lo (lo + n)
      let mut n := n
      for _ in [n:nrem] do
        let some smaller ← ltAt' (lo + n) (lo + n - 1) | return none
        if smaller then break
        n := n + 1
      return some n : StateT SortSt Sem (Option Nat)) = tailL lo n nrem := fun n => by
    unfold tailL
    refine congrArg (bind _) (funext fun _ => congr (congrArg bind rfl) (funext fun c => ?_))
    obtain ⟨r, c⟩ := c; cases r <;> rfl
  have dp : ∀ n, (do
      rule "list.sort.descending-run"
      let mut n := n + 1
      let mut neq := 0
      for _ in [n:nrem] do
        let some smaller ← ltAt' (lo + n) (lo + n - 1) | return none
        if smaller then
          if neq > 0 then reverseSlice' (lo + n - (neq + 1)) (lo + n)
          neq := 0
        else
          let some larger ← ltAt' (lo + n - 1) (lo + n) | return none
          if larger then break
          neq := neq + 1
        n := n + 1
      if neq > 0 then reverseSlice' (lo + n - (neq + 1)) (lo + n)
      reverseSlice' lo (lo + n)
      for _ in [n:nrem] do
        let some smaller ← ltAt' (lo + n) (lo + n - 1) | return none
        if smaller then break
        n := n + 1
      return some n : StateT SortSt Sem (Option Nat)) = descP lo n nrem := fun n => by
    unfold descP
    refine congrArg (bind _) (funext fun _ => congr (congrArg bind rfl) (funext fun c => ?_))
    obtain ⟨r, c⟩ := c
    cases r with
    | some r => rfl
    | none =>
      dsimp only
      split
      · exact congrArg (bind _) (funext fun _ => tl c.1)
      · exact tl c.1
  rw [countRun'_eq]
  refine congr (congrArg bind rfl) (funext fun c => ?_)
  obtain ⟨r, c⟩ := c
  cases r with
  | some r => rfl
  | none =>
    dsimp only
    split
    · rfl
    · split
      · refine congrArg (bind _) (funext fun x => ?_)
        cases x with
        | none => rfl
        | some x =>
          dsimp only
          split
          · rfl
          · exact congrArg (bind _) (funext fun _ => dp c)
      · exact dp c
end Mine
namespace Mine
open PySem PyProof.Rows

theorem half_one (h : Nat) : (h - (h - (0 + 1))) / 2 = 0 := by
  cases h with
  | zero => rfl
  | succ h => show (h + 1 - h) / 2 = 0; rw [Nat.add_sub_cancel_left]
section
variable {F : Nat → Keyed} {M : Model} {A : Around} {E : Value → Shared → Prop} {s : Shared} {kd : SortKind} {n : Nat} {kl : Nat → Nat → Bool} {p : Array (Nat × Nat × Nat)} {g₀ ga : Array Nat} {lo hi : Nat} {st : SortSt}
variable (W : Wk kl) (C : Cmp M A E s kd F n kl)

omit kl W C in
theorem wpS_rev {i j : Nat} {Q : Unit → SortSt → Prop} (h : Q () (setArr st (mirror (arrOf st) i j ((j - i) / 2)))) : wpS M A E s (reverseSlice' i j) Q st := by
  rw [reverseSlice'_eq]; exact wpS_modify h

include W C in
theorem ascL_ok {a nrem : Nat} {Q : AscSt → SortSt → Prop} (hn : lo + nrem ≤ n) (ha : 1 ≤ a) (han : a ≤ nrem) (hB : Rg F kd n p g₀ lo (lo + a) ga st) (hs : SrtR (Rk kl) ga lo (lo + a))
    (h : ∀ m, a ≤ m → m ≤ nrem → SrtR (Rk kl) ga lo (lo + m) → (m = nrem ∨ kl (lo + m) (KG ga (lo + m - 1)) = true) → Q (none, m) st) :
    wpS M A E s (ascL lo a nrem) Q st := by
  refine wpS_forRange (I := fun x c st' => st' = st ∧ c = (none, x) ∧ SrtR (Rk kl) ga lo (lo + x)) ?step ?fin ⟨rfl, rfl, hs⟩
  case fin =>
    rintro c st' ⟨rfl, rfl, hs'⟩
    rw [Nat.max_eq_right han] at hs' ⊢
    exact h nrem han (Nat.le_refl _) hs' (.inl rfl)
  case step =>
    rintro x c st' hax hxn ⟨rfl, rfl, hs'⟩
    have hx : lo + x < n := Nat.lt_of_lt_of_le (Nat.add_lt_add_left hxn lo) hn
    have hlt : lo < lo + x := Nat.lt_add_of_pos_right (Nat.lt_of_lt_of_le ha hax)
    have hB' := hB.ext (Nat.add_le_add_left hax lo) (Nat.le_of_lt hx) (Nat.le_add_right _ _)
    have hu : KG ga (lo + x) = lo + x := hB'.unt _ (Nat.le_refl _) hx
    refine wpS_bind (wpS_ltR C hB' hx (Nat.lt_of_le_of_lt (Nat.sub_le _ _) hx) ?_)
    dsimp only
    rw [hu]
    cases e : kl (lo + x) (KG ga (lo + x - 1)) with
    | true => exact wpS_pure (h x hax (Nat.le_of_lt hxn) hs' (.inr e))
    | false =>
      refine wpS_pure ⟨rfl, rfl, hs'.ext (Rk.tr W) hlt (.inr ⟨by rw [hu]; exact e, ?_⟩)⟩
      rw [hu]
      exact (hB'.blk _ (Nat.le_sub_one_of_lt hlt) (Nat.sub_one_lt_of_lt hlt)).2

/-- what countRun gives -/
noncomputable abbrev RunQ (F : Nat → Keyed) (kd : SortKind) (n : Nat) (kl : Nat → Nat → Bool) (p : Array (Nat × Nat × Nat)) (g₀ : Array Nat) (lo nrem : Nat) (Q : Option Nat → SortSt → Prop) : Prop :=
  ∀ m ga' st', 1 ≤ m → m ≤ nrem → Rg F kd n p g₀ lo (lo + m) ga' st' → SrtR (Rk kl) ga' lo (lo + m) → Q (some m) st'

include W C in
theorem tailL_ok {m nrem : Nat} {Q : Option Nat → SortSt → Prop} (hn : lo + nrem ≤ n) (h1 : 1 ≤ m) (hm : m ≤ nrem) (hB : Rg F kd n p g₀ lo (lo + m) ga st) (hs : SrtR (Rr kl) ga lo (lo + m))
    (h : RunQ F kd n kl p g₀ lo nrem Q) : wpS M A E s (tailL lo m nrem) Q st := by
  have hn' : lo + m ≤ n := Nat.le_trans (Nat.add_le_add_left hm lo) hn
  have hB' := hB.mirror (Nat.le_refl lo) (Nat.le_refl _) hn'
  refine wpS_bind (wpS_rev (wpS_bind (ascL_ok W C hn h1 hm hB' (hs.mirror (hB.size.symm ▸ hn')) fun k a b c _ => ?_)))
  exact wpS_pure (h k _ _ (Nat.le_trans h1 a) b (hB'.ext (Nat.add_le_add_left a lo) (Nat.le_trans (Nat.add_le_add_left b lo) hn) (Nat.le_add_right _ _)) c)

/-- the descending run: h is its end, the last q + 1 have like keys -/
structure Dn (kl : Nat → Nat → Bool) (ga : Array Nat) (lo b h : Nat) : Prop where
  lob : lo ≤ b
  bh : b < h
  d0 : SrtR (Rr kl) ga lo b
  d1 : ∀ i, lo ≤ i → i < b → kl (h - 1) (KG ga i) = true
  d2 : ∀ i, b ≤ i → i < h → KG ga i = i ∧ kl (h - 1) i = false ∧ kl i (h - 1) = false
include W in
theorem Dn.close {b h : Nat} (D : Dn kl ga lo b h) (hsz : h ≤ ga.size) : SrtR (Rr kl) (mirror ga b h ((h - b) / 2)) lo h ∧ ∀ y, kl y (h - 1) = true → ∀ i, lo ≤ i → i < h → kl y (KG (mirror ga b h ((h - b) / 2)) i) = true := by
  have inb : ∀ i, b ≤ i → i < h → ∃ j, KG (mirror ga b h ((h - b) / 2)) i = j ∧ kl (h - 1) j = false ∧ kl j (h - 1) = false := fun i a c => by
    refine ⟨b + h - 1 - i, ?_⟩
    have hj := D.d2 (b + h - 1 - i) (by omega) (by omega)
    exact ⟨by rw [KG_mirror hsz, if_pos ⟨a, c⟩, hj.1], hj.2⟩
  have out : ∀ i, i < b → KG (mirror ga b h ((h - b) / 2)) i = KG ga i := fun i a => by
    rw [KG_mirror hsz, if_neg fun c => Nat.lt_irrefl _ (Nat.lt_of_lt_of_le a c.1)]
  refine ⟨fun i j a c d => ?_, fun y hy i a c => ?_⟩
  · rcases Nat.lt_or_ge i b with hi | hi
    · rcases Nat.lt_or_ge j b with hj | hj
      · rw [out i hi, out j hj]; exact D.d0 i j a c hj
      · obtain ⟨k, e, e1, e2⟩ := inb j hj d
        rw [out i hi, e]; exact .inl (W.le_lt e1 (D.d1 i a hi))
    · exact like_mirror W hsz D.d2 i j hi c d
  · rcases Nat.lt_or_ge i b with hi | hi
    · rw [out i hi]; exact W.tr hy (D.d1 i a hi)
    · obtain ⟨k, e, e1, e2⟩ := inb i hi c
      rw [e]; exact W.lt_le hy e2

include W C in
theorem descT_ok {x q nrem : Nat} (hx : lo + x < n) (hq : q + 1 ≤ x) (hB : Rg F kd n p g₀ lo (lo + x) ga st) (D : Dn kl ga lo (lo + x - (q + 1)) (lo + x)) {Q : ForInStep DescSt → SortSt → Prop}
    (h1 : ∀ q' ga' st', q' + 1 ≤ x + 1 → Rg F kd n p g₀ lo (lo + (x + 1)) ga' st' → Dn kl ga' lo (lo + (x + 1) - (q' + 1)) (lo + (x + 1)) → Q (.yield (none, x + 1, q')) st')
    (h2 : Q (.done (none, x, q)) st) : wpS M A E s (descT lo x q) Q st := by
  have hlt : lo < lo + x := Nat.lt_add_of_pos_right (Nat.lt_of_lt_of_le (Nat.succ_pos q) hq)
  have hu : KG ga (lo + x) = lo + x := hB.unt _ (Nat.le_refl _) hx
  have hl : KG ga (lo + x - 1) = lo + x - 1 := (D.d2 _ (Nat.sub_le_sub_left (Nat.succ_pos q) _) (Nat.sub_one_lt_of_lt hlt)).1
  have hx1 : lo + x - 1 < n := Nat.lt_of_le_of_lt (Nat.sub_le _ _) hx
  have hsz : lo + x ≤ ga.size := hB.size.symm ▸ Nat.le_of_lt hx
  refine wpS_bind (wpS_ltR C hB hx hx1 ?_)
  rw [hu, hl]
  cases e : kl (lo + x) (lo + x - 1) with
  | true =>
    have fin : ∀ ga' st', Rg F kd n p g₀ lo (lo + x) ga' st' → SrtR (Rr kl) ga' lo (lo + x) → (∀ i, lo ≤ i → i < lo + x → kl (lo + x) (KG ga' i) = true) → Q (.yield (none, x + 1, 0)) st' := fun ga' st' a b c => by
      refine h1 0 ga' st' (Nat.succ_le_succ (Nat.zero_le _)) (a.ext (Nat.le_succ _) hx (Nat.le_of_lt hlt)) ⟨Nat.le_of_lt hlt, Nat.lt_succ_self _, b, c, fun i a1 b1 => ?_⟩
      have ei : i = lo + x := Nat.le_antisymm (Nat.le_of_lt_succ b1) a1
      subst ei
      exact ⟨a.unt _ (Nat.le_refl _) hx, W.irr _, W.irr _⟩
    have cl := D.close W hsz
    show wpS M A E s (if q > 0 then _ else _) Q st
    split
    · exact wpS_bind (wpS_rev (wpS_pure (fin _ _ (hB.mirror D.lob (Nat.le_refl _) (Nat.le_of_lt hx)) cl.1 (cl.2 _ e))))
    · next hq0 =>
      have eq0 : q = 0 := Nat.eq_zero_of_not_pos hq0
      subst eq0
      have e0 : (lo + x - (lo + x - (0 + 1))) / 2 = 0 := half_one _
      rw [e0] at cl
      exact wpS_pure (fin ga st hB cl.1 (cl.2 _ e))
  | false =>
    refine wpS_bind (wpS_ltR C hB hx1 hx ?_)
    rw [hu, hl]
    cases e2 : kl (lo + x - 1) (lo + x) with
    | true => exact wpS_pure h2
    | false =>
      refine wpS_pure (h1 (q + 1) ga st (Nat.succ_le_succ hq) (hB.ext (Nat.le_succ _) hx (Nat.le_of_lt hlt)) ?_)
      have eb : lo + (x + 1) - (q + 1 + 1) = lo + x - (q + 1) := Nat.succ_sub_succ _ _
      rw [eb]
      refine ⟨D.lob, Nat.lt_succ_of_lt D.bh, D.d0, fun i a b => W.le_lt e2 (D.d1 i a b), fun i a b => ?_⟩
      rcases Nat.lt_or_eq_of_le (Nat.le_of_lt_succ b) with b | rfl
      · exact ⟨(D.d2 i a b).1, W.neg e (D.d2 i a b).2.1, W.neg (D.d2 i a b).2.2 e2⟩
      · exact ⟨hu, W.irr _, W.irr _⟩

include W C in
theorem descP_ok {m nrem : Nat} {Q : Option Nat → SortSt → Prop} (hn : lo + nrem ≤ n) (hm : m + 1 ≤ nrem) (hB : Rg F kd n p g₀ lo (lo + m) ga st) (hs : SrtR (Rr kl) ga lo (lo + m))
    (hd : ∀ i, lo ≤ i → i < lo + m → kl (lo + m) (KG ga i) = true) (h : RunQ F kd n kl p g₀ lo nrem Q) : wpS M A E s (descP lo m nrem) Q st := by
  refine wpS_bind (wpS_lift (wpAny_rule ⟨rfl, ?_⟩))
  have hmn : lo + m < n := Nat.lt_of_lt_of_le (Nat.add_lt_add_left hm lo) hn
  have d2 : ∀ i, lo + m ≤ i → i < lo + (m + 1) → KG ga i = i ∧ kl (lo + (m + 1) - 1) i = false ∧ kl i (lo + (m + 1) - 1) = false := fun i a b => by
    have ei : i = lo + m := Nat.le_antisymm (Nat.le_of_lt_succ b) a
    subst ei
    exact ⟨hB.unt _ (Nat.le_refl _) hmn, W.irr _, W.irr _⟩
  refine wpS_bind (wpS_mono (wpS_forRange (I := fun x c st' => ∃ q ga', c = (none, x, q) ∧ q + 1 ≤ x ∧ Rg F kd n p g₀ lo (lo + x) ga' st' ∧ Dn kl ga' lo (lo + x - (q + 1)) (lo + x))
    (Q := fun c st' => ∃ x q ga', c = (none, x, q) ∧ 1 ≤ x ∧ x ≤ nrem ∧ Rg F kd n p g₀ lo (lo + x) ga' st' ∧ Dn kl ga' lo (lo + x - (q + 1)) (lo + x)) ?step ?fin
    ⟨0, ga, rfl, Nat.succ_le_succ (Nat.zero_le _), hB.ext (Nat.le_succ _) hmn (Nat.le_add_right _ _), Nat.le_add_right _ _, Nat.lt_succ_self _, hs, hd, d2⟩) ?post)
  case fin =>
    rintro c st' ⟨q, ga', rfl, hq, hB', D⟩
    rw [Nat.max_eq_right hm] at hq hB' D ⊢
    exact ⟨nrem, q, ga', rfl, Nat.le_trans (Nat.succ_pos _) hm, Nat.le_refl _, hB', D⟩
  case step =>
    rintro x c st' hax hxn ⟨q, ga', rfl, hq, hB', D⟩
    exact descT_ok (nrem := nrem) W C (Nat.lt_of_lt_of_le (Nat.add_lt_add_left hxn lo) hn) hq hB' D (fun q' ga'' st'' a b c => ⟨q', ga'', rfl, a, b, c⟩)
      ⟨x, q, ga', rfl, Nat.le_trans (Nat.succ_pos _) hq, Nat.le_of_lt hxn, hB', D⟩
  case post =>
    rintro c st' ⟨x, q, ga', rfl, hx1, hx, hB', D⟩
    have hn' : lo + x ≤ n := Nat.le_trans (Nat.add_le_add_left hx lo) hn
    have cl := (D.close W (hB'.size.symm ▸ hn')).1
    show wpS M A E s (if q > 0 then _ else _) Q st'
    split
    · exact wpS_bind (wpS_rev (tailL_ok W C hn hx1 hx (hB'.mirror D.lob (Nat.le_refl _) hn') cl h))
    · next hq0 =>
      have eq0 : q = 0 := Nat.eq_zero_of_not_pos hq0
      subst eq0
      have e0 : (lo + x - (lo + x - (0 + 1))) / 2 = 0 := half_one _
      rw [e0] at cl
      exact tailL_ok W C hn hx1 hx hB' cl h

include W C in
theorem countRun_ok {nrem : Nat} {Q : Option Nat → SortSt → Prop} (hn : lo + nrem ≤ n) (h1 : 1 ≤ nrem) (hB : Rg F kd n p g₀ lo lo ga st) (h : RunQ F kd n kl p g₀ lo nrem Q) :
    wpS M A E s (countRun' lo nrem) Q st := by
  rw [countRunL_eq]
  have hB1 : ∀ m, m ≤ nrem → Rg F kd n p g₀ lo (lo + m) ga st := fun m hm => hB.ext (Nat.le_add_right _ _) (Nat.le_trans (Nat.add_le_add_left hm lo) hn) (Nat.le_refl _)
  have unt : ∀ i, lo ≤ i → i < n → KG ga i = i := hB.unt
  refine wpS_bind (ascL_ok W C hn (Nat.le_refl 1) h1 (hB1 1 h1) (SrtR.one (Nat.le_refl _)) fun m a b c d => ?_)
  show wpS M A E s (if (m == nrem) = true then _ else _) Q st
  split
  · exact wpS_pure (h m ga st a b (hB1 m b) c)
  · next hne =>
    have hm : m + 1 ≤ nrem := Nat.lt_of_le_of_ne b fun e => hne (beq_iff_eq.mpr e)
    have d' : kl (lo + m) (KG ga (lo + m - 1)) = true := d.resolve_left fun e => hne (beq_iff_eq.mpr e)
    have hmn : lo + m < n := Nat.lt_of_lt_of_le (Nat.add_lt_add_left hm lo) hn
    have hlt : lo < lo + m := Nat.lt_add_of_pos_right a
    have hl1 : lo + m - 1 < n := Nat.lt_of_le_of_lt (Nat.sub_le _ _) hmn
    have ul : KG ga (lo + m - 1) = lo + m - 1 := unt _ (Nat.le_sub_one_of_lt hlt) hl1
    rw [ul] at d'
    show wpS M A E s (if m > 1 then _ else _) Q st
    split
    · refine wpS_bind (wpS_ltR C hB (Nat.lt_trans hlt hmn) hl1 ?_)
      rw [unt lo (Nat.le_refl _) (Nat.lt_trans hlt hmn), ul]
      cases e : kl lo (lo + m - 1) with
      | true => exact wpS_pure (h m ga st a b (hB1 m b) c)
      | false =>
        have D : Dn kl ga lo lo (lo + m) := ⟨Nat.le_refl _, hlt, SrtR.one (Nat.le_succ _), fun i a b => absurd b (Nat.not_lt_of_le a), fun i a1 b1 => by
          have h1 : kl i lo = false := by
            rcases Nat.lt_or_eq_of_le a1 with a2 | rfl
            · have := (c lo i (Nat.le_refl _) a2 b1).le W
              rwa [unt lo (Nat.le_refl _) (Nat.lt_trans hlt hmn), unt i a1 (Nat.lt_trans b1 hmn)] at this
            · exact W.irr _
          have h2 : kl (lo + m - 1) i = false := by
            rcases Nat.lt_or_eq_of_le (Nat.le_sub_one_of_lt b1) with b2 | rfl
            · have := (c i (lo + m - 1) a1 b2 (Nat.sub_one_lt_of_lt hlt)).le W
              rwa [ul, unt i a1 (Nat.lt_trans b1 hmn)] at this
            · exact W.irr _
          exact ⟨unt i a1 (Nat.lt_trans b1 hmn), h2, W.neg h1 e⟩⟩
        have cl := D.close W (hB.size.symm ▸ Nat.le_of_lt hmn)
        exact wpS_bind (wpS_rev (descP_ok W C hn hm ((hB1 m b).mirror (Nat.le_refl _) (Nat.le_refl _) (Nat.le_of_lt hmn)) cl.1 (cl.2 _ d') h))
    · next hgt =>
      have e1 : m = 1 := Nat.le_antisymm (Nat.le_of_not_lt hgt) a
      subst e1
      refine descP_ok W C hn hm (hB1 1 b) (SrtR.one (Nat.le_refl _)) (fun i a1 b1 => ?_) h
      have ei : i = lo := Nat.le_antisymm (Nat.le_of_lt_succ b1) a1
      subst ei
      rw [unt _ (Nat.le_refl _) (Nat.lt_trans hlt hmn)]; exact d'
end
end Mine
namespace Mine
open PySem PyProof.Rows

section
variable {F : Nat → Keyed} {M : Model} {A : Around} {E : Value → Shared → Prop} {s : Shared} {kd : SortKind} {n : Nat} {kl : Nat → Nat → Bool} {p : Array (Nat × Nat × Nat)} {g₀ ga : Array Nat} {lo hi : Nat} {st : SortSt}

/-- the key at x is put in at y -/
theorem KG_ins {x y : Nat} (hx : x < ga.size) (hy : y ≤ x) (k : Nat) : KG (bubble ga x (x - y)) k = if k = y then KG ga x else if y < k ∧ k ≤ x then KG ga (k - 1) else KG ga k := by
  rw [KG_bubble hx (Nat.sub_le _ _), Nat.sub_sub_self hy]
theorem Rg.ins (h : Rg F kd n p g₀ lo hi ga st) {y : Nat} (hx : hi < n) (hl : lo ≤ y) (hy : y ≤ hi) : Rg F kd n p g₀ lo (hi + 1) (bubble ga hi (hi - y)) (setArr st (bubble (arrOf st) hi (hi - y))) := by
  have hsz : hi < ga.size := h.size.symm ▸ hx
  have h' := h.ext (Nat.le_succ _) hx (Nat.le_trans hl hy)
  refine ⟨?_, h.kind, h.failed, h.pend, (bubble_perm _ _ _).trans h.perm, fun k a b => ?_, fun k a b => ?_, fun k a => ?_⟩
  · show bubble (arrOf st) hi (hi - y) = _
    rw [h.arr]; exact swaps_map F _ _ _ _
  · rw [KG_ins hsz hy]
    split
    · exact h'.blk hi (Nat.le_trans hl hy) (Nat.lt_succ_self _)
    · split
      · next c => exact h'.blk (k - 1) (Nat.le_sub_one_of_lt (Nat.lt_of_le_of_lt hl c.1)) (Nat.lt_of_le_of_lt (Nat.sub_le _ _) b)
      · exact h'.blk k a b
  · have h1 : y < k := Nat.lt_of_le_of_lt hy a
    rw [KG_ins hsz hy, if_neg (Nat.ne_of_gt h1), if_neg fun c => Nat.not_lt_of_le c.2 a]; exact h.unt k (Nat.le_of_lt a) b
  · have h1 : k < y := Nat.lt_of_lt_of_le a hl
    rw [KG_ins hsz hy, if_neg (Nat.ne_of_lt h1), if_neg fun c => Nat.lt_irrefl _ (Nat.lt_trans h1 c.1)]; exact h.pre k a
theorem SrtR.ins {R : Nat → Nat → Prop} (hs : SrtR R ga lo hi) {y : Nat} (hsz : hi < ga.size) (hy : y ≤ hi)
    (h1 : ∀ i, lo ≤ i → i < y → R (KG ga i) (KG ga hi)) (h2 : ∀ i, y ≤ i → i < hi → R (KG ga hi) (KG ga i)) (hl : lo ≤ y) : SrtR R (bubble ga hi (hi - y)) lo (hi + 1) := fun i j a b c => by
  have hj : j ≤ hi := Nat.le_of_lt_succ c
  have hjp : j - 1 < j := Nat.sub_one_lt_of_lt b
  rw [KG_ins hsz hy, KG_ins hsz hy]
  by_cases e1 : i = y
  · rw [if_pos e1, if_neg (fun e => Nat.lt_irrefl _ (by rw [e1, ← e] at b; exact b)), if_pos ⟨e1 ▸ b, hj⟩]
    exact h2 _ (Nat.le_sub_one_of_lt (e1 ▸ b)) (Nat.lt_of_lt_of_le hjp hj)
  · rw [if_neg e1]
    by_cases e2 : y < i ∧ i ≤ hi
    · have hyj : y < j := Nat.lt_trans e2.1 b
      rw [if_pos e2, if_neg (Nat.ne_of_gt hyj), if_pos ⟨hyj, hj⟩]
      exact hs _ _ (Nat.le_trans hl (Nat.le_sub_one_of_lt e2.1)) (Nat.sub_lt_sub_right (Nat.one_le_of_lt e2.1) b) (Nat.lt_of_lt_of_le hjp hj)
    · have hiy : i < y := Nat.lt_of_le_of_ne (Nat.le_of_not_lt fun h => e2 ⟨h, Nat.le_trans (Nat.le_of_lt b) hj⟩) e1
      rw [if_neg e2]
      by_cases e3 : j = y
      · rw [if_pos e3]; exact h1 i a hiy
      · rw [if_neg e3]
        by_cases e4 : y < j ∧ j ≤ hi
        · rw [if_pos e4]; exact hs i (j - 1) a (Nat.lt_of_lt_of_le hiy (Nat.le_sub_one_of_lt e4.1)) (Nat.lt_of_lt_of_le hjp hj)
        · have hjy : j < y := Nat.lt_of_le_of_ne (Nat.le_of_not_lt fun h => e4 ⟨h, hj⟩) e3
          rw [if_neg e4]; exact hs i j a b (Nat.lt_of_lt_of_le hjy hy)

theorem binarySort_ok (W : Wk kl) (C : Cmp M A E s kd F n kl) {len ok : Nat} {Q : Bool → SortSt → Prop} (hn : lo + len ≤ n) (h1 : 1 ≤ ok) (hok : ok ≤ len) (hB : Rg F kd n p g₀ lo (lo + ok) ga st) (hs : SrtR (Rk kl) ga lo (lo + ok))
    (h : ∀ ga' st', Rg F kd n p g₀ lo (lo + len) ga' st' → SrtR (Rk kl) ga' lo (lo + len) → Q true st') : wpS M A E s (binarySort' lo len ok) Q st := by
  rw [binarySort'_eq, Nat.max_eq_left h1]
  refine wpS_bind (wpS_mono (wpS_forRange (I := fun k c st' => c = (none, ()) ∧ ∃ ga', Rg F kd n p g₀ lo (lo + k) ga' st' ∧ SrtR (Rk kl) ga' lo (lo + k))
    (Q := fun c st' => c = (none, ()) ∧ ∃ ga', Rg F kd n p g₀ lo (lo + len) ga' st' ∧ SrtR (Rk kl) ga' lo (lo + len)) ?step ?fin ⟨rfl, ga, hB, hs⟩) ?post)
  case post =>
    rintro c st' ⟨rfl, ga', hB', hs'⟩
    exact wpS_pure (h ga' st' hB' hs')
  case fin =>
    rintro c st' ⟨hc, ga', hB', hs'⟩
    rw [Nat.max_eq_right hok] at hB' hs'
    exact ⟨hc, ga', hB', hs'⟩
  case step =>
    rintro k c st' hak hkn ⟨rfl, ga', hB', hs'⟩
    have hk : lo + k < n := Nat.lt_of_lt_of_le (Nat.add_lt_add_left hkn lo) hn
    have hu : KG ga' (lo + k) = lo + k := hB'.unt _ (Nat.le_refl _) hk
    refine wpS_bind (wpS_mono (wpS_forRange (I := fun x c st'' => st'' = st' ∧ ∃ l r, c = (none, l, r) ∧ l ≤ r ∧ r ≤ k ∧ r - l ≤ k - x ∧
        (∀ i, lo ≤ i → i < lo + l → kl (lo + k) (KG ga' i) = false) ∧ (∀ i, lo + r ≤ i → i < lo + k → kl (lo + k) (KG ga' i) = true))
      (Q := fun c st'' => st'' = st' ∧ ∃ l r, c = (none, l, r) ∧ l ≤ k ∧
        (∀ i, lo ≤ i → i < lo + l → kl (lo + k) (KG ga' i) = false) ∧ (∀ i, lo + l ≤ i → i < lo + k → kl (lo + k) (KG ga' i) = true)) ?istep ?ifin
      ⟨rfl, 0, k, rfl, Nat.zero_le _, Nat.le_refl _, Nat.le_refl _, fun i a b => absurd b (Nat.not_lt_of_le a), fun i a b => absurd b (Nat.not_lt_of_le a)⟩) ?ipost)
    case ifin =>
      rintro c st'' ⟨rfl, l, r, rfl, hlr, hrk, hm, hlo, hhi⟩
      rw [Nat.max_eq_right (Nat.zero_le _), Nat.sub_self] at hm
      have : l = r := Nat.le_antisymm hlr (Nat.le_of_sub_eq_zero (Nat.le_zero.mp hm))
      subst this
      exact ⟨rfl, l, l, rfl, hrk, hlo, hhi⟩
    case istep =>
      rintro x c st'' _ hxk ⟨rfl, l, r, rfl, hlr, hrk, hm, hlo, hhi⟩
      dsimp only
      by_cases hge : l ≥ r
      · rw [if_pos hge]
        have : l = r := Nat.le_antisymm hlr hge
        subst this
        exact wpS_pure ⟨rfl, l, l, rfl, hrk, hlo, hhi⟩
      · rw [if_neg hge]
        have mi := mid_in (Nat.lt_of_not_le hge)
        have m1 : l ≤ (l + r) / 2 ∧ (l + r) / 2 < r ∧ r - ((l + r) / 2 + 1) ≤ k - (x + 1) ∧ (l + r) / 2 - l ≤ k - (x + 1) := ⟨mi.1, mi.2, mid_less mi.1 mi.2 hm hxk⟩
        clear mi
        generalize (l + r) / 2 = m at m1
        have hmk : m < k := Nat.lt_of_lt_of_le m1.2.1 hrk
        have hmk' : lo + m < lo + k := Nat.add_lt_add_left hmk lo
        refine wpS_bind (wpS_ltR C hB' hk (Nat.lt_trans hmk' hk) ?_)
        rw [hu]
        cases e : kl (lo + k) (KG ga' (lo + m)) with
        | true =>
          refine wpS_pure ⟨rfl, l, m, rfl, m1.1, Nat.le_of_lt hmk, m1.2.2.2, hlo, fun i a b => ?_⟩
          rcases Nat.lt_or_eq_of_le a with a | rfl
          · exact W.lt_le e ((hs' _ _ (Nat.le_add_right _ _) a b).le W)
          · exact e
        | false =>
          refine wpS_pure ⟨rfl, m + 1, r, rfl, m1.2.1, hrk, m1.2.2.1, fun i a b => ?_, hhi⟩
          rcases Nat.lt_or_eq_of_le (Nat.le_of_lt_succ b) with b | rfl
          · exact W.neg e ((hs' _ _ a b hmk').le W)
          · exact e
    case ipost =>
      rintro c st'' ⟨rfl, l, r, rfl, hlk, hlo, hhi⟩
      show wpS _ _ _ _ (do moveDown' (lo + k) (lo + l); pure (ForInStep.yield (none, ()))) _ _
      rw [moveDown'_eq]
      have hll := Nat.add_le_add_left hlk lo
      refine wpS_bind (wpS_modify (wpS_pure ⟨rfl, _, hB'.ins hk (Nat.le_add_right _ _) hll, hs'.ins (hB'.size.symm ▸ hk) hll (fun i a b => ?_) (fun i a b => ?_) (Nat.le_add_right _ _)⟩))
      · rw [hu]; exact .inr ⟨hlo i a b, (hB'.blk i a (Nat.lt_of_lt_of_le b hll)).2⟩
      · rw [hu]; exact .inl (hhi i a b)
end
end Mine
namespace Mine
open PySem PyProof.Rows

noncomputable abbrev KL := List Keyed
theorem mergeAt'_eq (i : Nat) : mergeAt' i = (do
  let s ← get
  let (some (sa, na, power), some (sb, nb, _)) := ((pendingOf s)[i]?, (pendingOf s)[i + 1]?) | unsupported "internal:list.sort.pending"
  set (setPending s (((pendingOf s).setIfInBounds i (sa, na + nb, power)).eraseIdxIfInBounds (i + 1)))
  let some k ← gallop' false (← elem' (arrOf s) sb) (arrOf s) sa na 0 | return false
  let (sa, na) := (sa + k, na - k)
  if na == 0 then return true
  let some nb ← gallop' true (← elem' (arrOf s) (sa + na - 1)) (arrOf s) sb nb (nb - 1) | return false
  if nb == 0 then return true
  let x := (arrOf s).extract sa sb
  let y := (arrOf s).extract sb (sb + nb)
  let merged ← if na ≤ nb then mergeLo' x y else mergeHi' x y
  modify fun s => setArr s (merged.toList.zipIdx.foldl (fun a (p, j) => a.setIfInBounds (sa + j) p) (arrOf s))
  return (failedOf (← get)).isNone) := rfl

/-- the whole, from the merged middle -/
theorem whole {kl : Nat → Nat → Bool} (W : Wk kl) {X Y T : List Nat} {k m : Nat} (sx : X.Pairwise (Rk kl)) (sy : Y.Pairwise (Rk kl)) (lt : ∀ p ∈ X, ∀ q ∈ Y, p < q)
    (h1 : ∀ p ∈ X.take k, ∀ y, Y[0]? = some y → kl y p = false) (h2 : ∀ q ∈ Y.drop m, ∀ x, X[X.length - 1]? = some x → kl q x = false)
    (hp : T.Perm (X.drop k ++ Y.take m)) (hs : T.Pairwise (Rk kl)) : (X.take k ++ T ++ Y.drop m).Perm (X ++ Y) ∧ (X.take k ++ T ++ Y.drop m).Pairwise (Rk kl) := by
  have a1 : ∀ p ∈ X.take k, ∀ q ∈ Y, Rk kl p q := fun p hp' q hq => by
    cases Y with
    | nil => cases hq
    | cons y Y =>
      refine .inr ⟨?_, lt p (List.mem_of_mem_take hp') q hq⟩
      rcases List.mem_cons.mp hq with rfl | hq
      · exact h1 p hp' _ rfl
      · exact W.neg (((List.pairwise_cons.mp sy).1 q hq).le W) (h1 p hp' _ rfl)
  have a2 : ∀ p ∈ X, ∀ q ∈ Y.drop m, Rk kl p q := fun p hp q hq => by
    refine .inr ⟨?_, lt p hp q (List.mem_of_mem_drop hq)⟩
    obtain ⟨i, hi, rfl⟩ := List.getElem_of_mem hp
    have hl : X.length - 1 < X.length := Nat.sub_one_lt_of_lt hi
    have e := h2 q hq _ (List.getElem?_eq_getElem hl)
    rcases Nat.lt_or_eq_of_le (Nat.le_sub_one_of_lt hi) with c | c
    · exact W.neg e ((List.pairwise_iff_getElem.mp sx i _ hi hl c).le W)
    · rw [show X[i] = X[X.length - 1] by congr 1]; exact e
  have sxs := List.pairwise_append.mp ((List.take_append_drop k X).symm ▸ sx)
  have sys := List.pairwise_append.mp ((List.take_append_drop m Y).symm ▸ sy)
  constructor
  · have := (List.Perm.append_left (X.take k) hp).append_right (Y.drop m)
    have e : X.take k ++ (X.drop k ++ Y.take m) ++ Y.drop m = X ++ Y := by rw [← List.append_assoc, List.take_append_drop, List.append_assoc, List.take_append_drop]
    rwa [e] at this
  · refine List.pairwise_append.mpr ⟨List.pairwise_append.mpr ⟨sxs.1, hs, fun p hp' q hq => ?_⟩, sys.2.1, fun p hp' q hq => ?_⟩
    · rcases List.mem_append.mp (hp.mem_iff.mp hq) with hq | hq
      · exact sxs.2.2 p hp' q hq
      · exact a1 p hp' q (List.mem_of_mem_take hq)
    · rcases List.mem_append.mp hp' with hp' | hp'
      · exact a2 p (List.mem_of_mem_take hp') q hq
      · rcases List.mem_append.mp (hp.mem_iff.mp hp') with hp' | hp'
        · exact a2 p (List.mem_of_mem_drop hp') q hq
        · exact sys.2.2 p hp' q hq

theorem put_fold {c : Nat} (W : KL) : ∀ (T U V : KL) (i : Nat), c + i = U.length → V.length = T.length →
    (T.zipIdx i).foldl (fun a (x : Keyed × Nat) => a.setIfInBounds (c + x.2) x.1) (U ++ V ++ W).toArray = (U ++ T ++ W).toArray
  | [], U, V, i, _, h => by rw [List.eq_nil_of_length_eq_zero h]; rfl
  | t :: T, U, [], i, _, h => nomatch h
  | t :: T, U, v :: V, i, e, h => by
    rw [List.zipIdx_cons, List.foldl_cons, e]
    have e1 : (U ++ v :: V ++ W).toArray.setIfInBounds U.length t = (U ++ [t] ++ V ++ W).toArray := by
      rw [List.setIfInBounds_toArray]
      congr 1
      rw [List.append_assoc, List.set_append_right _ _ (Nat.le_refl _), Nat.sub_self, List.append_assoc, List.append_assoc]; rfl
    rw [e1, put_fold W T (U ++ [t]) V (i + 1) (by rw [← Nat.add_assoc, e, List.length_append]; rfl) (Nat.succ.inj h), List.append_assoc U [t]]; rfl
end Mine
namespace Mine
open PySem PyProof.Rows

section
variable {F : Nat → Keyed} {M : Model} {A : Around} {E : Value → Shared → Prop} {s : Shared} {kd : SortKind} {n : Nat} {kl : Nat → Nat → Bool} {st : SortSt} {X Y : List Nat}

theorem wpS_set {st st' : SortSt} {Q : PUnit → SortSt → Prop} (h : Q ⟨⟩ st') : wpS M A E s (set st' : StateT SortSt Sem PUnit) Q st := by
  unfold wpS; rw [StateT.run_set]; exact wpAny_pure ⟨rfl, h⟩
theorem getD_left {i : Nat} (h : i < X.length) : (X ++ Y).getD (0 + i) 0 = X.getD i 0 := by
  rw [Nat.zero_add, List.getD_eq_getElem?_getD, List.getD_eq_getElem?_getD, List.getElem?_append_left h]
theorem getD_right (i : Nat) : (X ++ Y).getD (X.length + i) 0 = Y.getD i 0 := by
  rw [List.getD_eq_getElem?_getD, List.getD_eq_getElem?_getD, List.getElem?_append_right (Nat.le_add_right _ _), Nat.add_sub_cancel_left]
theorem pw_getD {L : List Nat} {R : Nat → Nat → Prop} (hs : L.Pairwise R) {i j : Nat} (hij : i < j) (hj : j < L.length) : R (L.getD i 0) (L.getD j 0) := by
  have := List.pairwise_iff_getElem.mp hs i j (Nat.lt_trans hij hj) hj hij
  rwa [List.getElem_eq_getD 0, List.getElem_eq_getD 0] at this
theorem brd_list {L : List Nat} {f b : Nat → Bool} {k : Nat} (h : Brd f L.length k) (e : ∀ i, i < L.length → f i = b (L.getD i 0)) : (∀ x ∈ L.take k, b x = true) ∧ (∀ x ∈ L.drop k, b x = false) := by
  constructor
  · intro x hx
    obtain ⟨j, hj, rfl⟩ := List.getElem_of_mem hx
    have hj' : j < k := Nat.lt_of_lt_of_le hj (List.length_take_le _ _)
    have := h.lo j hj'
    rw [e j (Nat.lt_of_lt_of_le hj' h.le)] at this
    rw [List.getElem_take, List.getElem_eq_getD 0]; exact this
  · intro x hx
    obtain ⟨j, hj, rfl⟩ := List.getElem_of_mem hx
    rw [List.length_drop] at hj
    have hj' : k + j < L.length := Nat.add_lt_of_lt_sub' hj
    have := h.hi (k + j) (Nat.le_add_right _ _) hj'
    rw [e _ hj'] at this
    rw [List.getElem_drop, List.getElem_eq_getD 0]; exact this

theorem mergeAt_ok (W : Wk kl) (C : Cmp M A E s kd F n kl) {pw q : Nat} {Q : Bool → SortSt → Prop} (hk : kindOf st = kd) (ha : arrOf st = tag F (X ++ Y)) (hf : failedOf st = none)
    (hp : pendingOf st = #[(0, X.length, pw), (X.length, Y.length, q)]) (sx : X.Pairwise (Rk kl)) (sy : Y.Pairwise (Rk kl)) (lt : ∀ p ∈ X, ∀ q ∈ Y, p < q) (bn : ∀ p ∈ X ++ Y, p < n)
    (hX : 0 < X.length) (hY : 0 < Y.length)
    (h : ∀ L st', arrOf st' = tag F L → L.Perm (X ++ Y) ∧ L.Pairwise (Rk kl) → failedOf st' = none → pendingOf st' = #[(0, X.length + Y.length, pw)] → Q true st') :
    wpS M A E s (mergeAt' 0) Q st := by
  rw [mergeAt'_eq]
  refine wpS_bind (wpS_get ?_)
  rw [hp, ha]
  refine wpS_bind (wpS_set ?_)
  have hp' : ((#[(0, X.length, pw), (X.length, Y.length, q)] : Array (Nat × Nat × Nat)).setIfInBounds 0 (0, X.length + Y.length, pw)).eraseIdxIfInBounds (0 + 1) = #[(0, X.length + Y.length, pw)] := by rw [List.setIfInBounds_toArray, List.eraseIdxIfInBounds_toArray]; rfl
  rw [hp']
  have hst : ∀ st', Sm (setPending st #[(0, X.length + Y.length, pw)]) st' → arrOf st' = tag F (X ++ Y) ∧ failedOf st' = none ∧ pendingOf st' = #[(0, X.length + Y.length, pw)] :=
    fun st' hs => ⟨hs.arr.trans ha, hs.failed.trans hf, hs.pend⟩
  have hs0 := Sm.rfl' (setPending st #[(0, X.length + Y.length, pw)])
  have hk1 : kindOf (setPending st #[(0, X.length + Y.length, pw)]) = kd := hk
  generalize setPending st #[(0, X.length + Y.length, pw)] = st1 at hst hs0 hk1 ⊢
  obtain ⟨y0, hy0⟩ : ∃ y, Y[0]? = some y := ⟨Y[0], List.getElem?_eq_getElem hY⟩
  have hy0m : y0 ∈ X ++ Y := List.mem_append_right _ (mem_at hy0)
  have fin : ∀ k m, k ≤ X.length → (∀ p ∈ X.take k, kl y0 p = false) → (∀ q ∈ Y.drop m, ∀ x, X[X.length - 1]? = some x → kl q x = false) → ∀ T st', T.Perm (X.drop k ++ Y.take m) → T.Pairwise (Rk kl) →
      arrOf st' = tag F (X.take k ++ T ++ Y.drop m) → failedOf st' = none → pendingOf st' = #[(0, X.length + Y.length, pw)] → Q true st' := fun k m _ h1 h2 T st' h3 h4 h5 h6 h7 =>
    h _ st' h5 (whole W sx sy lt (fun p hp y hy => by rw [hy0] at hy; cases hy; exact h1 p hp) h2 h3 h4) h6 h7
  refine wpS_bind (wpS_elem (tag_get (p := y0) ?_) ?_)
  · rw [List.getElem?_append_right (Nat.le_refl _), Nat.sub_self]; exact hy0
  refine wpS_bind (wpS_gallopR W C hk1 bn (bn y0 hy0m) (fun i j hij hj => by rw [getD_left hj, getD_left (Nat.lt_trans hij hj)]; exact pw_getD sx hij hj)
    (by rw [Nat.zero_add, List.length_append]; exact Nat.le_add_right _ _) hX fun k hk' => ?_)
  have b1 := brd_list (b := fun x => !kl y0 x) hk' fun i hi => by rw [getD_left hi]; rfl
  have b1a : ∀ p ∈ X.take k, kl y0 p = false := fun p hp => by have := b1.1 p hp; cases e : kl y0 p with
    | false => rfl
    | true => rw [e] at this; cases this
  have b1b : ∀ p ∈ X.drop k, kl y0 p = true := fun p hp => by have := b1.2 p hp; cases e : kl y0 p with
    | true => rfl
    | false => rw [e] at this; cases this
  have kle : k ≤ X.length := hk'.le
  dsimp only
  split
  · next hz =>
    have ek : k = X.length := Nat.le_antisymm kle (Nat.le_of_sub_eq_zero (beq_iff_eq.mp hz))
    have hh := hst _ hs0
    refine wpS_pure (fin k Y.length kle b1a (fun q hq => ?_) Y st1 ?_ sy ?_ hh.2.1 hh.2.2)
    · rw [List.drop_length] at hq; cases hq
    · rw [ek, List.drop_length, List.take_length]; exact List.Perm.refl _
    · rw [hh.1, ek, List.drop_length, List.take_length, List.append_nil]
  · next hz =>
    have hkx : k < X.length := Nat.lt_of_le_of_ne kle fun e => hz (beq_iff_eq.mpr (by rw [e, Nat.sub_self]))
    have hlast : X.length - 1 < X.length := Nat.sub_one_lt_of_lt hX
    obtain ⟨xl, hxl⟩ : ∃ x, X[X.length - 1]? = some x := ⟨X[X.length - 1], List.getElem?_eq_getElem hlast⟩
    have ei : 0 + k + (X.length - k) - 1 = X.length - 1 := by rw [Nat.zero_add, Nat.add_sub_cancel' kle]
    rw [ei]
    refine wpS_bind (wpS_elem (tag_get (p := xl) (by rw [List.getElem?_append_left hlast]; exact hxl)) ?_)
    refine wpS_bind (wpS_gallopR W C hk1 bn (bn xl (List.mem_append_left _ (mem_at hxl))) (fun i j hij hj => by rw [getD_right, getD_right]; exact pw_getD sy hij hj)
      (by rw [List.length_append]; exact Nat.le_refl _) (Nat.sub_one_lt_of_lt hY) fun m hm' => ?_)
    have b2 := brd_list (b := fun x => kl x xl) hm' fun i hi => by rw [getD_right]; rfl
    have b2b : ∀ q ∈ Y.drop m, ∀ x, X[X.length - 1]? = some x → kl q x = false := fun q hq x hx => by rw [hxl] at hx; cases hx; exact b2.2 q hq
    dsimp only
    split
    · next hz2 =>
      have em : m = 0 := beq_iff_eq.mp hz2
      have hh := hst _ hs0
      refine wpS_pure (fin k m kle b1a b2b (X.drop k) st1 ?_ (drop_srt sx k) ?_ hh.2.1 hh.2.2)
      · rw [em, List.take_zero, List.append_nil]
      · rw [hh.1, em, List.drop_zero, List.take_append_drop]
    · next hz2 =>
      have hm0 : 0 < m := pos_ne hz2
      have mle : m ≤ Y.length := hm'.le
      have ex : (tag F (X ++ Y)).extract (0 + k) X.length = tag F (X.drop k) := by rw [tag_ext, Nat.zero_add, List.take_left]
      have ey : (tag F (X ++ Y)).extract X.length (X.length + m) = tag F (Y.take m) := by
        rw [tag_ext, List.take_length_add_append, List.drop_left]
      rw [ex, ey]
      have hTwo : Two kl n (X.drop k) (Y.take m) := ⟨drop_srt sx k, sy.sublist (List.take_sublist _ _), fun p hp q hq => lt p (List.mem_of_mem_drop hp) q (List.mem_of_mem_take hq),
        fun p hp => bn p (List.mem_append_left _ (List.mem_of_mem_drop hp)), fun p hp => bn p (List.mem_append_right _ (List.mem_of_mem_take hp)), fun q hq x hx => by
          rw [List.length_drop, List.getElem?_drop, ← Nat.add_sub_assoc (Nat.sub_pos_of_lt hkx), Nat.add_sub_cancel' kle, hxl] at hx
          cases hx; exact b2.1 q hq, fun p hp y hy => by
          rw [List.getElem?_take_of_lt hm0, hy0] at hy
          cases hy; exact b1b p hp⟩
      have l1 : 0 < (X.drop k).length := by rw [List.length_drop]; exact Nat.sub_pos_of_lt hkx
      have l2 : 0 < (Y.take m).length := by rw [List.length_take_of_le mle]; exact hm0
      refine (fun (tl : ∀ r st2, GoodM F kl (X.drop k) (Y.take m) st1 r st2 → wpS M A E s (do
          modify fun s => setArr s (r.toList.zipIdx.foldl (fun a x => a.setIfInBounds (0 + k + x.2) x.1) (arrOf s))
          return (failedOf (← get)).isNone) Q st2) => ?_) (fun r st2 hr => ?_)
      · split
        · exact wpS_bind (wpS_mono (mergeLo_ok W C hTwo hk1 hs0 l1 l2) tl)
        · exact wpS_bind (wpS_mono (mergeHi_ok W C hTwo hk1 hs0 l1 l2) tl)
      obtain ⟨T, rfl, tp, ts, sm⟩ := hr
      have hh := hst _ sm
      refine wpS_bind (wpS_modify (wpS_bind (wpS_get (wpS_pure ?_))))
      have ef : (failedOf (setArr st2 (((tag F T).toList.zipIdx).foldl (fun a x => a.setIfInBounds (0 + k + x.2) x.1) (arrOf st2)))).isNone = true := by
        show (failedOf st2).isNone = true; rw [hh.2.1]; rfl
      have earr : ((tag F T).toList.zipIdx).foldl (fun a x => a.setIfInBounds (0 + k + x.2) x.1) (arrOf st2) = tag F (X.take k ++ T ++ Y.drop m) := by
        rw [hh.1]
        have hl : (X.drop k ++ Y.take m).length = T.length := tp.length_eq.symm
        have e1 : X ++ Y = X.take k ++ (X.drop k ++ Y.take m) ++ Y.drop m := by rw [← List.append_assoc, List.take_append_drop, List.append_assoc, List.take_append_drop]
        rw [e1]
        unfold tag
        rw [List.map_append, List.map_append, List.map_append (l₁ := X.take k ++ T), List.map_append (l₁ := X.take k)]
        exact put_fold _ _ _ _ 0 (by rw [List.length_map, List.length_take_of_le kle, Nat.zero_add]; rfl) (by rw [List.length_map, List.length_map, hl])
      rw [ef]
      exact fin k m kle b1a b2b T (setArr st2 (((tag F T).toList.zipIdx).foldl (fun a x => a.setIfInBounds (0 + k + x.2) x.1) (arrOf st2))) tp ts earr hh.2.1 hh.2.2
end
end Mine
namespace Mine
open PySem PyProof.Rows

section
variable {F : Nat → Keyed} {M : Model} {A : Around} {E : Value → Shared → Prop} {s : Shared} {kd : SortKind} {n : Nat} {kl : Nat → Nat → Bool}

noncomputable abbrev PA := Array (Nat × Nat × Nat)
/-- one run stands, from 0 to n1 -/
structure One (F : Nat → Keyed) (kd : SortKind) (n : Nat) (kl : Nat → Nat → Bool) (mr : Nat) (n1 : Nat) (st : SortSt) : Prop where
  ga : ∃ ga, Rg F kd n #[(0, n1, 0)] ga n1 n1 ga st ∧ SrtR (Rk kl) ga 0 n1 ∧ ∀ i, i < n1 → KG ga i < n1
  pos : 1 ≤ n1
  le : n1 ≤ n
  mr : n - n1 ≤ mr
/-- all is cut up in runs -/
noncomputable def Cut (F : Nat → Keyed) (kd : SortKind) (n : Nat) (kl : Nat → Nat → Bool) (st : SortSt) : Prop :=
  ∃ X Y pw, arrOf st = tag F (X ++ Y) ∧ kindOf st = kd ∧ failedOf st = none ∧ (X ++ Y).Perm (List.range n) ∧ X.Pairwise (Rk kl) ∧ Y.Pairwise (Rk kl) ∧ (∀ p ∈ X, ∀ q ∈ Y, p < q) ∧ 0 < X.length ∧
    ((Y = [] ∧ pendingOf st = #[(0, X.length, pw)]) ∨ (0 < Y.length ∧ pendingOf st = #[(0, X.length, pw), (X.length, Y.length, 0)]))
noncomputable def SDn (F : Nat → Keyed) (n : Nat) (kl : Nat → Nat → Bool) (st : SortSt) : Prop :=
  failedOf st = none ∧ ∃ L, arrOf st = tag F L ∧ L.Perm (List.range n) ∧ L.Pairwise (Rk kl)

theorem minRun_ok (h2 : 2 ≤ n) (hn : n < 128) : 0 < minRun' n n 0 ∧ n ≤ 2 * minRun' n n 0 := by
  obtain ⟨f, rfl⟩ : ∃ f, n = f + 2 := ⟨n - 2, (Nat.sub_add_cancel h2).symm⟩
  rw [minRun'_succ]
  split
  · omega
  · rw [minRun'_succ, if_pos (by omega)]; omega

theorem toList_map (ga : Array Nat) : ga.map F = tag F ga.toList := Array.ext' (by rw [Array.toList_map]; rfl)
theorem KG_list {ga : Array Nat} {i : Nat} (h : i < ga.toList.length) : ga.toList[i] = KG ga i := by
  unfold KG; rw [Array.getElem_toList]; rw [getElem?_pos ga i h]; rfl
theorem srt_list {ga : Array Nat} {lo hi : Nat} {R : Nat → Nat → Prop} (h : SrtR R ga lo hi) : ((ga.toList.take hi).drop lo).Pairwise R := by
  rw [List.pairwise_iff_getElem]
  intro i j hi' hj hij
  rw [List.getElem_drop, List.getElem_drop, List.getElem_take, List.getElem_take, KG_list, KG_list]
  rw [List.length_drop] at hj
  exact h _ _ (Nat.le_add_right _ _) (Nat.add_lt_add_left hij lo) (Nat.lt_of_lt_of_le (Nat.add_lt_of_lt_sub' hj) (List.length_take_le _ _))

/-- one run, the whole: cut -/
theorem One.cut {mr : Nat} {st : SortSt} (h : One F kd n kl mr n st) : Cut F kd n kl st := by
  obtain ⟨ga, hB, hs, _⟩ := h.ga
  have hl : ga.toList.length = n := hB.size
  have := srt_list hs
  rw [← hl, List.drop_zero, List.take_length] at this
  refine ⟨ga.toList, [], 0, by rw [hB.arr, toList_map, List.append_nil], hB.kind, hB.failed, ?_, this, .nil, fun _ _ _ hq => (List.not_mem_nil hq).elim, hl.symm ▸ h.pos, .inl ⟨rfl, by rw [hB.pend, hl]⟩⟩
  rw [List.append_nil, ← Array.toList_range]; exact Array.perm_iff_toList_perm.mp hB.perm
/-- two runs -/
theorem two_cut {n1 pw : Nat} {ga gb : Array Nat} {st : SortSt} (h1 : 1 ≤ n1) (hlt : n1 < n) (hs1 : SrtR (Rk kl) ga 0 n1) (hb1 : ∀ i, i < n1 → KG ga i < n1)
    (hB : Rg F kd n #[(0, n1, pw), (n1, n - n1, 0)] ga n1 n gb st) (hs2 : SrtR (Rk kl) gb n1 n) : Cut F kd n kl st := by
  have hl : gb.toList.length = n := hB.size
  have e := List.take_append_drop n1 gb.toList
  have lx : (gb.toList.take n1).length = n1 := List.length_take_of_le (hl.symm ▸ Nat.le_of_lt hlt)
  have ly : (gb.toList.drop n1).length = n - n1 := by rw [List.length_drop, hl]
  have p1 : (gb.toList.take n1).Pairwise (Rk kl) := by
    have := srt_list (ga := gb) (lo := 0) (hi := n1) fun i j a b c => by rw [hB.pre i (Nat.lt_trans b c), hB.pre j c]; exact hs1 i j a b c
    rwa [List.drop_zero] at this
  have p2 : (gb.toList.drop n1).Pairwise (Rk kl) := by
    have := srt_list hs2
    rwa [← hl, List.take_length] at this
  refine ⟨gb.toList.take n1, gb.toList.drop n1, pw, by rw [e, hB.arr, toList_map], hB.kind, hB.failed, ?_, p1, p2, fun p hp q hq => ?_, lx.symm ▸ h1, .inr ⟨ly.symm ▸ Nat.sub_pos_of_lt hlt, by rw [hB.pend, lx, ly]⟩⟩
  · rw [e, ← Array.toList_range]; exact Array.perm_iff_toList_perm.mp hB.perm
  · obtain ⟨i, hi, rfl⟩ := List.getElem_of_mem hp
    obtain ⟨j, hj, rfl⟩ := List.getElem_of_mem hq
    rw [List.getElem_take, List.getElem_drop, KG_list, KG_list]
    have hi' : i < n1 := lx ▸ hi
    have hj' : n1 + j < n := Nat.add_lt_of_lt_sub' (ly ▸ hj)
    rw [hB.pre i hi']
    exact Nat.lt_of_lt_of_le (hb1 i hi') (hB.blk _ (Nat.le_add_right _ _) hj').1
end
end Mine
namespace Mine
open PySem PyProof.Rows

section
variable {F : Nat → Keyed} {M : Model} {A : Around} {E : Value → Shared → Prop} {s : Shared} {kd : SortKind} {n : Nat} {kl : Nat → Nat → Bool}

theorem Rg.setP {p p' : PA} {g₀ ga : Array Nat} {lo hi : Nat} {st : SortSt} (h : Rg F kd n p g₀ lo hi ga st) : Rg F kd n p' g₀ lo hi ga (setPending st p') :=
  ⟨h.arr, h.kind, h.failed, rfl, h.perm, h.blk, h.unt, h.pre⟩
theorem one_of {mr m : Nat} {g₀ ga : Array Nat} {st : SortSt} (h2 : n ≤ 2 * mr) (h1 : 1 ≤ m) (hm : m ≤ n) (hmr : min n mr ≤ m) (hB : Rg F kd n #[] g₀ 0 m ga st) (hs : SrtR (Rk kl) ga 0 m) :
    One F kd n kl mr m (setPending st ((pendingOf st).push (0, m, 0))) := by
  have e : (pendingOf st).push (0, m, 0) = #[(0, m, 0)] := by rw [hB.pend]; rfl
  rw [e]
  exact ⟨⟨ga, ⟨hB.arr, hB.kind, hB.failed, rfl, hB.perm, fun i a b => absurd b (Nat.not_lt_of_le a), hB.unt, fun _ _ => rfl⟩, hs, fun i hi => (hB.blk i (Nat.zero_le _) hi).2⟩, h1, hm, by omega⟩

theorem sortRuns_ok (W : Wk kl) (C : Cmp M A E s kd F n kl) {st : SortSt} {Q : Unit → SortSt → Prop} (h2 : 2 ≤ n) (hn : n < 128) (ha : arrOf st = (Array.range n).map F) (hk : kindOf st = kd)
    (hf : failedOf st = none) (hp : pendingOf st = #[]) (h : ∀ st', SDn F n kl st' → Q () st') : wpS M A E s sortRuns' Q st := by
  rw [sortRuns'_eq]
  refine wpS_bind (wpS_get ?_)
  have hsz : (arrOf st).size = n := by rw [ha, Array.size_map, Array.size_range]
  have hmr := minRun_ok h2 hn
  dsimp only
  rw [hsz]
  generalize minRun' n n 0 = mr at hmr ⊢
  have hB0 : Rg F kd n #[] (Array.range n) 0 0 (Array.range n) st := ⟨ha, hk, hf, hp, Array.Perm.refl _, fun i _ b => absurd b (Nat.not_lt_zero _), fun i _ hi => by unfold KG; rw [getElem?_pos _ i (by rw [Array.size_range]; exact hi)]; simp, fun _ _ => rfl⟩
  refine wpS_bind (wpS_mono (wpS_forRange
    (I := fun x c st' => (x = 0 ∧ c = (none, 0) ∧ Rg F kd n #[] (Array.range n) 0 0 (Array.range n) st') ∨ (x = 1 ∧ ∃ n1, c = (none, n1) ∧ One F kd n kl mr n1 st') ∨ (2 ≤ x ∧ c = (none, n) ∧ Cut F kd n kl st'))
    (Q := fun c st' => c = (none, n) ∧ Cut F kd n kl st') ?step ?fin (.inl ⟨rfl, rfl, hB0⟩)) ?post)
  case fin =>
    rintro c st' (⟨hx, _, _⟩ | ⟨hx, _⟩ | ⟨_, hc, hD⟩)
    · rw [Nat.max_eq_right (Nat.zero_le _)] at hx; exact absurd (hx ▸ h2) (by decide)
    · rw [Nat.max_eq_right (Nat.zero_le _)] at hx; exact absurd (hx ▸ h2) (by decide)
    · exact ⟨hc, hD⟩
  case step =>
    rintro x c st' _ hx (⟨rfl, rfl, hB⟩ | ⟨rfl, n1, rfl, hO⟩ | ⟨hx2, rfl, hD⟩)
    · dsimp only
      rw [if_neg (Nat.not_le_of_lt (Nat.lt_of_lt_of_le Nat.zero_lt_two h2))]
      rw [Nat.sub_zero]
      refine wpS_bind (countRun_ok W C (Nat.le_of_eq (Nat.zero_add n)) (Nat.le_trans (by decide) h2) hB fun m ga' st2 hm1 hm2 hB2 hs2 => ?_)
      rw [Nat.zero_add] at hB2 hs2
      dsimp only
      by_cases hlt : m < mr
      · rw [if_pos hlt]
        refine wpS_bind (wpS_lift (wpAny_rule ⟨rfl, ?_⟩))
        have hle : m ≤ min n mr := Nat.le_min.mpr ⟨hm2, Nat.le_of_lt hlt⟩
        refine wpS_bind (binarySort_ok (lo := 0) W C (by rw [Nat.zero_add]; exact Nat.min_le_left _ _) hm1 hle (by rw [Nat.zero_add]; exact hB2) (by rw [Nat.zero_add]; exact hs2) fun ga3 st3 hB3 hs3 => ?_)
        rw [Nat.zero_add] at hB3 hs3
        refine wpS_bind (wpS_get ?_)
        have hb : (pendingOf st3).back? = none := by rw [hB3.pend]; rfl
        rw [hb]
        refine wpS_bind (wpS_modify (wpS_pure (.inr (.inl ⟨rfl, min n mr, ?_, one_of hmr.2 (Nat.le_trans hm1 hle) (Nat.min_le_left _ _) (Nat.le_refl _) hB3 hs3⟩))))
        rw [Nat.zero_add]
      · rw [if_neg hlt]
        refine wpS_bind (wpS_get ?_)
        have hb : (pendingOf st2).back? = none := by rw [hB2.pend]; rfl
        rw [hb]
        refine wpS_bind (wpS_modify (wpS_pure (.inr (.inl ⟨rfl, m, ?_, one_of hmr.2 hm1 hm2 (Nat.le_trans (Nat.min_le_right _ _) (Nat.le_of_not_lt hlt)) hB2 hs2⟩))))
        rw [Nat.zero_add]
    · dsimp only
      by_cases hge : n1 ≥ n
      · rw [if_pos hge]
        have e : n1 = n := Nat.le_antisymm hO.le hge
        subst e
        exact wpS_pure ⟨rfl, hO.cut⟩
      · rw [if_neg hge]
        have hlt : n1 < n := Nat.lt_of_not_le hge
        have hnn : n1 + (n - n1) = n := Nat.add_sub_cancel' hO.le
        obtain ⟨ga, hB, hs1, hb1⟩ := hO.ga
        refine wpS_bind (countRun_ok W C (Nat.le_of_eq hnn) (Nat.sub_pos_of_lt hlt) hB fun m ga' st2 hm1 hm2 hB2 hs2 => ?_)
        dsimp only
        have emin : min (n - n1) mr = n - n1 := Nat.min_eq_left hO.mr
        rw [emin]
        have tl : ∀ gb st3, Rg F kd n #[(0, n1, 0)] ga n1 n gb st3 → SrtR (Rk kl) gb n1 n → ∀ pw, Cut F kd n kl (setPending (setPending st3 #[(0, n1, pw)]) #[(0, n1, pw), (n1, n - n1, 0)]) :=
          fun gb st3 hB3 hs3 pw => two_cut hO.pos hlt hs1 hb1 hB3.setP.setP hs3
        by_cases hlt2 : m < mr
        · rw [if_pos hlt2]
          refine wpS_bind (wpS_lift (wpAny_rule ⟨rfl, ?_⟩))
          refine wpS_bind (binarySort_ok W C (Nat.le_of_eq hnn) hm1 hm2 hB2 hs2 fun gb st3 hB3 hs3 => ?_)
          rw [hnn] at hB3 hs3
          refine wpS_bind (wpS_get ?_)
          have hb : (pendingOf st3).back? = some (0, n1, 0) := by rw [hB3.pend]; rfl
          rw [hb]
          dsimp only
          refine wpS_bind (wpS_mono (wpS_forRange (I := fun _ c st'' => st'' = st3 ∧ c = (none, ())) (Q := fun c st'' => st'' = st3 ∧ c = (none, ())) ?_ (fun _ _ hh => hh) ⟨rfl, rfl⟩) ?_)
          · rintro x c st'' _ _ ⟨rfl, rfl⟩
            refine wpS_bind (wpS_get ?_)
            rw [hB3.pend]
            exact wpS_pure ⟨rfl, rfl⟩
          · rintro c st'' ⟨rfl, rfl⟩
            refine wpS_bind (wpS_modify (wpS_bind (wpS_modify (wpS_pure (.inr (.inr ⟨Nat.le_refl _, ?_, ?_⟩))))))
            · rw [hnn]
            · have e1 : ((pendingOf st'').modify ((pendingOf st'').size - 1) fun x => (x.1, x.2.1, power' n (2 * 0 + n1) (2 * 0 + n1 + n1 + (n - n1)) n)) = #[(0, n1, power' n (2 * 0 + n1) (2 * 0 + n1 + n1 + (n - n1)) n)] := by rw [hB3.pend]; rfl
              rw [e1]
              exact tl gb st'' hB3 hs3 (power' n (2 * 0 + n1) (2 * 0 + n1 + n1 + (n - n1)) n)
        · rw [if_neg hlt2]
          have em : m = n - n1 := Nat.le_antisymm hm2 (Nat.le_trans hO.mr (Nat.le_of_not_lt hlt2))
          subst em
          rw [hnn] at hB2 hs2
          refine wpS_bind (wpS_get ?_)
          have hb : (pendingOf st2).back? = some (0, n1, 0) := by rw [hB2.pend]; rfl
          rw [hb]
          dsimp only
          refine wpS_bind (wpS_mono (wpS_forRange (I := fun _ c st'' => st'' = st2 ∧ c = (none, ())) (Q := fun c st'' => st'' = st2 ∧ c = (none, ())) ?_ (fun _ _ hh => hh) ⟨rfl, rfl⟩) ?_)
          · rintro x c st'' _ _ ⟨rfl, rfl⟩
            refine wpS_bind (wpS_get ?_)
            rw [hB2.pend]
            exact wpS_pure ⟨rfl, rfl⟩
          · rintro c st'' ⟨rfl, rfl⟩
            refine wpS_bind (wpS_modify (wpS_bind (wpS_modify (wpS_pure (.inr (.inr ⟨Nat.le_refl _, ?_, ?_⟩))))))
            · rw [hnn]
            · have e1 : ((pendingOf st'').modify ((pendingOf st'').size - 1) fun x => (x.1, x.2.1, power' n (2 * 0 + n1) (2 * 0 + n1 + n1 + (n - n1)) n)) = #[(0, n1, power' n (2 * 0 + n1) (2 * 0 + n1 + n1 + (n - n1)) n)] := by rw [hB2.pend]; rfl
              rw [e1]
              exact tl ga' st'' hB2 hs2 (power' n (2 * 0 + n1) (2 * 0 + n1 + n1 + (n - n1)) n)
    · dsimp only
      rw [if_pos (Nat.le_refl _)]
      exact wpS_pure ⟨rfl, hD⟩
  case post =>
    rintro c st' ⟨rfl, X, Y, pw, h1, h3, h4, h5, h6, h7, h8, h9, h10⟩
    dsimp only
    rcases h10 with ⟨rfl, hp'⟩ | ⟨hY, hp'⟩
    · refine wpS_bind (wpS_mono (wpS_forRange (I := fun _ c st'' => st'' = st' ∧ c = (none, ())) (Q := fun c st'' => st'' = st' ∧ c = (none, ())) ?_ (fun _ _ hh => hh) ⟨rfl, rfl⟩) ?_)
      · rintro x c st'' _ _ ⟨rfl, rfl⟩
        refine wpS_bind (wpS_get ?_)
        rw [if_pos (by rw [hp']; exact Nat.le_refl 1)]
        exact wpS_pure ⟨rfl, rfl⟩
      · rintro c st'' ⟨rfl, rfl⟩
        rw [List.append_nil] at h1 h5
        exact wpS_pure (h _ ⟨h4, X, h1, h5, h6⟩)
    · have bn : ∀ p ∈ X ++ Y, p < n := fun p hp => List.mem_range.mp (h5.mem_iff.mp hp)
      refine wpS_bind (wpS_mono (wpS_forRange (I := fun x c st'' => c = (none, ()) ∧ ((x = 0 ∧ st'' = st') ∨ (1 ≤ x ∧ SDn F n kl st'' ∧ pendingOf st'' = #[(0, X.length + Y.length, pw)])))
        (Q := fun c st'' => c = (none, ()) ∧ SDn F n kl st'') ?_ ?_ ⟨rfl, .inl ⟨rfl, rfl⟩⟩) ?_)
      · rintro x c st'' _ _ ⟨rfl, ⟨rfl, rfl⟩ | ⟨hx, hD, hp2⟩⟩
        · refine wpS_bind (wpS_get ?_)
          rw [hp']
          refine wpS_bind (mergeAt_ok W C h3 h1 h4 hp' h6 h7 h8 bn h9 hY fun L st3 a b c d => ?_)
          exact wpS_pure ⟨rfl, .inr ⟨Nat.le_refl _, ⟨c, L, a, b.1.trans h5, b.2⟩, d⟩⟩
        · refine wpS_bind (wpS_get ?_)
          rw [if_pos (by rw [hp2]; exact Nat.le_refl 1)]
          exact wpS_pure ⟨rfl, hD⟩
      · rintro c st'' ⟨hc, ⟨hx, _⟩ | ⟨_, hD, _⟩⟩
        · rw [Nat.max_eq_right (Nat.zero_le _)] at hx; exact absurd (hx ▸ h2) (by decide)
        · exact ⟨hc, hD⟩
      · rintro c st'' ⟨rfl, hD⟩
        exact wpS_pure (h _ hD)
end
end Mine
namespace Mine
open PySem PyProof.Rows PySem.SeqAt

/-! the order of cells that the key (is a text, cell) makes -/
noncomputable def KeyAt (h : Heap) (k : Value) (d : D) : Prop := ∃ (a : Addr) (v : Value) (n : Nat), k = .ref a ∧ h.get? a = some (tupO #[.bool (isStrD d), v] n) ∧ d.isCell = true ∧ ((∃ i t, v = .int i t ∧ d = .int i) ∨ ∃ x t, v = .str x t ∧ d = .str x)
section
variable {prog : Program} {w : World} {A : Around} {E : Value → Shared → Prop} {s : Shared}
theorem oneLt_bool {a b : Bool} {Q : Bool → Shared → Prop} (h : Q (!a && b) s) : wpAny (model prog w) A (oneLt' true (.bool a) (.bool b)) Q E s := by
  rw [oneLt'_eq]
  simp only [if_true]
  refine wpAny_bind (wpAny_cRoomFor_byValue rfl ?_)
  refine wpAny_bind (wpAny_callSpecialIfBound?_slot (typeIs_bool' s a) PySem.F.slot_bool_lt (wpAny_call_entry PySem.F.slot_bool_lt (typeIs_bool' s a) PySem.F.entry_int_lt ?_ (PySem.F.args_int_lt_2 _ _)))
  have e : Builtin.«int.__lt__» ⟨[.bool a, .bool b], []⟩ = ret (.bool (!a && b)) := by cases a <;> cases b <;> rfl
  rw [e]
  exact wpAny_pure ⟨_, rfl, wpAny_truthy_bool h⟩
theorem key_lt {x y : Value} {c d : D} {Q : Bool → Shared → Prop} (hx : KeyAt s.heap x c) (hy : KeyAt s.heap y d) (h : Q (cellLt c d) s) : wpAny (model prog w) A (keyLt' (tuples' true) x y) Q E s := by
  obtain ⟨a, v, n, rfl, ha, _, hv⟩ := hx
  obtain ⟨b, u, m, rfl, hb, _, hu⟩ := hy
  refine PySem.W.kat_lt ha rfl hb rfl (PySem.W.kat_cons (EqAt.bool_bool _ _ prog w _ _ ?_))
  have two : ∀ e : Bool, EqAt A s v u e → (e = true → cellLt c d = false) → (e = false → wpAny (model prog w) A (compareOp .Lt v u) (PySem.W.BoolBack Q) (fun _ _ => False) s) →
      PySem.W.KatLex prog w A true (decide (2 < 2)) Q [(v, u)] 1 s := fun e h1 h2 h3 => by
    refine PySem.W.kat_cons (h1 prog w _ _ ?_)
    cases e with
    | true => exact PySem.W.kat_yes (PySem.W.kat_nil (by have := h2 rfl; rw [this] at h; exact h))
    | false => exact PySem.W.kat_no (PySem.W.kat_one _ _ (h3 rfl))
  rcases hv with ⟨i, t, rfl, rfl⟩ | ⟨i, t, rfl, rfl⟩ <;> rcases hu with ⟨j, t', rfl, rfl⟩ | ⟨j, t', rfl, rfl⟩
  · refine PySem.W.kat_yes (two _ (EqAt.int_int _ _ _ _) (fun e => ?_) fun _ => PyProof.Rows.lt_int h)
    exact decide_eq_false fun q => absurd (by simpa using e) (Int.ne_of_lt q)
  · exact PySem.W.kat_no (oneLt_bool h)
  · exact PySem.W.kat_no (oneLt_bool h)
  · refine PySem.W.kat_yes (two _ (EqAt.str_str _ _ _ _) (fun e => ?_) fun _ => PyProof.Rows.lt_str h)
    have : i = j := by simpa using e
    subst this
    exact decide_eq_false (List.lt_irrefl _)
end
end Mine
namespace Mine
open PySem PyProof.Rows PySem.SeqAt

/-! the order of cells -/
theorem cps_neg {a b c : List Nat} (h1 : ¬ a < b) (h2 : ¬ b < c) : ¬ a < c := fun h => by
  have h1' : b ≤ a := List.not_lt.mp h1
  have h2' : c ≤ b := List.not_lt.mp h2
  exact absurd h (List.not_lt.mpr (List.le_trans h2' h1'))
theorem wk_cell {f : Nat → D} (hf : ∀ p, (f p).isCell = true) : Wk fun p q => cellLt (f p) (f q) := by
  refine ⟨fun p => ?_, fun {p q r} h1 h2 => ?_, fun {p q r} h1 h2 => ?_⟩
  · have := hf p
    revert this
    cases f p <;> intro h <;> first | (cases h; done) | skip
    · exact decide_eq_false (Int.lt_irrefl _)
    · exact decide_eq_false (List.lt_irrefl _)
  · have a := hf p; have b := hf q; have c := hf r
    revert a b c h1 h2
    cases f p <;> intro h1 h2 a <;> first | (cases a; done) | (clear a; revert h1 h2; cases f q <;> intro h1 h2 b <;> first | (cases b; done) | (clear b; revert h1 h2; cases f r <;> intro h1 h2 c <;> first | (cases c; done) | (cases h1; done) | (cases h2; done) | rfl | skip))
    · exact decide_eq_true (Int.lt_trans (of_decide_eq_true h1) (of_decide_eq_true h2))
    · exact decide_eq_true (List.lt_trans (of_decide_eq_true h1) (of_decide_eq_true h2))
  · have a := hf p; have b := hf q; have c := hf r
    revert a b c h1 h2
    cases f p <;> intro h1 h2 a <;> first | (cases a; done) | (clear a; revert h1 h2; cases f q <;> intro h1 h2 b <;> first | (cases b; done) | (clear b; revert h1 h2; cases f r <;> intro h1 h2 c <;> first | (cases c; done) | (cases h1; done) | (cases h2; done) | rfl | skip))
    · exact decide_eq_false (Int.not_lt.mpr (Int.le_trans (Int.not_lt.mp (of_decide_eq_false h2)) (Int.not_lt.mp (of_decide_eq_false h1))))
    · exact decide_eq_false (cps_neg (of_decide_eq_false h1) (of_decide_eq_false h2))

theorem keyOf_cell {ds : List D} (h : ∀ d ∈ ds, d.isCell = true) (p : Nat) : (keyOf ds p).isCell = true := by
  unfold keyOf
  rw [List.getD_eq_getElem?_getD]
  cases e : ds[p]? with
  | none => rfl
  | some d => exact h d (List.mem_of_getElem? e)
/-- the places, in the order that the sort gives -/
noncomputable def SortIx (ds : List D) (rev : Bool) (L : List Nat) : Prop := L.Perm (List.range ds.length) ∧ L.Pairwise (Rk (klOf ds rev))

theorem sortIx_rev {ds : List D} {L : List Nat} (hp : L.Perm (List.range ds.length)) (hs : L.Pairwise (Rk fun p q => cellLt (keyOf ds (ds.length - 1 - p)) (keyOf ds (ds.length - 1 - q)))) :
    SortIx ds true (L.map (ds.length - 1 - ·)).reverse := by
  constructor
  · refine (List.reverse_perm _).trans ((hp.map _).trans ?_)
    have e : (List.range ds.length).map (ds.length - 1 - ·) = (List.range ds.length).reverse := by
      apply List.ext_getElem
      · simp
      · intro i h1 h2
        simp
    rw [e]
    exact List.reverse_perm _
  · rw [List.pairwise_reverse, List.pairwise_map]
    refine hs.imp_of_mem fun {p q} hp' hq' h => ?_
    have hp' := List.mem_range.mp (hp.mem_iff.mp hp')
    have hq' := List.mem_range.mp (hp.mem_iff.mp hq')
    unfold Rk klOf at *
    rcases h with h | ⟨h, l⟩
    · exact .inl h
    · exact .inr ⟨h, by omega⟩
theorem sortIx_fwd {ds : List D} {L : List Nat} (hp : L.Perm (List.range ds.length)) (hs : L.Pairwise (Rk fun p q => cellLt (keyOf ds p) (keyOf ds q))) : SortIx ds false L := ⟨hp, hs⟩
end Mine
namespace Mine
open PySem

noncomputable abbrev Ris (xs : Array Nat) : Prop := xs.toList.Pairwise (· < ·)
/-- a table without gaps in the book-keeping: no dummies, its places rising, led unless sets go by the text -/
structure TabOk (bt : Bool) (t : SetTable) : Prop where
  dum : t.dummies = #[]
  ris : Ris t.place
  led : t.led = !bt
end Mine
namespace Mine
open PySem

noncomputable abbrev setO (es : Array (Int × Value)) (ep : Nat) (t : SetTable) : Obj := { cls := .type "set", dict := Option.none, data := .set es ep t, slots := #[] }
noncomputable def keysIn (es : Array (Int × Value)) : List Int := es.toList.map fun e => PyProof.Rows.numOf e.2
/-- a set of ints -/
structure SetI (bt : Bool) (h : Heap) (a : Addr) (es : Array (Int × Value)) : Prop where
  obj : ∃ ep t, h.get? a = some (setO es ep t) ∧ t.fits es.size = true ∧ TabOk bt t
  el : ∀ e ∈ es.toList, ∃ k tok, e = (hashInt k, .int k tok)
  nod : (keysIn es).Nodup

section
variable {prog : Program} {w : World} {A : Around} {E : Value → Shared → Prop} {s : Shared} {bt : Bool} {a : Addr} {es : Array (Int × Value)}

end
end Mine
namespace Mine
open PySem

section
variable {prog : Program} {w : World} {A : Around} {E : Value → Shared → Prop} {s : Shared}

end
end Mine
namespace Mine
open PySem
section
variable {prog : Program} {w : World} {A : Around} {E : Value → Shared → Prop} {s : Shared}
end
end Mine
namespace Mine
open PySem
set_option maxRecDepth 100000

section
variable {prog : Program} {w : World} {A : Around} {E : Value → Shared → Prop} {s : Shared} {I a : Addr} {first : Value} {i ep : Nat} {es : Array (Int × Value)} {t : SetTable} {Q : Option Value → Shared → Prop}

end
end Mine
namespace Mine
open PySem

section
variable {prog : Program} {w : World} {A : Around} {E : Value → Shared → Prop} {s : Shared}
section
variable {a : Addr} {es : Array (Int × Value)} {ep i : Nat} {t : SetTable}
end
end
end Mine
namespace Mine
open PySem

section
variable {prog : Program} {w : World} {A : Around} {E : Value → Shared → Prop} {s : Shared}

end
end Mine
namespace Mine
open PySem

section
variable {prog : Program} {w : World} {A : Around} {E : Value → Shared → Prop} {s : Shared}
end
end Mine
namespace Mine
open PySem PyProof.Rows PySem.SeqAt

section
variable {prog : Program} {w : World} {A : Around} {E : Value → Shared → Prop} {s : Shared} {a kS : Addr} {rev : Bool} {vs : List Value} {ds : List D} {keys : Array Value} {e e1 : Nat} {P : PySem.Fin → Shared → Prop}

theorem key_tail {st : SortSt} {out : Array Value} (hX : (if rev then ((arrOf st).map (·.2)).reverse else (arrOf st).map (·.2)) = out) (hk : s.heap.get? kS = some (seqObj "list" keys e)) (ha : s.heap.get? a = some (seqObj "list" #[] e1)) (hka : kS ≠ a) (hz : keys.size < 128) (hz2 : out.size < 128) (hf : failedOf st = none)
    (h : ∀ h' c, (∀ b o, b ≠ a → b ≠ kS → s.heap.get? b = some o → h'.get? b = some o) → h'.get? a = some (seqObj "list" out c) → P (.done (.ret .none)) { s with heap := h' }) :
    wpAny (model prog w) A (ksk_tail a rev e1 (.ref kS) st) P E s := by
  have s1 := Heap.SameBut.update s.heap kS (Obj.mapSeq fun _ => (#[] : Array Value))
  have na1 : (s.heap.update kS (Obj.mapSeq fun _ => (#[] : Array Value))).get? a = some (seqObj "list" #[] e1) := (s1.2 a hka.symm).trans ha
  have s2 := Heap.SameBut.update (s.heap.update kS (Obj.mapSeq fun _ => (#[] : Array Value))) a (Obj.mapSeq fun _ => out)
  obtain ⟨c2, hc2⟩ : ∃ c2, ((s.heap.update kS (Obj.mapSeq fun _ => (#[] : Array Value))).update a (Obj.mapSeq fun _ => out)).get? a = some (seqObj "list" out c2) := ⟨_, get?_update_seq na1 fun _ => out⟩
  delta ksk_tail
  dsimp only
  rw [hX, hf]
  refine wpAny_bind (listUpdate_at hk rfl ?_ (by rw [sizeLine_eq]; omega) (Nat.zero_le _))
  refine wpAny_bind (wpAny_letGo ?_)
  refine wpAny_bind (seqEpoch_at na1 rfl ?_)
  refine wpAny_bind (listUpdate_at na1 rfl ?_ (Nat.zero_le _) (by rw [sizeLine_eq]; omega))
  rw [bne_self_eq_false, if_neg Bool.false_ne_true]
  exact wpAny_pure (h _ c2 (fun b o h1 h2 q => (s2.2 b h1).trans ((s1.2 b h2).trans q)) hc2)

/-- the keys lie in the store -/
noncomputable def KeysAt (h : Heap) (keys : List Value) (ds : List D) : Prop := keys.length = ds.length ∧ ∀ i k, keys[i]? = some k → KeyAt h k (keyOf ds i)
theorem KeysAt.nil {h : Heap} : KeysAt h [] [] := ⟨rfl, fun i k e => by simp at e⟩
theorem KeysAt.snoc {h : Heap} {keys : List Value} {ds : List D} {k : Value} {d : D} (K : KeysAt h keys ds) (hk : KeyAt h k d) : KeysAt h (keys ++ [k]) (ds ++ [d]) := by
  refine ⟨by rw [List.length_append, List.length_append, K.1]; rfl, fun i k' e => ?_⟩
  unfold keyOf
  rcases Nat.lt_trichotomy i keys.length with hi | hi | hi
  · rw [List.getElem?_append_left hi] at e
    have := K.2 i k' e
    unfold keyOf at this
    rw [List.getD_eq_getElem?_getD, List.getElem?_append_left (K.1 ▸ hi), ← List.getD_eq_getElem?_getD]
    exact this
  · subst hi
    rw [List.getElem?_concat_length] at e
    cases e
    rw [List.getD_eq_getElem?_getD, K.1, List.getElem?_concat_length]
    exact hk
  · rw [List.getElem?_eq_none (by rw [List.length_append]; exact hi)] at e
    cases e
noncomputable def pairK (ks vs : List Value) (p : Nat) : Keyed := (ks.getD p .none, vs.getD p .none)
theorem zip_tagK {ks vs : List Value} (hl : ks.length = vs.length) : ks.toArray.zip vs.toArray = (Array.range vs.length).map (pairK ks vs) := by
  apply Array.ext'
  rw [Array.toList_zip, Array.toList_map, Array.toList_range]
  apply List.ext_getElem
  · simp [hl]
  · intro i h1 h2
    have hi : i < vs.length := by simpa using h2
    simp [pairK, List.getD_eq_getElem?_getD, hi, hl ▸ hi]
theorem zip_tagR {ks vs : List Value} (hl : ks.length = vs.length) : (ks.toArray.zip vs.toArray).reverse = (Array.range vs.length).map (fun p => pairK ks vs (vs.length - 1 - p)) := by
  rw [zip_tagK hl]
  apply Array.ext
  · simp
  · intro i h1 h2
    simp

theorem cmp_key {ks vs : List Value} {ds : List D} {n : Nat} (K : KeysAt s.heap ks ds) {g : Nat → Nat} (hg : ∀ p, p < n → g p < ds.length) :
    Cmp (model prog w) A E s (tuples' true) (fun p => pairK ks vs (g p)) n fun p q => cellLt (keyOf ds (g p)) (keyOf ds (g q)) := fun st p q hk hp hq Q h => by
  have at_ : ∀ i, i < ds.length → KeyAt s.heap (ks.getD i .none) (keyOf ds i) := fun i hi => by
    have hi' : i < ks.length := K.1.symm ▸ hi
    rw [List.getD_eq_getElem?_getD, List.getElem?_eq_getElem hi']
    exact K.2 i _ (List.getElem?_eq_getElem hi')
  rw [lt'_eq]
  refine wpS_bind (wpS_get ?_)
  rw [hk]
  exact wpS_bind (wpS_lift (wpAny_attempt (key_lt (at_ _ (hg p hp)) (at_ _ (hg q hq)) ⟨rfl, wpS_pure h⟩)))
end
end Mine
namespace Mine
open PySem PyProof.Rows PySem.SeqAt

section
variable {prog : Program} {w : World} {A : Around} {E : Value → Shared → Prop} {s : Shared} {a kS : Addr} {rev : Bool} {vs : List Value} {ds : List D} {keys : List Value} {e e1 : Nat} {P : PySem.Fin → Shared → Prop}

theorem rev_small {α : Type} {x : Array α} (h : x.size < 2) : x.reverse = x := by
  apply Array.ext'
  rw [Array.toList_reverse]
  rw [← Array.length_toList] at h
  match x.toList, h with
  | [], _ => rfl
  | [_], _ => rfl
theorem tag_snd {ks vs : List Value} (g : Nat → Nat) (L : List Nat) : (tag (fun p => pairK ks vs (g p)) L).map (·.2) = (L.map fun p => vs.getD (g p) .none).toArray := by
  unfold tag
  rw [List.map_toArray, List.map_map]
  rfl
theorem keys_kind {Q : SortKind → Shared → Prop} (K : KeysAt s.heap keys ds) (h2 : 2 ≤ ds.length) (h : Q (tuples' true) s) : wpAny (model prog w) A (keyKind' keys.toArray) Q E s := by
  have go : ∀ (ks : List Value), (∀ k ∈ ks, ∃ d, KeyAt s.heap k d) → ∃ fs : List Value, PySem.W.KatTups s.heap ks fs ∧ fs.length = ks.length ∧ ∀ v ∈ fs, ∃ b, v = .bool b := by
    intro ks
    induction ks with
    | nil => exact fun _ => ⟨[], .nil, rfl, fun _ q => nomatch q⟩
    | cons k ks ih =>
      intro hk
      obtain ⟨fs, h1, h2, h3⟩ := ih fun k' q => hk k' (List.mem_cons_of_mem _ q)
      obtain ⟨d, b, v, n, rfl, ho, _⟩ := hk k List.mem_cons_self
      exact ⟨.bool (isStrD d) :: fs, .cons ho rfl rfl rfl h1, congrArg Nat.succ h2, fun u q => (List.mem_cons.mp q).elim (fun e => ⟨_, e⟩) (h3 u)⟩
  obtain ⟨fs, h1, h3, h4⟩ := go keys fun k hk => by
    obtain ⟨i, hi⟩ := List.getElem?_of_mem hk
    exact ⟨_, K.2 i k hi⟩
  refine PySem.W.kat_kind (T := .type "bool") h1 (by rw [h3, K.1]; omega) (fun v hv => ?_) rfl h
  obtain ⟨b, rfl⟩ := h4 v hv
  exact .now

theorem key_end (hk : s.heap.get? kS = some (seqObj "list" keys.toArray e)) (ha : s.heap.get? a = some (seqObj "list" #[] e1)) (hka : kS ≠ a) (K : KeysAt s.heap keys ds) (hc : ∀ d ∈ ds, d.isCell = true) (hl : vs.length = ds.length) (hz : ds.length < 128)
    (h : ∀ h' c L, (∀ b o, b ≠ a → b ≠ kS → s.heap.get? b = some o → h'.get? b = some o) → h'.get? a = some (seqObj "list" (L.map fun p => vs.getD p .none).toArray c) → SortIx ds rev L → P (.done (.ret .none)) { s with heap := h' }) :
    wpAny (model prog w) A (ksk_end a rev vs.toArray e1 (.ref kS) keys.toArray) P E s := by
  have hkl : keys.length = vs.length := K.1.trans hl.symm
  have tail : ∀ (st : SortSt) (L : List Nat), failedOf st = none → (if rev then ((arrOf st).map (·.2)).reverse else (arrOf st).map (·.2)) = (L.map fun p => vs.getD p .none).toArray → SortIx ds rev L → wpAny (model prog w) A (ksk_tail a rev e1 (.ref kS) st) P E s := fun st L hf hX hL =>
    key_tail hX hk ha hka (by rw [List.size_toArray, K.1]; exact hz) (by rw [List.size_toArray, List.length_map, hL.1.length_eq, List.length_range]; exact hz) hf fun h' c h1 h2 => h h' c L h1 h2 hL
  have step : ∀ t : Sem PySem.Fin, wpAny (model prog w) A t P E s → wpAny (model prog w) A (if rev = true then (do let _ ← rule "list.sort.reverse"; t) else t) P E s := by
    intro t ht
    split
    · exact wpAny_bind (wpAny_rule ht)
    · exact ht
  have W := wk_cell (keyOf_cell hc)
  delta ksk_end
  dsimp only
  refine step _ ?_
  by_cases h2 : vs.toArray.size < 2
  · rw [if_pos h2, if_pos h2]
    refine wpAny_bind (wpAny_pure ?_)
    rw [StateT.run_pure]
    refine wpAny_bind (wpAny_pure (tail _ (List.range ds.length) rfl ?_ ⟨List.Perm.refl _, ?_⟩))
    · have e0 : (keys.toArray.zip vs.toArray).map (·.2) = ((List.range ds.length).map fun p => vs.getD p .none).toArray := by
        rw [zip_tagK hkl, hl, ← tag_snd (ks := keys) (fun p => p)]
        congr 1
        unfold tag
        apply Array.ext'
        simp
      have s0 : (keys.toArray.zip vs.toArray).size < 2 := by
        rw [List.size_toArray] at h2
        rw [zip_tagK hkl, Array.size_map, Array.size_range]; exact h2
      show (if rev then (Array.map (·.2) (if rev = true then (keys.toArray.zip vs.toArray).reverse else keys.toArray.zip vs.toArray)).reverse else Array.map (·.2) (if rev = true then (keys.toArray.zip vs.toArray).reverse else keys.toArray.zip vs.toArray)) = _
      cases rev with
      | false => exact e0
      | true =>
        rw [if_pos rfl, if_pos rfl, rev_small s0, rev_small (by rw [Array.size_map]; exact s0)]
        exact e0
    · rw [List.size_toArray, hl] at h2
      match ds.length, h2 with
      | 0, _ => exact .nil
      | 1, _ => exact List.pairwise_singleton _ _
  · rw [if_neg h2, if_neg h2]
    rw [List.size_toArray, hl] at h2
    refine wpAny_bind (keys_kind K (Nat.not_lt.mp h2) ?_)
    cases rev with
    | false =>
      refine wpAny_bind (wpAny_mono (sortRuns_ok (Q := fun _ st' => SDn (fun p => pairK keys vs p) ds.length _ st') (kl := fun p q => cellLt (keyOf ds p) (keyOf ds q)) W (cmp_key (vs := vs) K (g := fun p => p) fun p hp => hp) (Nat.not_lt.mp h2) hz
        (by rw [← hl]; exact zip_tagK hkl) rfl rfl rfl fun st' q => q) ?_ fun _ _ e => e)
      rintro ⟨⟨⟩, st'⟩ s' ⟨rfl, hf, L, g1, g2, g3⟩
      refine tail st' L hf ?_ (sortIx_fwd g2 g3)
      rw [if_neg Bool.false_ne_true, g1]
      exact tag_snd (fun p => p) L
    | true =>
      refine wpAny_bind (wpAny_mono (sortRuns_ok (Q := fun _ st' => SDn (fun p => pairK keys vs (ds.length - 1 - p)) ds.length _ st') (kl := fun p q => cellLt (keyOf ds (ds.length - 1 - p)) (keyOf ds (ds.length - 1 - q))) (wk_cell fun p => keyOf_cell hc _)
        (cmp_key (vs := vs) K (g := fun p => ds.length - 1 - p) fun p hp => by omega) (Nat.not_lt.mp h2) hz
        (by rw [← hl]; exact zip_tagR hkl) rfl rfl rfl fun st' q => q) ?_ fun _ _ e => e)
      rintro ⟨⟨⟩, st'⟩ s' ⟨rfl, hf, L, g1, g2, g3⟩
      refine tail st' _ hf ?_ (sortIx_rev g2 g3)
      rw [if_pos rfl, g1, tag_snd (fun p => ds.length - 1 - p) L]
      rw [List.reverse_toArray, List.map_reverse, List.map_map]
      rfl
end
end Mine
namespace Mine
open PySem PyProof.Rows PySem.SeqAt

section
variable {prog : Program} {w : World} {A : Around} {E : Value → Shared → Prop} {s : Shared} {a kS : Addr} {rev : Bool} {vs : List Value} {ds : List D} {f : Value} {e1 : Nat} {P : PySem.Fin → Shared → Prop}

theorem KeysAt.set {h h' : Heap} {keys : List Value} {ds : List D} {b : Addr} {xs : Array Value} {n : Nat} (K : KeysAt h keys ds) (hb : h.get? b = some (seqObj "list" xs n)) (hs : ∀ c o, c ≠ b → h.get? c = some o → h'.get? c = some o) : KeysAt h' keys ds := by
  refine ⟨K.1, fun i k e => ?_⟩
  obtain ⟨c, v, m, rfl, ho, r⟩ := K.2 i k e
  refine ⟨c, v, m, rfl, hs c _ (fun q => ?_) ho, r⟩
  subst q
  rw [hb] at ho
  exact absurd (congrArg Obj.cls (Option.some.inj ho)) (show ¬ Value.type "list" = Value.type "tuple" by decide)
theorem KeysAt.more {h h' : Heap} {keys : List Value} {ds : List D} (K : KeysAt h keys ds) (hs : KH h h') : KeysAt h' keys ds :=
  ⟨K.1, fun i k e => let ⟨a, v, n, e, ho, r⟩ := K.2 i k e; ⟨a, v, n, e, Heap.of_gt (hs a _ (Heap.gt_of ho)), r⟩⟩

theorem key_rest (hk : s.heap.get? kS = some (seqObj "list" #[] 0)) (ha : s.heap.get? a = some (seqObj "list" #[] e1)) (hka : kS ≠ a) (hc : ∀ d ∈ ds, d.isCell = true) (hl : vs.length = ds.length) (hz : ds.length < 128)
    (turn : ∀ (i : Nat) (v : Value) (d : D), vs[i]? = some v → ds[i]? = some d → ∀ h tk dw, (∀ b o, b ≠ a → b ≠ kS → gat s.heap b = some o → gat h b = some o) →
      wpAny (model prog w) A (call f [v]) (fun k s' => Keeps { s with heap := h, toks := tk, drawn := dw } s' ∧ KeyAt s'.heap k d) (fun _ _ => False) { s with heap := h, toks := tk, drawn := dw })
    (h : ∀ h' tk dw c L, (∀ b o, b ≠ a → b ≠ kS → gat s.heap b = some o → gat h' b = some o) → h'.get? a = some (seqObj "list" (L.map fun p => vs.getD p .none).toArray c) → SortIx ds rev L → P (.done (.ret .none)) { s with heap := h', toks := tk, drawn := dw }) :
    wpAny (model prog w) A (ksk_rest a f rev vs.toArray e1 (.ref kS)) P E s := by
  delta ksk_rest
  refine wpAny_bind (wpAny_rule ?_)
  rw [List.forIn_toArray]
  refine wpAny_bind (ksk_fold (fun i s' => ∃ h' tk dw ks e, s' = { s with heap := h', toks := tk, drawn := dw } ∧ (∀ b o, b ≠ a → b ≠ kS → gat s.heap b = some o → gat h' b = some o) ∧ h'.get? kS = some (seqObj "list" (List.toArray ks) e) ∧ h'.get? a = some (seqObj "list" #[] e1) ∧ KeysAt h' ks (ds.take i)) vs 0 s
    ⟨s.heap, s.toks, s.drawn, [], 0, rfl, fun _ _ _ _ q => q, hk, ha, by rw [List.take_zero]; exact .nil⟩ ?step ?done)
  case step =>
    rintro j x s' hx ⟨h', tk, dw, ks, e, rfl, hkp, hk', ha', K⟩
    rw [Nat.zero_add] at K ⊢
    have hj : j < vs.length := (List.getElem?_eq_some_iff.mp hx).1
    obtain ⟨d, hd⟩ : ∃ d, ds[j]? = some d := ⟨_, List.getElem?_eq_getElem (hl ▸ hj)⟩
    have hks : ks.length ≤ 128 := by
      rw [K.1, List.length_take]
      exact Nat.le_trans (Nat.min_le_right _ _) (Nat.le_of_lt hz)
    refine wpAny_bind (wpAny_attempt (wpAny_mono (turn j x d hx hd h' tk dw hkp) (fun v s'' q => ?_) fun _ _ hF => hF.elim))
    obtain ⟨⟨g, tk2, dw2, rfl, hg⟩, hv⟩ := q
    have hk2 := Heap.of_gt (hg _ _ (Heap.gt_of hk'))
    have s1 := Heap.SameBut.update g kS (Obj.mapSeq (·.push v))
    obtain ⟨c2, hc2⟩ : ∃ c2, (g.update kS (Obj.mapSeq (·.push v))).get? kS = some (seqObj "list" ((List.toArray ks).push v) c2) := ⟨_, get?_update_seq hk2 (·.push v)⟩
    refine wpAny_bind (listUpdate_at hk2 rfl ?_ (by rw [List.size_toArray, sizeLine_eq]; omega) (Nat.le_trans (Nat.le_of_eq (Array.size_push ..)) (by rw [List.size_toArray, sizeLine_eq]; omega)))
    refine wpAny_pure ⟨rfl, _, tk2, dw2, ks ++ [v], c2, rfl, fun b o h1 h2 q => g1 s1 (notTab_at hk2) b h2 (hg b o (hkp b o h1 h2 q)), by rw [hc2, List.push_toArray], (s1.2 a hka.symm).trans (Heap.of_gt (hg _ _ (Heap.gt_of ha'))), ?_⟩
    have et : ds.take (j + 1) = ds.take j ++ [d] := by rw [List.take_add_one, hd]; rfl
    rw [et]
    exact ((K.more hg).snoc hv).set hk2 fun c o hcn q => (s1.2 c hcn).trans q
  case done =>
    rintro s' ⟨h', tk, dw, ks, e, rfl, hkp, hk', ha', K⟩
    rw [Nat.zero_add, hl, List.take_length] at K
    refine wpAny_bind (listItems_at hk' rfl ?_)
    exact key_end (s := { s with heap := h', toks := tk, drawn := dw }) hk' ha' hka K hc hl hz fun h'' c L h1 h2 h3 => h h'' tk dw c L (fun b o n1 n2 q => Heap.gt_lift (F := fun b => b ≠ a ∧ b ≠ kS) (h := h') (fun b o e ht => ⟨fun q => (by have := notTab_at ha' rfl o (by rw [← q]; exact e); rw [this] at ht; cases ht), fun q => (by have := notTab_at hk' rfl o (by rw [← q]; exact e); rw [this] at ht; cases ht)⟩) (fun b o n e => h1 b o n.1 n.2 e) b o ⟨n1, n2⟩ (hkp b o n1 n2 q)) h2 h3

theorem key_tree {n : Nat} (ho : s.heap.get? a = some (seqObj "list" vs.toArray n)) (hc : ∀ d ∈ ds, d.isCell = true) (hl : vs.length = ds.length) (hz : ds.length < 128)
    (turn : ∀ (i : Nat) (v : Value) (d : D), vs[i]? = some v → ds[i]? = some d → ∀ h tk dw, (∀ b o, b ≠ a → gat s.heap b = some o → gat h b = some o) →
      wpAny (model prog w) A (call f [v]) (fun k s' => Keeps { s with heap := h, toks := tk, drawn := dw } s' ∧ KeyAt s'.heap k d) (fun _ _ => False) { s with heap := h, toks := tk, drawn := dw })
    (h : ∀ h' tk dw c L, (∀ b o, b ≠ a → gat s.heap b = some o → gat h' b = some o) → h'.get? a = some (seqObj "list" (L.map fun p => vs.getD p .none).toArray c) → SortIx ds rev L → P (.done (.ret .none)) { s with heap := h', toks := tk, drawn := dw }) :
    wpAny (model prog w) A (ksk_tree a f rev) P E s := by
  have ha : a < s.heap.objs.size := Heap.lt_size ho
  have s1 := Heap.SameBut.update s.heap a (Obj.mapSeq fun _ => (#[] : Array Value))
  obtain ⟨e1, ho1⟩ : ∃ e1, (s.heap.update a (Obj.mapSeq fun _ => (#[] : Array Value))).get? a = some (seqObj "list" #[] e1) := ⟨_, get?_update_seq ho fun _ => #[]⟩
  have hkS : ((s.heap.update a (Obj.mapSeq fun _ => (#[] : Array Value))).push (seqObj "tuple" vs.toArray 0)).objs.size = s.heap.objs.size + 1 := by rw [size_push', Heap.size_update]
  have hkp : ∀ b o, b ≠ a → gat s.heap b = some o → (gat (((s.heap.update a (Obj.mapSeq fun _ => (#[] : Array Value))).push (seqObj "tuple" vs.toArray 0)).push (seqObj "list" #[] 0)) b = some o ∧ b ≠ s.heap.objs.size + 1) := fun b o hb q =>
    ⟨Heap.gt_push_of_some _ (Heap.gt_push_of_some _ (g1 s1 (notTab_at ho) b hb q)), Nat.ne_of_lt (Nat.lt_succ_of_lt (Heap.gt_lt q))⟩
  delta ksk_tree
  refine wpAny_bind (listItems_at ho rfl ?_)
  refine wpAny_bind (listUpdate_at ho rfl ?_ (by rw [List.size_toArray, sizeLine_eq]; omega) (Nat.zero_le _))
  refine wpAny_bind (seqEpoch_at ho1 rfl ?_)
  refine wpAny_bind (wpAny_newTuple ?_ (by show vs.length ≤ _; rw [sizeLine_eq]; omega))
  refine wpAny_bind (wpAny_newList ?_ (Nat.zero_le _))
  refine wpAny_holding ?_
  refine key_rest (s := { s with heap := ((s.heap.update a (Obj.mapSeq fun _ => (#[] : Array Value))).push (seqObj "tuple" vs.toArray 0)).push (seqObj "list" #[] 0) }) (kS := ((s.heap.update a (Obj.mapSeq fun _ => (#[] : Array Value))).push (seqObj "tuple" vs.toArray 0)).objs.size) (e1 := e1)
    (Heap.get?_push_size _ rfl) (Heap.get?_push_of_some _ (Heap.get?_push_of_some _ ho1)) (by rw [hkS]; exact Nat.ne_of_gt (Nat.lt_succ_of_lt ha)) hc hl hz
    (fun i v d hv hd h tk dw hk => turn i v d hv hd h tk dw fun b o hb q => hk b o hb (by rw [hkS]; exact (hkp b o hb q).2) (hkp b o hb q).1)
    fun h' tk dw c L hk h2 h3 => h h' tk dw c L (fun b o hb q => hk b o hb (by rw [hkS]; exact (hkp b o hb q).2) (hkp b o hb q).1) h2 h3
end
end Mine
namespace Mine
open PySem PyProof.Rows PySem.SeqAt

section
variable {prog : Program} {w : World} {A : Around} {E : Value → Shared → Prop} {s : Shared} {l : Addr} {rev : Bool} {vs : List Value} {ds : List D} {f : Value} {Q : Value → Shared → Prop}

theorem sorted_key {kw : List (Str × Value)} (hl : s.heap.IsList l vs.toArray) (hc : ∀ d ∈ ds, d.isCell = true) (hlen : vs.length = ds.length) (hz : ds.length < 128)
    (ha1 : argsOk "sorted" ⟨[.ref l], kw⟩) (ha2 : ∀ x, argsOk "list.sort" ⟨[.ref x], kw⟩) (ht : ∀ x, Builtin.«list.sort» ⟨[.ref x], kw⟩ = ksk_tree x f rev)
    (turn : ∀ (i : Nat) (v : Value) (d : D), vs[i]? = some v → ds[i]? = some d → ∀ h tk dw, (KH s.heap h) →
      wpAny (model prog w) A.in1.in1 (call f [v]) (fun k s' => Keeps { s with heap := h, toks := tk, drawn := dw } s' ∧ KeyAt s'.heap k d) (fun _ _ => False) { s with heap := h, toks := tk, drawn := dw })
    (h : ∀ h' tk dw S c L, (KH s.heap h') → (∀ b o, gat s.heap b = some o → @LT.lt Nat _ b S) → h'.get? S = some (lstO (L.map fun p => vs.getD p .none).toArray c) → SortIx ds rev L → Q (.ref S) { s with heap := h', toks := tk, drawn := dw }) :
    wpAny (model prog w) A (call (.builtin "sorted") [.ref l] kw) Q E s := by
  refine call_function_entry_kw kind_sorted plain_sorted entry_sorted ha1 ?_
  unfold Builtin.«sorted»
  refine wpAny_bind (m := checkCount "sorted" 1 1 _) (wpAny_pure ?_)
  refine wpAny_bind (collect_list hl ?_ (by rw [sizeLine_eq]; omega))
  refine wpAny_bind (wpAny_newList ?_ (by rw [sizeLine_eq]; omega))
  have hsz : ((s.heap.push (seqObj "list" #[] 0)).update s.heap.objs.size (Obj.mapSeq (· ++ vs.toArray))).objs.size = s.heap.objs.size + 1 := by
    rw [Heap.size_update, size_push']
  have hoL : (((s.heap.push (seqObj "list" #[] 0)).update s.heap.objs.size (Obj.mapSeq (· ++ vs.toArray))).push (seqObj "list" vs.toArray 0)).get? (s.heap.objs.size + 1) = some (seqObj "list" vs.toArray 0) := by
    rw [← hsz]; exact Heap.get?_push_size _ rfl
  have keep : ∀ b o, gat s.heap b = some o → gat (((s.heap.push (seqObj "list" #[] 0)).update s.heap.objs.size (Obj.mapSeq (· ++ vs.toArray))).push (seqObj "list" vs.toArray 0)) b = some o ∧ b ≠ s.heap.objs.size + 1 := fun b o q => by
    have hlt : b < s.heap.objs.size := Heap.gt_lt q
    have hat : (s.heap.push (seqObj "list" #[] 0)).get? s.heap.objs.size = some (seqObj "list" #[] 0) := Heap.get?_push_size _ rfl
    exact ⟨Heap.gt_push_of_some _ (g1 (Heap.SameBut.update ..) (notTab_at hat) b (Nat.ne_of_lt hlt) (Heap.gt_push_of_some _ q)), Nat.ne_of_lt (Nat.lt_succ_of_lt hlt)⟩
  show wpAny _ _ _ _ _ { s with heap := ((s.heap.push (seqObj "list" #[] 0)).update s.heap.objs.size (Obj.mapSeq (· ++ vs.toArray))).push (seqObj "list" vs.toArray 0) }
  rw [hsz]
  refine wpAny_bind (wpAny_holding (wpAny_call_entry_kw slot_list_sort ⟨_, hoL, rfl⟩ entry_list_sort ?body (ha2 _)))
  case body =>
    show wpAny (model prog w) A.in1.in1 (Builtin.«list.sort» ⟨[.ref (s.heap.objs.size + 1)], kw⟩) _ _ _
    rw [ht (s.heap.objs.size + 1)]
    refine key_tree (s := { s with heap := ((s.heap.push (seqObj "list" #[] 0)).update s.heap.objs.size (Obj.mapSeq (· ++ vs.toArray))).push (seqObj "list" vs.toArray 0) }) (ds := ds) hoL hc hlen hz
      (fun i v d hv hd h tk dw hk => turn i v d hv hd h tk dw fun b o q => hk b o (keep b o q).2 (keep b o q).1) fun h' tk dw c L hk h2 h3 => ⟨_, rfl, ?_⟩
    exact wpAny_pure ⟨_, rfl, h h' tk dw _ c L (fun b o q => hk b o (keep b o q).2 (keep b o q).1) (fun b o q => Nat.lt_succ_of_lt (Heap.gt_lt q)) h2 h3⟩
end
end Mine
namespace Mine
open PySem
theorem rkb_iff {kl : Nat → Nat → Bool} {p q : Nat} : rkb kl p q = true ↔ Rk kl p q := by
  unfold rkb Rk
  simp
theorem wk_kl {ds : List D} (hc : ∀ d ∈ ds, d.isCell = true) (rev : Bool) : Wk (klOf ds rev) := by
  have W := wk_cell (keyOf_cell hc)
  cases rev with
  | false => exact W
  | true => exact ⟨fun p => W.irr p, fun {p q r} h1 h2 => W.tr (p := r) (q := q) (r := p) h2 h1, fun {p q r} h1 h2 => W.neg (p := r) (q := q) (r := p) h2 h1⟩
theorem sortIx_srtIx {ds : List D} (hc : ∀ d ∈ ds, d.isCell = true) (rev : Bool) : SortIx ds rev (srtIx ds rev) := by
  have W := wk_kl hc rev
  have hp : (srtIx ds rev).Perm (List.range ds.length) := List.mergeSort_perm _ _
  refine ⟨hp, ?_⟩
  have hs := List.pairwise_mergeSort (le := fun p q => p == q || rkb (klOf ds rev) p q) (fun a b c h1 h2 => by
    simp only [Bool.or_eq_true, beq_iff_eq, rkb_iff] at *
    rcases h1 with rfl | h1
    · exact h2
    · rcases h2 with rfl | h2
      · exact .inr h1
      · exact .inr (h1.tr W h2)) (fun a b => by
    simp only [Bool.or_eq_true, beq_iff_eq, rkb_iff]
    rcases Nat.lt_trichotomy a b with h | h | h
    · cases e : klOf ds rev b a with
      | false => exact .inl (.inr (.inr ⟨e, h⟩))
      | true => exact .inr (.inr (.inl e))
    · exact .inl (.inl h)
    · cases e : klOf ds rev a b with
      | false => exact .inr (.inr (.inr ⟨e, h⟩))
      | true => exact .inl (.inr (.inl e))) (List.range ds.length)
  have hn : (srtIx ds rev).Nodup := hp.nodup_iff.mpr List.nodup_range
  refine (List.Pairwise.and hs hn).imp fun {p q} h => ?_
  simp only [Bool.or_eq_true, beq_iff_eq, rkb_iff] at h
  exact h.1.elim (fun e => absurd e h.2) id
theorem sortIx_uniq {ds : List D} (hc : ∀ d ∈ ds, d.isCell = true) {rev : Bool} {L : List Nat} (h : SortIx ds rev L) : L = srtIx ds rev := by
  have h' := sortIx_srtIx hc rev
  have W := wk_kl hc rev
  refine List.Perm.eq_of_pairwise (fun a b _ _ h1 h2 => ?_) h.2 h'.2 (h.1.trans h'.1.symm)
  have h3 := h1.tr W h2
  rcases h3 with h3 | ⟨_, h3⟩
  · rw [W.irr] at h3; cases h3
  · exact absurd h3 (Nat.lt_irrefl _)
theorem keysD_len {g : D → Option D} : ∀ {ds ks : List D}, keysD g ds = some ks → ks.length = ds.length
  | [], ks, h => by cases h; rfl
  | d :: r, ks, h => by
    rw [keysD] at h
    split at h
    · split at h
      · rw [Option.map_eq_some_iff] at h
        obtain ⟨ks', h1, rfl⟩ := h
        exact congrArg Nat.succ (keysD_len h1)
      · cases h
    · cases h
theorem keysD_at {g : D → Option D} : ∀ {ds ks : List D} {i : Nat} {d c : D}, keysD g ds = some ks → ds[i]? = some d → ks[i]? = some c → ∃ k, g d = some k ∧ keyD k = some c
  | [], ks, i, d, c, _, h2, _ => by simp at h2
  | d' :: r, ks, i, d, c, h, h2, h3 => by
    rw [keysD] at h
    split at h
    · rename_i k hk
      split at h
      · rename_i c' hc
        rw [Option.map_eq_some_iff] at h
        obtain ⟨ks', h1, rfl⟩ := h
        cases i with
        | zero => simp at h2 h3; subst h2 h3; exact ⟨k, hk, hc⟩
        | succ i => exact keysD_at h1 (by simpa using h2) (by simpa using h3)
      · cases h
    · cases h
theorem keyD_inv {k c : D} (h : keyD k = some c) : k = .tup [.bool (isStrD c), c] ∧ c.isCell = true := by
  unfold keyD at h
  split at h
  · split at h
    · rename_i hc
      rw [Bool.and_eq_true, beq_iff_eq] at hc
      cases h
      exact ⟨by rw [hc.2], hc.1⟩
    · cases h
  · cases h
theorem keysD_cell {g : D → Option D} {ds ks : List D} (h : keysD g ds = some ks) : ∀ d ∈ ks, d.isCell = true := fun c hc => by
  obtain ⟨i, hi⟩ := List.getElem?_of_mem hc
  have hl := keysD_len h
  have hlt : i < ks.length := (List.getElem?_eq_some_iff.mp hi).1
  obtain ⟨k, _, h2⟩ := keysD_at h (List.getElem?_eq_getElem (hl ▸ hlt)) hi
  exact (keyD_inv h2).2
end Mine
namespace Mine
open PySem PySem.SeqAt PySem.W PyProof.Rows

section
variable {M : Model} {A : Around} {E : Value → Shared → Prop} {s : Shared}

/-- a lambda is made whose code is not in the table yet -/
theorem lam_tail {params : Arguments} {body : Expr} {scope : Scope} {env : Env} {ps : Array Value} {pos : Pos} {firstLine : Nat} {mg : Str → Option Value} {clos : List (Str × Addr)} {name : Str} {Q : Value → Shared → Prop}
    (hcl : closureFor scope env = pure clos) (hne : clos.isEmpty = false) (hge0 : env.globals = mainGlobals) (hg : s.heap.Ns mainGlobals mg) (hcode : env.code = .ref oc) (C : CodeHd s.heap oc tb) (hP : s.heap.get? tb = some (tabObj ps)) (ht : TrOk s.heap ps.toList)
    (hnf : codeAmong pos ps.toList = none) (hb : s.heap.BuiltinsAt mg tb)
    (h : ∀ c' ctv h' tk, (KH s.heap h') → LamAt h' c' →
      Q (.ref h'.objs.size) { s with heap := h'.push (kla_obj name lamQ params body scope clos ((mg "__name__").getD .none) c' ctv), toks := tk }) :
    wpAny M A (makeTail name lamQ params (.expr body) scope env .none .none none pos firstLine) Q E s := by
  have hgP : mainGlobals ≠ tb := fun q => by
    have e := notTab_ns hg (tabObj ps) (q ▸ hP)
    cases e
  obtain ⟨bm, ob, hbm, hne0, _, hneP, hbo, hcls, hdict, hdata⟩ := hb
  unfold makeTail
  rw [hcl, hge0]
  refine wpAny_bind (wpAny_pure ?_)
  rw [hne]
  simp only [Bool.false_eq_true, if_false]
  refine wpAny_bind (wpAny_newTextTuple ?_)
  refine wpAny_bind (wpAny_functionCodeX hcode ((C.keeps fun b o e => Heap.get?_push_of_some _ e).code (Heap.get?_push_of_some _ hP) (TrOk.triples _ ht)) ((C.keeps fun b o e => Heap.get?_push_of_some _ e).tab (Heap.get?_push_of_some _ hP)) hnf fun c' h' tk hx hge hlt _ hrec htb hnew => ?_)
  have hg' := (hg.push _).extBut hx hgP
  have hx' : Heap.ExtBut tb s.heap h' := fun b o hb' e => hx b o hb' (Heap.get?_push_of_some _ e)
  have hlam : LamAt h' c' := by
    obtain ⟨_, _, _, ⟨o1, v1, r1, r2, r3, _⟩, _⟩ := hnew
    obtain ⟨c2, o2, vs, t, e2, hoc, hd, hv⟩ := hrec
    cases e2
    rw [r1] at hoc; cases hoc
    exact ⟨_, vs, t, r1, r2, hd, hv⟩
  have keep : KH s.heap h' := fun b o e => by
    by_cases hb : b = tb
    · subst hb
      rw [Heap.gt_good hP ⟨ps, rfl, ht⟩] at e
      cases e
      refine Heap.gt_good htb.2 ⟨_, rfl, ?_⟩
      rw [Array.toList_append]
      exact TrOk.snoc _ _ hlam _ (TrOk.mono (fun b o e _ hc => hx' b o (fun q => by rw [q, hP] at e; cases e; exact hc rfl) e) _ ht)
    · rw [Heap.gt_ne hb] at e ⊢
      exact hx' b o hb e
  refine wpAny_bind (wpAny_builtinsFor hg' hbm hne0 (hx' _ _ hneP hbo) hcls hdict hdata ?_)
  refine wpAny_bind (wpAny_nsGet hg' ?_)
  exact wpAny_bind (wpAny_pure (wpAny_newObj_type (h c' _ h' tk keep hlam) (by size_fits)))

/-- a lambda is made: its code is in the table, or is laid there -/
theorem lam_make {params : Arguments} {body : Expr} {scope : Scope} {env : Env} {ps : Array Value} {pos : Pos} {firstLine : Nat} {mg : Str → Option Value} {clos : List (Str × Addr)} {name : Str} {Q : Value → Shared → Prop}
    (hcl : closureFor scope env = pure clos) (hne : clos.isEmpty = false) (hge0 : env.globals = mainGlobals) (hg : s.heap.Ns mainGlobals mg) (hcode : env.code = .ref oc) (C : CodeHd s.heap oc tb) (hP : s.heap.get? tb = some (tabObj ps)) (ht : TrOk s.heap ps.toList)
    (hb : s.heap.BuiltinsAt mg tb)
    (h : ∀ c' ctv h' tk, (KH s.heap h') → LamAt h' c' →
      Q (.ref h'.objs.size) { s with heap := h'.push (kla_obj name lamQ params body scope clos ((mg "__name__").getD .none) c' ctv), toks := tk }) :
    wpAny M A (makeFunction name lamQ params (.expr body) scope env [] [] [] pos firstLine) Q E s := by
  cases hf : codeAmong pos ps.toList with
  | none =>
    rw [makeFunction_eq]
    simp only [List.zip_nil_right, List.filterMap_nil, List.isEmpty_nil, if_true, pure_bind]
    exact lam_tail hcl hne hge0 hg hcode C hP ht hf hb h
  | some cv =>
    obtain ⟨c', rfl, hl⟩ := TrOk.among _ ht hf
    exact kla_makeFunctionHit hcl hge0 hg hcode C hP (TrOk.triples _ ht) hf hb fun ctv h' tk hk _ => h c' ctv h' tk (Heap.gt_up hk) (hl.mono fun b o e _ _ => hk b o e)
end
end Mine
namespace Mine
open PySem PySem.SeqAt PySem.W PyProof.Rows

section
variable {prog : Program} {w : World} {A : Around} {s : Shared}

noncomputable abbrev lamEnv (scope : Scope) (L : Addr) (clos : List (Str × Addr)) (f c' : Addr) : Env := newEnv scope L mainGlobals clos (lamQ ++ ".<locals>.") (some f) (.ref c') none builtinsNs

/-- a lambda is called -/
theorem lam_call {f c' : Addr} {params : Arguments} {body : Expr} {scope : Scope} {clos : List (Str × Addr)} {pm ctv v : Value} {x name : Str} {Q : Value → Shared → Prop} {E : Value → Shared → Prop}
    (ho : s.heap.get? f = some (kla_obj name lamQ params body scope clos pm c' ctv)) (hl : LamAt s.heap c') (hlim : s.heap.NoLimit) (hroom : A.depth < recursionLimit)
    (h1 : params.posonlyargs = []) (h2 : params.kwonlyargs = []) (h3 : params.vararg = none) (h4 : params.kwarg = none) (h5 : params.args.map (·.arg) = [x])
    (hk : scope.kind = .function) (hco : scope.isCoroutine = false) (hgen : scope.isGenerator = false) (hcell : ∀ p ∈ scope.names, p.2 ≠ .cell) (hx : scope.names.lookup x = some .local)
    (h : ∀ h₁ tk, h₁.Ns s.heap.objs.size (fun y => [(x, v)].lookup y) → (KH s.heap h₁) →
      wpAny (model prog w) (A.deeper (lamEnv scope s.heap.objs.size clos f c')) (eval body (lamEnv scope s.heap.objs.size clos f c')) Q (fun _ _ => False) { s with heap := h₁, toks := tk }) :
    wpAny (model prog w) A (call (.ref f) [v]) Q E s := by
  obtain ⟨oc', vs, t, e1, e2, e3, e4⟩ := hl
  refine wpAny_call (kla_callFunE hroom ho rfl hco hgen rfl ⟨c', oc', vs, t, rfl, e1, e3, e4⟩ ?_)
  have hbind : bindArgs (kla_fn name lamQ params body scope clos pm (.ref c') ctv) ⟨[v], []⟩ = pure [(x, v)] := by
    have q := bindArgs_plain (fd := kla_fn name lamQ params body scope clos pm (.ref c') ctv) (vals := [v]) h1 h2 h3 h4 rfl (by show (params.args.map (·.arg)).Nodup; rw [h5]; exact List.nodup_cons.mpr ⟨nofun, List.nodup_nil⟩) (by show (params.args.map (·.arg)).length = _; rw [h5]; rfl)
    have q2 : bindArgs (kla_fn name lamQ params body scope clos pm (.ref c') ctv) ⟨[v], []⟩ = pure ((params.args.map (·.arg)).zip [v]) := q
    rw [h5] at q2; exact q2
  rw [hbind]
  refine wpAny_pure (wpAny_newFunctionEnv hcell (fun y hy => ?_) (fun h₁ hns hsb => ⟨hlim.fresh _ hsb, ?_⟩) hk)
  · simp only [List.mem_cons, List.not_mem_nil, or_false] at hy
    subst hy; exact hx
  · refine kla_codeExpr (wpAny_mono (h h₁ _ hns fun b o e => ?_) (fun v s' q => q) fun _ _ q => q.elim)
    have hat : (s.heap.push { cls := .type "frame", data := .dict #[] }).get? s.heap.objs.size = some { cls := .type "frame", data := .dict #[] } := Heap.get?_push_size _ rfl
    exact g1 hsb (notTab_at hat) b (Nat.ne_of_lt (Heap.gt_lt e)) (Heap.gt_push_of_some _ e)

theorem lam_env {h h₁ : Heap} {env : Env} {m : Str → Option Value} {scope : Scope} {x : Str} {v : Value} {f c' : Addr} (R : EnvRep h env m) (hns : h₁.Ns h.objs.size (fun y => [(x, v)].lookup y)) (keep : KH h h₁)
    (hk : scope.kind = .function) (hcell : ∀ p ∈ scope.names, p.2 ≠ .cell) (hfree : ∀ p ∈ scope.names, p.2 = .free → env.kindOf p.1 = some .cell ∨ env.kindOf p.1 = some .free) (hord : ordK (fun y => scope.names.lookup y) = false) :
    EnvRep h₁ (lamEnv scope h.objs.size (clGo env.cells scope.names []) f c') (fun y => if scope.names.lookup y = some .free then m y else [(x, v)].lookup y) := by
  have sound : ∀ y c, (clGo env.cells scope.names []).lookup y = some c → env.cells.lookup y = some c := clGo_sound _ _ (fun _ _ e => by simp at e)
  refine ⟨hk, rfl, rfl, ⟨_, hns, fun y hy => ?_⟩, fun y hy => ?_, fun y z c e1 e2 => R.inj y z c (sound y c e1) (sound z c e2), fun y c e q => ?_, fun y c e => ?_, fun ho => ?_⟩
  · have hy : scope.names.lookup y = some .local := hy
    rw [hy, if_neg (by nofun)]
  · have hy : scope.names.lookup y = some .cell ∨ scope.names.lookup y = some .free := hy
    rcases hy with hy | hy
    · exact absurd rfl (hcell _ (mem_of_lookup hy))
    · obtain ⟨c, q1, q2⟩ := R.cell y (hfree _ (mem_of_lookup hy) rfl)
      exact ⟨c, clGo_has q1 _ _ (.inl (mem_of_lookup hy)), by rw [if_pos hy]; exact Cell.keepAt q2 (keep _)⟩
  · obtain ⟨o, ho⟩ := R.ex y c (sound y c e)
    have h1 := Heap.gt_lt ho
    have q : @Eq Nat c h.objs.size := q
    omega
  · obtain ⟨o, ho⟩ := R.ex y c (sound y c e)
    exact ⟨o, keep _ _ ho⟩
  · have ho : ordK (fun y => scope.names.lookup y) = true := ho
    rw [hord] at ho; cases ho
end

section
variable {prog : Program} {w : World} {A : Around} {s : Shared} {base : Heap} {mg mb : Str → Option Value} {cf : CF}

theorem code_keep {h : Heap} {H : Addr → Prop} (G : GOk mg mb base) (hw : HOk base h H) : CodeHd h oc tb ∧ h.BuiltinsAt mg tb ∧ ∃ ps, h.get? tb = some (tabObj ps) ∧ TrOk h ps.toList := by
  obtain ⟨c1, c2, bm, ob, b1, b2, b3, b4, b5, b6, b7, b8⟩ := G.lam
  refine ⟨?_, ⟨bm, ob, b1, b2, b3, b4, Heap.of_gt (hw.keep _ _ (Heap.gt_of b5 (notTab_of (by rw [b8]; nofun)))) (notTab_of (by rw [b8]; nofun)), b6, b7, b8⟩, ?_⟩
  · obtain ⟨o, vs, file, tf, flags, tg, inF, text, tt, e1, e2, r⟩ := CodeHd.of c1 c2
    have hne : oc ≠ tb := r.2.2.2.2.2.2.2
    have e1' : gat base oc = some o := by rw [Heap.gt_ne hne]; exact e1
    have e3 := hw.keep _ _ e1'
    rw [Heap.gt_ne hne] at e3
    exact ⟨o, vs, file, tf, flags, tg, inF, text, tt, e3, e2, r⟩
  · obtain ⟨o', e', ⟨_, q⟩ | ⟨_, _, xs, q, q2⟩⟩ := Heap.gt_some (hw.keep _ _ (Heap.gt_good c2.2 GoodT.empty))
    · cases q rfl
    · subst q; exact ⟨xs, e', q2⟩

theorem repAll_at {P : Params} {h : Heap} {H : Addr → Prop} {vs : List Value} {ds : List D} (r : RepAll P h H vs ds) {i : Nat} {v : Value} {d : D} (h1 : vs[i]? = some v) (h2 : ds[i]? = some d) : Rep P h H v d := by
  obtain ⟨v', q1, q2⟩ := r.get i h2
  rw [h1] at q1; cases q1; exact q2
theorem repAll_of {P : Params} {h : Heap} {H : Addr → Prop} {vs : List Value} {ds : List D} (r : RepAll P h H vs ds) : ∀ (L : List Nat), (∀ j ∈ L, j < ds.length) → RepAll P h H (L.map fun p => vs.getD p .none) (L.map fun j => ds.getD j .none)
  | [], _ => .nil
  | j :: L, hL => by
    have hj := hL j (.head _)
    obtain ⟨v', q1, q2⟩ := r.get j (List.getElem?_eq_getElem hj)
    refine .cons ?_ (repAll_of r L fun k hk => hL k (.tail _ hk))
    show Rep P h H (vs.getD j .none) (ds.getD j .none)
    rw [List.getD_eq_getElem?_getD, List.getD_eq_getElem?_getD, q1, List.getElem?_eq_getElem hj]
    exact q2

theorem key_of {h : Heap} {P : Params} {H : Addr → Prop} {k : Value} {c : D} (r : Rep P h H k (.tup [.bool (isStrD c), c])) (hc : c.isCell = true) : KeyAt h k c := by
  cases r with
  | tup ho hn hl hr =>
    rename_i a vs n
    obtain ⟨vs⟩ := vs
    cases hr with
    | cons h1 h2 =>
      cases h2 with
      | cons h2 h3 =>
        cases h3
        cases h1
        refine ⟨a, _, n, rfl, ho, hc, ?_⟩
        cases h2 <;> first | (cases hc; done) | exact .inl ⟨_, _, rfl, rfl⟩ | exact .inr ⟨_, _, rfl, rfl⟩

theorem lamVar {k k' : KD} {b : Expr} {f x p : String} (h : chkE k' b (.call f [.sub (.var x) (.var p)]) = true) (hp : k (Str.ofString p) = some .cell ∨ k (Str.ofString p) = some .free) : isVar k (Str.ofString p) = true := by
  obtain ⟨_, _, as, _, rfl, hc⟩ := inv_call h
  rw [Bool.and_eq_true] at hc
  match as, hc.2 with
  | [], q => cases q
  | e :: es, q =>
    rw [cs_cons, Bool.and_eq_true] at q
    obtain ⟨_, s, _, rfl, _, q2⟩ := inv_sub q.1
    rw [Bool.and_eq_true] at q2
    obtain ⟨_, _, rfl, q3⟩ := inv_var q2.2
    rw [Bool.and_eq_true, beq_iff_eq] at q3
    obtain ⟨rfl, q3⟩ := q3
    unfold isVar at q3 ⊢
    simp only [Bool.and_eq_true, Bool.or_eq_true, beq_iff_eq] at q3 ⊢
    obtain ⟨⟨⟨_, r1⟩, r2⟩, r3⟩ := q3
    exact ⟨⟨⟨hp.elim (fun e => .inl (.inr e)) .inr, r1⟩, r2⟩, r3⟩
theorem lamAt_keepG {h h' : Heap} {c : Addr} (x : LamAt h c) (hne : c ≠ tb) (hk : KH h h') : LamAt h' c := by
  obtain ⟨o, vs, t, e, r⟩ := x
  rw [← Heap.gt_ne hne] at e
  have e' := hk _ _ e
  rw [Heap.gt_ne hne] at e'
  exact ⟨o, vs, t, e', r⟩

theorem se_srt (G : GOk mg mb base) (C : CSound prog w base mg cf A) (hh : A.handled = none) (hu : Room A) {a : ME} {f x p : String} {rev : Bool} (ha : SE prog w A base cf a) : SE prog w A base cf (.srt a f x p rev) := by
  intro s env e H ρ m d E hc R hw hn he
  obtain ⟨g, gp, y, ks, pos, rfl, hg, hy, ps, b, sc, lp, kp, hlam, hks⟩ := inv_srt hc
  rw [Bool.and_eq_true] at hlam
  obtain ⟨hok, hbody⟩ := hlam
  replace hbody := chkLam_E hbody
  unfold okLam at hok
  simp only [Bool.and_eq_true, List.isEmpty_iff, Option.isNone_iff_eq_none, beq_iff_eq, Bool.not_eq_true', decide_eq_true_eq, List.all_eq_true, bne_iff_ne, Bool.or_eq_true] at hok
  obtain ⟨⟨⟨⟨⟨⟨⟨⟨⟨⟨⟨⟨⟨⟨⟨o1, o2⟩, o3⟩, o4⟩, o5⟩, o6⟩, o7⟩, o8⟩, o9⟩, o10⟩, o11⟩, o12⟩, o13⟩, o14⟩, o15⟩, o16⟩ := hok
  simp only [Bool.and_eq_true, beq_iff_eq, isGlob, bne_iff_ne] at hg
  obtain ⟨rfl, hk, hd⟩ := hg
  rw [ev_srt] at he
  split at he
  case h_2 => cases he
  rename_i xd hxd
  split at he
  case h_2 => cases he
  rename_i i hi
  unfold srtD at he
  split at he
  case h_2 => cases he
  rename_i ds
  split at he
  case isFalse => cases he
  rename_i hz
  rw [Option.map_eq_some_iff] at he
  obtain ⟨kds, hkeys, rfl⟩ := he
  have hkl := keysD_len hkeys
  have hkc := keysD_cell hkeys
  obtain ⟨hcode, hqual⟩ := R.lam o14
  have hcell : ∀ p ∈ sc.names, p.2 ≠ .cell := fun p hp => (o13 p hp).1
  have hfree : ∀ p ∈ sc.names, p.2 = .free → env.kindOf p.1 = some .cell ∨ env.kindOf p.1 = some .free := fun p hp e => by
    rcases (o13 p hp).2 with (q | q) | q
    · exact absurd e q
    · exact .inl q
    · exact .inr q
  have hcl : closureFor sc env = pure (clGo env.cells sc.names []) := closureFor_go fun p hp e => let ⟨c, q, _⟩ := R.cell p.1 (hfree p hp e); ⟨c, q⟩
  -- p, in the frame
  have hxp : x ≠ p := fun q => by rw [q, o16] at o12; cases o12
  have hvarp : isVar env.kindOf (Str.ofString p) = true := lamVar hbody (hfree _ (mem_of_lookup o16) rfl)
  obtain ⟨vp, hmp, rp⟩ := hn p (by rw [nm_srt]; exact List.mem_append_right _ (.head _)) hvarp i hi
  have hne : (clGo env.cells sc.names []).isEmpty = false := by
    obtain ⟨c, q, _⟩ := R.cell (Str.ofString p) (hfree _ (mem_of_lookup o16) rfl)
    have q2 := clGo_has q sc.names [] (.inl (mem_of_lookup o16))
    cases q3 : clGo env.cells sc.names [] with
    | nil => rw [q3] at q2; cases q2
    | cons _ _ => rfl
  have hc2 : chkEs env.kindOf [y] [a] = true := by rw [cs_cons, hy]; rfl
  have hst : backTo pos (starEach [y] env) = [(false, eval y env)] := by rw [spliced_ok hc2, backTo_ok]; rfl
  -- what the sort gives
  have fin : ∀ (s₁ s₂ : Shared) (la fa c' : Addr) (vs : Array Value) (n : Nat) (clos : List (Str × Addr)) (pm ctv : Value) (kw : List (Str × Value)), clos = clGo env.cells sc.names [] → Keeps s s₂ → s₂.heap.get? la = some (lstO vs n) → RepAll w.params s₂.heap H vs.toList ds →
      s₂.heap.get? fa = some (kla_obj "<lambda>" lamQ ps b sc clos pm c' ctv) → LamAt s₂.heap c' → argsOk "sorted" ⟨[.ref la], kw⟩ → (∀ x, argsOk "list.sort" ⟨[.ref x], kw⟩) → (∀ x, Builtin.«list.sort» ⟨[.ref x], kw⟩ = ksk_tree x (.ref fa) rev) →
      wpAny (model prog w) A (call (.builtin "sorted") [.ref la] kw) (Post w s H (.list ((srtIx kds rev).map fun j => ds.getD j .none))) E s₂ := by
    intro s₁ s₂ la fa c' vs n clos pm ctv kw hclos k2 hla hvs hfa hlam ha1 ha2 ht
    have hvl := hvs.length
    have hw₂ := hw.keeps (Kp.heap k2)
    have hct : c' ≠ tb := fun q => by
      obtain ⟨_, _, ps', e, _⟩ := code_keep G hw₂
      obtain ⟨_, _, _, e2, e3, _⟩ := hlam
      rw [q, e] at e2; cases e2; cases e3
    refine sorted_key (vs := vs.toList) (ds := kds) (f := .ref fa) (rev := rev) (isList_of (by simpa using hla)) hkc (by rw [hkl, hvl]) (by rw [hkl]; exact hz) ha1 ha2 ht ?_ ?_
    · intro j v c hv hc h tk dw hk'
      have hj : j < ds.length := by rw [← hkl]; exact (List.getElem?_eq_some_iff.mp hc).1
      obtain ⟨k, hg, hkd⟩ := keysD_at hkeys (List.getElem?_eq_getElem hj) hc
      obtain ⟨rfl, hcc⟩ := keyD_inv hkd
      unfold rowKey at hg
      split at hg
      case h_2 => cases hg
      rename_i cd hcd
      rw [Option.map_eq_some_iff] at hg
      obtain ⟨⟨kd, fr⟩, hcall, rfl⟩ := hg
      have hwh : HOk base h H := hw₂.keeps hk'
      have rj := (repAll_at hvs hv (List.getElem?_eq_getElem hj)).keeps hk'
      refine lam_call (s := { s₂ with heap := h, toks := tk, drawn := dw }) (Heap.of_gt (hk' _ _ (Heap.gt_of hfa (notTab_of nofun))) (notTab_of nofun)) (lamAt_keepG hlam hct hk') (NoLimit.keepG G.lim hwh.keep) ?_ o1 o2 o3 o4 o7 o8 o9 o10 hcell o12 fun h₁ tk₁ hns keep => ?_
      · exact Nat.lt_of_le_of_lt (Nat.le_add_right _ _) hu.depth
      have R₁ := lam_env (f := fa) (c' := c') ((R.keeps (Kp.heap k2)).keeps hk') hns keep o8 hcell hfree o15
      have hN : Near A (A.in1.in1.deeper (lamEnv sc h.objs.size clos fa c')) := ⟨rfl, Nat.le_refl _, by show A.units + 1 + 1 + 3 ≤ A.units + 10; omega⟩
      have hu' : (A.in1.in1.deeper (lamEnv sc h.objs.size clos fa c')).units + 1 < cLine := by have := hu.units; show A.units + 1 + 1 + 3 + 1 < cLine; omega
      have l1 : [(x, ds[j]), (p, i)].lookup x = some ds[j] := by rw [List.lookup_cons, beq_self_eq_true]
      have l2 : [(x, ds[j]), (p, i)].lookup p = some i := by
        rw [List.lookup_cons, show (p == x) = false from by simpa using Ne.symm hxp, List.lookup_cons, beq_self_eq_true]
      have hev : evEs cf [(x, ds[j]), (p, i)] [.sub (.var x) (.var p)] = some [cd] := by
        rw [evs_cons, ev_sub, ev_var, ev_var, l1, l2]
        dsimp only
        rw [hcd]; rfl
      refine wpAny_mono (sf_call (A := A.in1.in1.deeper (lamEnv sc h.objs.size clos fa c')) G (C.at hN) (ses_cons (se_sub hu' (se_var x) (se_var p)) ses_nil) { s₂ with heap := h₁, toks := tk₁, drawn := dw } (lamEnv sc h.objs.size clos fa c') b H [(x, ds[j]), (p, i)] _ _ fr (fun _ _ => False) hbody (hclos ▸ R₁) (hwh.keeps keep) ?nv (by rw [evF_call, hev]; exact hcall)) (fun kv s' q => ?_) fun _ _ q => q
      case nv =>
        intro z hz hvz dz hdz
        have hz : z = x ∨ z = p := by
          have : z ∈ ([x] ++ [p]) ++ [] := hz
          simpa using this
        rcases hz with rfl | rfl
        · rw [l1] at hdz; cases hdz
          refine ⟨v, ?_, rj.keeps keep⟩
          dsimp only
          rw [o12, if_neg nofun, List.lookup_cons, beq_self_eq_true]
        · rw [l2] at hdz; cases hdz
          refine ⟨vp, ?_, ((rp.keeps (Kp.heap k2)).keeps hk').keeps keep⟩
          dsimp only
          rw [o16, if_pos rfl]; exact hmp
      · exact ⟨Kp.trans ⟨h₁, tk₁, dw, rfl, keep⟩ q.1, key_of q.2.1 hcc⟩
    · intro h' tk dw S c L hk' hlt hS hL
      have := sortIx_uniq hkc hL
      subst this
      refine ⟨Kp.trans k2 ⟨h', tk, dw, rfl, hk'⟩, .list hS (fun q => ?_) ?_ ?_⟩
      · obtain ⟨b, o, hb, ho⟩ := hw₂.ex S q
        exact Nat.lt_irrefl _ (Nat.lt_of_le_of_lt hb (hlt b o ho))
      · rw [List.length_map, hL.1.length_eq, List.length_range, hkl]
        exact Nat.le_trans (Nat.le_of_lt hz) (by decide)
      · have := repAll_of (hvs.keeps hk') (srtIx kds rev) (fun j hj => by rw [← hkl]; exact List.mem_range.mp (hL.1.mem_iff.mp hj))
        simpa using this
  have hdef : defaultsOf ps env = ([], []) := by
    obtain ⟨q1, q2, q3, q4, q5, q6, q7⟩ := ps
    have o5 : q7 = [] := o5
    have o6 : q5 = [] := o6
    subst o5 o6
    rfl
  have lamb : ∀ (s₁ : Shared) (Q : Value → Shared → Prop), Keeps s s₁ → (∀ s₂ fa c' ctv, Keeps s₁ s₂ → s₂.heap.get? fa = some (kla_obj "<lambda>" lamQ ps b sc (clGo env.cells sc.names []) ((mg "__name__").getD .none) c' ctv) → LamAt s₂.heap c' → Q (.ref fa) s₂) →
      wpAny (model prog w) A (eval (.Lambda ps b sc lp) env) Q E s₁ := by
    intro s₁ Q k1 hQ
    have hw₁ := hw.keeps (Kp.heap k1)
    obtain ⟨hc1, hb1, tp, ht1, ht2⟩ := code_keep G hw₁
    refine kla_eval hdef ?_
    rw [hqual]
    refine lam_make (name := "<lambda>") hcl hne R.glob (Ns.keepAt G.g (hw₁.keep _)) hcode hc1 ht1 ht2 hb1 fun c' ctv h' tk hk' hl => hQ _ h'.objs.size c' ctv ⟨_, _, s₁.drawn, rfl, fun b o e => Heap.gt_push_of_some _ (hk' b o e)⟩ (Heap.get?_push_size _ rfl) ?_
    exact hl.mono fun b o e _ _ => Heap.get?_push_of_some _ e
  have go : ∀ (l : Value) (s₁ s₂ : Shared) (fa c' : Addr) (ctv : Value) (kw : List (Str × Value)), Post w s H (.list ds) l s₁ → Keeps s₁ s₂ → s₂.heap.get? fa = some (kla_obj "<lambda>" lamQ ps b sc (clGo env.cells sc.names []) ((mg "__name__").getD .none) c' ctv) → LamAt s₂.heap c' →
      (∀ la, argsOk "sorted" ⟨[.ref la], kw⟩) → (∀ x, argsOk "list.sort" ⟨[.ref x], kw⟩) → (∀ x, Builtin.«list.sort» ⟨[.ref x], kw⟩ = ksk_tree x (.ref fa) rev) →
      wpAny (model prog w) A (call (.builtin "sorted") [l] kw) (Post w s H (.list ((srtIx kds rev).map fun j => ds.getD j .none))) E s₂ := by
    intro l s₁ s₂ fa c' ctv kw q k2 hfa hl ha1 ha2 ht
    obtain ⟨k1, r⟩ := q
    cases r with
    | list ho hn hl' hr =>
      exact fin s₁ s₂ _ fa c' _ _ _ _ ctv kw rfl (Kp.trans k1 k2) (Heap.of_gt (Kp.heap k2 _ _ (Heap.gt_of ho))) (hr.keeps (Kp.heap k2)) hfa hl (ha1 _) ha2 ht
  refine wpAny_bind (m := eval (.Name (Str.ofString "sorted") gp) env) (name_blt G (f := "sorted") (by decide) R hw hk hd ?_)
  rcases hks with ⟨rfl, rfl⟩ | ⟨n, cp, kp2, rfl, rfl⟩
  · refine callWith_kw (id := "sorted") ?_ (he := by rw [hst]; rfl) (hplain := by rw [hst]; rfl)
    rw [hst]
    refine Calls.spliced_cons (wpAny_mono (ha s env y H ρ m _ E hy R hw (hn.sub fun _ hz => by rw [nm_srt]; exact List.mem_append_left _ hz) hxd) (fun l s₁ q₁ => Calls.spliced_nil ?_) fun _ _ e => e)
    exact kws_cons (lamb s₁ _ q₁.1 fun s₂ fa c' ctv k2 hfa hl => kws_nil (go l s₁ s₂ fa c' ctv _ q₁ k2 hfa hl (fun _ => ksk_s1 _ _) (fun _ => ksk_l1 _ _) fun _ => ksk_t1 _ _))
  · refine callWith_kw (id := "sorted") ?_ (he := by rw [hst]; rfl) (hplain := by rw [hst]; rfl)
    rw [hst]
    refine Calls.spliced_cons (wpAny_mono (ha s env y H ρ m _ E hy R hw (hn.sub fun _ hz => by rw [nm_srt]; exact List.mem_append_left _ hz) hxd) (fun l s₁ q₁ => Calls.spliced_nil ?_) fun _ _ e => e)
    exact kws_cons (lamb s₁ _ q₁.1 fun s₂ fa c' ctv k2 hfa hl => kws_cons (Constant_bool (kws_nil (go l s₁ s₂ fa c' ctv _ q₁ k2 hfa hl (fun _ => ksk_s2 _ _ _) (fun _ => ksk_l2 _ _ _) fun _ => ksk_t2 _ _ _))))
end
end Mine
namespace Mine
open PySem PySem.SeqAt

section
variable {prog : Program} {w : World} {A : Around} {s : Shared} {base : Heap} {mg mb : Str → Option Value} {cf : CF}

theorem st_plain {me : ME} (h : SE prog w A base cf me) (hp : ∀ e k env whole, chkE k e me = true → isTrue e env whole = (do let v ← whole; standAt e.pos; holding [v] (truthy v))) : ST prog w A base cf me := by
  intro s env e H ρ m d t E hc R hw hn he ht
  refine PyProof.Rows.isTrue_plain (wpAny_mono (h s env e H ρ m d E hc R hw hn he) (fun v s₁ q₁ => ?_) fun _ _ e => e) (hp e _ env _ hc)
  exact wpAny_mono (truth_snd q₁.2 ht) (fun b s₂ q₂ => ⟨Kp.trans q₁.1 q₂.1, q₂.2⟩) fun _ _ e => e

theorem sb_nil : SB prog w A base cf [] := by
  intro s env es op pos H ρ m d E hc R hw hn he
  simp only [evBop] at he; cases he

theorem sb_one {a : ME} (ha : SE prog w A base cf a) (ta : ST prog w A base cf a) : SB prog w A base cf [a] := by
  intro s env es op pos H ρ m d E hc R hw hn he
  cases es with
  | nil => simp [cs_nil, cs_cons, cs_consn] at hc
  | cons e es' =>
    simp only [cs_nil, cs_cons, cs_consn, Bool.and_eq_true, List.isEmpty_iff] at hc
    obtain ⟨hc, rfl⟩ := hc
    simp only [evBop] at he
    have hn' := hn.sub (ns' := a.names) fun _ hx => List.mem_append_left _ hx
    refine ⟨PyProof.Rows.BoolOp_one (ha s env e H ρ m d E hc R hw hn' he), fun t whole ht => ?_⟩
    cases op with
    | And =>
      refine PyProof.Rows.isTrue_and (wpAny_mono (ta s env e H ρ m d t E hc R hw hn' he ht) (fun b s₁ q₁ => ?_) fun _ _ e => e)
      cases b with
      | true => exact PyProof.Rows.isTrue_and_nil ⟨q₁.1, q₁.2⟩
      | false => exact ⟨q₁.1, q₁.2⟩
    | Or =>
      refine PyProof.Rows.isTrue_or (wpAny_mono (ta s env e H ρ m d t E hc R hw hn' he ht) (fun b s₁ q₁ => ?_) fun _ _ e => e)
      cases b with
      | true => exact ⟨q₁.1, q₁.2⟩
      | false => exact PyProof.Rows.isTrue_or_nil ⟨q₁.1, q₁.2⟩

theorem sb_cons {a b : ME} {r : List ME} (ha : SE prog w A base cf a) (ta : ST prog w A base cf a) (hr : SB prog w A base cf (b :: r)) : SB prog w A base cf (a :: b :: r) := by
  intro s env es op pos H ρ m d E hc R hw hn he
  cases es with
  | nil => simp [cs_nil, cs_cons, cs_consn] at hc
  | cons e es' => cases es' with
    | nil => simp [cs_nil, cs_cons, cs_consn] at hc
    | cons e2 es' =>
      have hc' : chkE env.kindOf e a = true ∧ chkEs env.kindOf (e2 :: es') (b :: r) = true := by
        rw [chkEs] at hc; simpa using hc
      simp only [evBop] at he
      have hn1 := hn.sub (ns' := a.names) fun _ hx => List.mem_append_left _ hx
      have hn2 := hn.sub (ns' := namesL (b :: r)) fun _ hx => List.mem_append_right _ hx
      split at he
      · rename_i x hx
        split at he
        · rename_i t1 ht1
          have rest : ∀ s₁, Keeps s s₁ → evBop cf ρ op (b :: r) = some d → _ := fun s₁ (k : Keeps s s₁) (h : evBop cf ρ op (b :: r) = some d) =>
            hr s₁ env (e2 :: es') op pos H ρ m d E hc'.2 (R.keeps (Kp.heap k)) (hw.keeps (Kp.heap k)) (hn2.keeps (Kp.heap k)) h
          refine ⟨?_, fun t whole ht => ?_⟩
          · cases op with
            | And =>
              refine PyProof.Rows.BoolOp_and (wpAny_mono (ha s env e H ρ m x E hc'.1 R hw hn1 hx) (fun v s₁ q₁ => ?_) fun _ _ e => e)
              refine wpAny_mono (truth_snd q₁.2 ht1) (fun c s₂ q₂ => ?_) fun _ _ e => e
              obtain ⟨k2, rfl⟩ := q₂
              cases c with
              | true =>
                simp only [Bool.true_eq_false, if_false] at he
                exact wpAny_mono (rest s₂ (Kp.trans q₁.1 k2) he).1 (fun _ _ q => ⟨Kp.trans (Kp.trans q₁.1 k2) q.1, q.2⟩) fun _ _ e => e
              | false =>
                simp only [if_true] at he; cases he
                exact ⟨Kp.trans q₁.1 k2, q₁.2.keeps (Kp.heap k2)⟩
            | Or =>
              refine PyProof.Rows.BoolOp_or (wpAny_mono (ha s env e H ρ m x E hc'.1 R hw hn1 hx) (fun v s₁ q₁ => ?_) fun _ _ e => e)
              refine wpAny_mono (truth_snd q₁.2 ht1) (fun c s₂ q₂ => ?_) fun _ _ e => e
              obtain ⟨k2, rfl⟩ := q₂
              cases c with
              | false =>
                simp only [Bool.false_eq_true, if_false] at he
                exact wpAny_mono (rest s₂ (Kp.trans q₁.1 k2) he).1 (fun _ _ q => ⟨Kp.trans (Kp.trans q₁.1 k2) q.1, q.2⟩) fun _ _ e => e
              | true =>
                simp only [if_true] at he; cases he
                exact ⟨Kp.trans q₁.1 k2, q₁.2.keeps (Kp.heap k2)⟩
          · cases op with
            | And =>
              refine PyProof.Rows.isTrue_and (wpAny_mono (ta s env e H ρ m x t1 E hc'.1 R hw hn1 hx ht1) (fun c s₁ q₁ => ?_) fun _ _ e => e)
              obtain ⟨k1, rfl⟩ := q₁
              cases c with
              | true =>
                simp only [Bool.true_eq_false, if_false] at he
                exact wpAny_mono ((rest s₁ k1 he).2 t whole ht) (fun _ _ q => ⟨Kp.trans k1 q.1, q.2⟩) fun _ _ e => e
              | false =>
                simp only [if_true] at he; cases he
                rw [ht1] at ht; cases ht
                exact ⟨k1, rfl⟩
            | Or =>
              refine PyProof.Rows.isTrue_or (wpAny_mono (ta s env e H ρ m x t1 E hc'.1 R hw hn1 hx ht1) (fun c s₁ q₁ => ?_) fun _ _ e => e)
              obtain ⟨k1, rfl⟩ := q₁
              cases c with
              | false =>
                simp only [Bool.false_eq_true, if_false] at he
                exact wpAny_mono ((rest s₁ k1 he).2 t whole ht) (fun _ _ q => ⟨Kp.trans k1 q.1, q.2⟩) fun _ _ e => e
              | true =>
                simp only [if_true] at he; cases he
                rw [ht1] at ht; cases ht
                exact ⟨k1, rfl⟩
        · cases he
      · cases he

theorem se_bop {op : BoolOp} {ms : List ME} (h : SB prog w A base cf ms) : SE prog w A base cf (.bop op ms) := by
  intro s env e H ρ m d E hc R hw hn he
  replace hc := inv_bop hc; obtain ⟨_, _, _, rfl, hc⟩ := hc
  · simp only [Bool.and_eq_true, beq_iff_eq] at hc
    obtain ⟨rfl, hc⟩ := hc
    simp only [ev_var, ev_glob, ev_int, ev_str, ev_bool, ev_none, ev_bin, ev_cmp, ev_bop, ev_not, ev_neg, ev_tup, ev_lst, ev_dct, ev_sub, ev_sl, ev_comp, ev_call, ev_isi, ev_blt, ev_lcp] at he
    exact (h s env _ op _ H ρ m d E hc R hw hn he).1
theorem st_bop {op : BoolOp} {ms : List ME} (h : SB prog w A base cf ms) : ST prog w A base cf (.bop op ms) := by
  intro s env e H ρ m d t E hc R hw hn he ht
  replace hc := inv_bop hc; obtain ⟨_, _, _, rfl, hc⟩ := hc
  · simp only [Bool.and_eq_true, beq_iff_eq] at hc
    obtain ⟨rfl, hc⟩ := hc
    simp only [ev_var, ev_glob, ev_int, ev_str, ev_bool, ev_none, ev_bin, ev_cmp, ev_bop, ev_not, ev_neg, ev_tup, ev_lst, ev_dct, ev_sub, ev_sl, ev_comp, ev_call, ev_isi, ev_blt, ev_lcp] at he
    exact (h s env _ op _ H ρ m d E hc R hw hn he).2 t _ ht

theorem forIn_false {env : Env} {E : Value → Shared → Prop} {Q : Bool → Shared → Prop} : ∀ (es : List Expr), Q false s →
    wpAny (model prog w) A (forIn es false fun c r => if r = true then do let ok ← isTrue c env (eval c env); pure (ForInStep.yield ok) else pure (ForInStep.yield r)) Q E s
  | [], h => by rw [List.forIn_nil]; exact wpAny_pure h
  | c :: es, h => by
    rw [List.forIn_cons]
    simp only [Bool.false_eq_true, if_false, pure_bind]
    exact forIn_false es h

theorem sc_nil : SC prog w A base cf [] := by
  intro s env es H ρ m t E hc R hw hn he
  cases es with
  | nil => simp only [evc_nil, evc_cons] at he; cases he; rw [List.forIn_nil]; exact wpAny_pure ⟨Kp.refl _, rfl⟩
  | cons _ _ => simp [cs_nil, cs_cons, cs_consn] at hc
theorem sc_cons {a : ME} {r : List ME} (ta : ST prog w A base cf a) (hr : SC prog w A base cf r) : SC prog w A base cf (a :: r) := by
  intro s env es H ρ m t E hc R hw hn he
  cases es with
  | nil => simp [cs_nil, cs_cons, cs_consn] at hc
  | cons e es' =>
    simp only [cs_nil, cs_cons, cs_consn, Bool.and_eq_true] at hc
    simp only [evc_nil, evc_cons] at he
    split at he
    · rename_i x hx
      split at he
      · rename_i t1 ht1
        rw [List.forIn_cons]
        simp only [if_true, bind_assoc, pure_bind]
        refine wpAny_bind (wpAny_mono (ta s env e H ρ m x t1 E hc.1 R hw (hn.sub fun _ hx => List.mem_append_left _ hx) hx ht1) (fun b s₁ q₁ => ?_) fun _ _ e => e)
        obtain ⟨k1, rfl⟩ := q₁
        cases b with
        | true =>
          simp only [if_true] at he
          exact wpAny_mono (hr s₁ env es' H ρ m t E hc.2 (R.keeps (Kp.heap k1)) (hw.keeps (Kp.heap k1)) ((hn.sub fun _ hx => List.mem_append_right _ hx).keeps (Kp.heap k1)) he) (fun _ _ q => ⟨Kp.trans k1 q.1, q.2⟩) fun _ _ e => e
        | false =>
          simp only [Bool.false_eq_true, if_false] at he; cases he
          exact forIn_false es' ⟨k1, rfl⟩
      · cases he
    · cases he

/-- a comprehension's element, in its own block -/
theorem comp_inner {env cenv : Env} {m mC : Str → Option Value} {scope : Scope} {x : String} {ns : List String} {ρ : List (String × D)} {s₂ : Shared} {H H₂ : Addr → Prop} {v : Value} {dv : D} (hok : okScope env.kindOf scope (Str.ofString x) = true)
    (hk : cenv.kindOf = kindC env.kindOf scope) (hv : mC (Str.ofString x) = some v) (rv : Rep w.params s₂.heap H₂ v dv) (hfv : ∀ z, scope.names.lookup z = some .free → mC z = m z) (kp : Keeps s s₂) (hsub : ∀ a o, gat s.heap a = some o → H₂ a → H a)
    (hn : NV w.params env.kindOf (ns.filter (· != x)) ρ m s.heap H) : NV w.params cenv.kindOf ns ((x, dv) :: ρ) mC s₂.heap H₂ := by
  intro z hz hvar d hd
  rw [List.lookup_cons] at hd
  by_cases hzx : z = x
  · subst hzx
    simp only [beq_self_eq_true] at hd
    cases hd
    exact ⟨v, hv, rv⟩
  · have hb : (z == x) = false := by simpa using hzx
    rw [hb] at hd
    unfold okScope at hok
    simp only [Bool.and_eq_true, decide_eq_true_eq, beq_iff_eq, List.all_eq_true, Bool.or_eq_true] at hok
    obtain ⟨⟨⟨⟨⟨_, hnodup⟩, _⟩, hfree⟩, hall⟩, _⟩ := hok
    have hvar' := hvar
    unfold isVar at hvar
    simp only [Bool.and_eq_true, Bool.or_eq_true, beq_iff_eq, bne_iff_ne] at hvar
    obtain ⟨⟨⟨hkz, hd1⟩, hd2⟩, hd3⟩ := hvar
    rw [hk, kindC_eq] at hkz
    have hfr : scope.names.lookup (Str.ofString z) = some .free := by
      cases hq : scope.names.lookup (Str.ofString z) with
      | none => rw [hq] at hkz; simp at hkz
      | some k =>
        have := hall _ (mem_of_lookup hq)
        simp only at this
        rcases this with ((e | e) | e) | e
        · rw [e]
        · rw [hq, e] at hkz; simp at hkz
        · exact absurd (ofString_inj e) hzx
        · exact absurd e hd3
    have hok2 := hfree _ (mem_of_lookup hfr)
    simp only [bne_self_eq_false, Bool.false_eq_true, false_or] at hok2
    obtain ⟨v', h1, h2⟩ := hn z (by simp [hz, hzx]) (by
      unfold isVar
      simp only [Bool.and_eq_true, Bool.or_eq_true, beq_iff_eq, bne_iff_ne]
      exact ⟨⟨⟨hok2.elim (fun e => .inl (.inr e)) .inr, hd1⟩, hd2⟩, hd3⟩) d hd
    exact ⟨v', (hfv _ hfr).trans h1, h2.mono (fun a o _ e => Kp.heap kp a o e) hsub⟩

theorem comp_snd {elt src : ME} {x : String} {cs : List ME} (hh : A.handled = none) (he : SE prog w A base cf elt) (hs : SE prog w A base cf src) (hcs : SC prog w A base cf cs)
    {s : Shared} {env : Env} {H : Addr → Prop} {ρ : List (String × D)} {m : Str → Option Value} {d : D} {E : Value → Shared → Prop} {t it : Expr} {y : Str} {py pos ppos : Pos} {ifs : List Expr} {scope : Scope} {use : Option (Value → Sem Unit)} {Q : Value → Shared → Prop}
    (hc : chkE env.kindOf (.ListComp t [⟨.Name y py, it, ifs, 0⟩] scope pos) (.comp elt x src cs) = true) (R : EnvRep s.heap env m) (hw : HOk base s.heap H) (hn : NV w.params env.kindOf (ME.comp elt x src cs).names ρ m s.heap H)
    (hev : evE cf ρ (.comp elt x src cs) = some d)
    (hQ : ∀ L C h' tk dw m' out, d = .list out → (∀ b o, gat s.heap b = some o → @LT.lt Nat _ b L) → gat s.heap C = none → L ≠ C → h'.Ns C m' → OwnL w.params h' (fun b => H b ∨ b = C) L out → (KH s.heap h') →
      compPost (model prog w) A E use Q (.ref L) C (.ok .next) { s with heap := h', toks := tk, drawn := dw }) :
    wpAny (model prog w) A (comprehension (.ListComp t [⟨.Name y py, it, ifs, 0⟩] scope pos) scope env ppos (newList []) false (eval it env) use) Q E s := by
  replace hc : (y == Str.ofString x && notSet it && okScope env.kindOf scope y && chkE env.kindOf it src && chkE (kindC env.kindOf scope) t elt && chkEs (kindC env.kindOf scope) ifs cs) = true := hc
  simp only [Bool.and_eq_true, beq_iff_eq] at hc
  obtain ⟨⟨⟨⟨⟨rfl, hset⟩, hok⟩, hcsrc⟩, hcelt⟩, hcifs⟩ := hc
  simp only [ev_var, ev_glob, ev_int, ev_str, ev_bool, ev_none, ev_bin, ev_cmp, ev_bop, ev_not, ev_neg, ev_tup, ev_lst, ev_dct, ev_sub, ev_sl, ev_comp, ev_call, ev_isi, ev_blt, ev_lcp] at hev
  split at hev
  · rename_i dsrc hdsrc
    split at hev
    · rename_i its hits
      split at hev
      · rename_i hlen
        simp only [Option.map_eq_some_iff] at hev
        obtain ⟨out, hout, rfl⟩ := hev
        refine comp_core R hok hset hh hw.ex (hs s env it H ρ m dsrc E hcsrc R hw (hn.sub fun _ hx => List.mem_append_left _ hx) hdsrc) hits hlen hout ?_ (fun L C h' tk dw m' h1 h2 h3 h4 h5 h6 => hQ L C h' tk dw m' out rfl h1 h2 h3 h4 h5 h6)
        intro s₂ cenv mC H₂ v dv r hm hf hk RC hv rv hfv hx kp hsub E'
        have hn' := hn.sub (ns' := (elt.names ++ namesL cs).filter (· != x)) fun _ hx => List.mem_append_right _ hx
        have nv := comp_inner hok hk hv rv hfv kp hsub hn'
        have hw₂ : HOk base s₂.heap H₂ := ⟨fun b o e => Kp.heap kp b o (hw.keep b o e), hx, fun b o e q => hw.off b o e (hsub b o (hw.keep b o e) q)⟩
        split at hf
        · rename_i hb
          split at hf
          · rename_i y' hy'
            cases hf
            refine wpAny_mono (hcs s₂ cenv ifs H₂ _ mC true E' (by rw [hk]; exact hcifs) RC hw₂ (nv.sub fun _ hx => List.mem_append_right _ hx) hb) (fun ok s₃ q => ⟨q.1, q.2, fun dr e => ?_⟩) fun _ _ e => e
            cases e
            exact wpAny_mono (he s₃ cenv t H₂ _ mC y' E' (by rw [hk]; exact hcelt) (RC.keeps (Kp.heap q.1)) (hw₂.keeps (Kp.heap q.1)) ((nv.sub fun _ hx => List.mem_append_left _ hx).keeps (Kp.heap q.1)) hy') (fun _ _ q => q) fun _ _ e => e
          · cases hf
        · rename_i hb
          cases hf
          exact wpAny_mono (hcs s₂ cenv ifs H₂ _ mC false E' (by rw [hk]; exact hcifs) RC hw₂ (nv.sub fun _ hx => List.mem_append_right _ hx) hb) (fun ok s₃ q => ⟨q.1, q.2, fun dr e => by cases e⟩) fun _ _ e => e
        · cases hf
      · cases hev
    · cases hev
  · cases hev
end
end Mine
namespace Mine
open PySem PySem.SeqAt
/-! dict displays -/
theorem stored_kvs {P : Params} {h : Heap} {H : Addr → Prop} {k : CK} {v : Value} {d : D} (hv : Rep P h H v d) {kvs : List (CK × Value)} {vs : List D} (hn : (kvs.map (·.1)).Nodup) (hr : RepAll P h H (kvs.map (·.2)) vs) :
    ((stored kvs k v).map fun p => ofCK p.1) = (dput (kvs.map fun p => ofCK p.1) vs (ofCK k) d).1 ∧ RepAll P h H ((stored kvs k v).map (·.2)) (dput (kvs.map fun p => ofCK p.1) vs (ofCK k) d).2 := by
  have e : (kvs.map (·.1)).zip (kvs.map (·.2)) = kvs := by
    clear hn hr
    induction kvs with
    | nil => rfl
    | cons a l ih => simp [ih]
  have := stored_dput (k := k) hv (cs := kvs.map (·.1)) (vals := kvs.map (·.2)) (by simp) hn hr
  rw [e, List.map_map] at this
  exact this
theorem stored_nodup {kvs : List (CK × Value)} {k : CK} {v : Value} (hn : (kvs.map (·.1)).Nodup) : ((stored kvs k v).map (·.1)).Nodup := by
  unfold stored
  split
  · rw [keys_map_store]; exact hn
  · rename_i hc
    rw [List.map_append, List.nodup_append]
    refine ⟨hn, by simp, ?_⟩
    intro a ha b hb e
    simp only [List.map_cons, List.map_nil, List.mem_singleton] at hb
    subst hb e
    obtain ⟨p, hp, rfl⟩ := List.mem_map.mp ha
    exact hc (List.any_eq_true.mpr ⟨p, hp, by simp⟩)
theorem merged_dputs {P : Params} {h : Heap} {H : Addr → Prop} : ∀ {kvs acc : List (CK × Value)} {es accD : List D} {accK : List D}, RepAll P h H (kvs.map (·.2)) es → (acc.map (·.1)).Nodup → RepAll P h H (acc.map (·.2)) accD → accK = (acc.map fun p => ofCK p.1) →
    ((merged acc kvs).map fun p => ofCK p.1) = (((kvs.map fun p => ofCK p.1).zip es).foldl (fun a p => dput a.1 a.2 p.1 p.2) (accK, accD)).1 ∧ RepAll P h H ((merged acc kvs).map (·.2)) (((kvs.map fun p => ofCK p.1).zip es).foldl (fun a p => dput a.1 a.2 p.1 p.2) (accK, accD)).2 := by
  intro kvs
  induction kvs with
  | nil =>
    intro acc es accD accK hr hn ha hk
    cases hr
    subst hk
    exact ⟨rfl, ha⟩
  | cons p kvs ih =>
    intro acc es accD accK hr hn ha hk
    cases hr with
    | cons hv hr =>
      subst hk
      obtain ⟨q1, q2⟩ := stored_kvs (k := p.1) hv hn ha
      exact ih hr (stored_nodup hn) q2 q1.symm
theorem dput_len (k d : D) : ∀ (ks vs : List D), (dput ks vs k d).1.length ≤ ks.length + 1
  | [], _ => by simp [dput]
  | _ :: _, [] => by simp [dput]
  | k' :: ks, v :: vs => by
    have := dput_len k d ks vs
    unfold dput
    split <;> simp <;> omega
theorem dputs_len : ∀ (l : List (D × D)) (a : List D × List D), (l.foldl (fun a p => dput a.1 a.2 p.1 p.2) a).1.length ≤ a.1.length + l.length
  | [], a => by simp
  | p :: l, a => by
    have h1 := dputs_len l (dput a.1 a.2 p.1 p.2)
    have h2 := dput_len p.1 p.2 a.1 a.2
    simp only [List.foldl_cons, List.length_cons]
    omega
section
variable {prog : Program} {w : World} {A : Around} {s : Shared} {base : Heap} {mg mb : Str → Option Value} {cf : CF}
theorem evalPairs_snd {env : Env} {pos : Pos} {H : Addr → Prop} {ρ : List (String × D)} {m : Str → Option Value} {E : Value → Shared → Prop} : ∀ {ks vs : List ME} {kes ves : List Expr} {ds es : List D} {s : Shared}, (∀ e ∈ ks, SE prog w A base cf e) → (∀ e ∈ vs, SE prog w A base cf e) →
    chkEs env.kindOf kes ks = true → chkEs env.kindOf ves vs = true → EnvRep s.heap env m → HOk base s.heap H → NV w.params env.kindOf (namesL ks ++ namesL vs) ρ m s.heap H → evEs cf ρ ks = some ds → evEs cf ρ vs = some es → ds.all D.isCell = true → ds.length = es.length →
    wpAny (model prog w) A (evalPairs ((kes.zip ves).map fun p => (eval p.1 env, do let x ← eval p.2 env; standAt pos; pure x)))
      (fun prs s' => Keeps s s' ∧ ∃ kvs, Carries (cellKind prog w) prs kvs ∧ ds = (kvs.map fun p => ofCK p.1) ∧ RepAll w.params s'.heap H (kvs.map (·.2)) es) E s := by
  intro ks
  induction ks with
  | nil =>
    intro vs kes ves ds es s _ _ hk hv _ _ _ hd he _ hl
    cases kes with
    | cons _ _ => simp [cs_nil, cs_cons, cs_consn] at hk
    | nil =>
      simp only [evs_nil, evs_cons] at hd; cases hd
      cases es with
      | cons _ _ => simp at hl
      | nil => exact evalPairs_nil ⟨Kp.refl _, [], trivial, rfl, .nil⟩
  | cons a ks ih =>
    intro vs kes ves ds es s hsk hsv hk hv R hw hn hd he hc hl
    cases kes with
    | nil => simp [cs_nil, cs_cons, cs_consn] at hk
    | cons ke kes =>
    cases vs with
    | nil =>
      simp only [evs_nil, evs_cons] at he; cases he
      simp only [evs_nil, evs_cons] at hd
      split at hd
      · split at hd
        · cases hd; simp at hl
        · cases hd
      · cases hd
    | cons b vs =>
    cases ves with
    | nil => simp [cs_nil, cs_cons, cs_consn] at hv
    | cons ve ves =>
      simp only [cs_nil, cs_cons, cs_consn, Bool.and_eq_true] at hk hv
      simp only [evs_nil, evs_cons] at hd he
      split at hd
      · rename_i x hx
        split at hd
        · rename_i xs hxs
          cases hd
          split at he
          · rename_i y hy
            split at he
            · rename_i ys hys
              cases he
              simp only [List.all_cons, Bool.and_eq_true] at hc
              obtain ⟨c, rfl⟩ := cell_ck hc.1
              refine evalPairs_cons (wpAny_mono (hsk a (by simp) s env ke H ρ m _ E hk.1 R hw (hn.sub fun z hz => by simp only [nms_nil, nms_cons, List.mem_append]; exact .inl (.inl hz)) hx) (fun kv s₁ q₁ => ?_) fun _ _ e => e)
              refine wpAny_bind (wpAny_mono (hsv b (by simp) s₁ env ve H ρ m y E hv.1 (R.keeps (Kp.heap q₁.1)) (hw.keeps (Kp.heap q₁.1)) ((hn.keeps (Kp.heap q₁.1)).sub fun z hz => by simp only [nms_nil, nms_cons, List.mem_append]; exact .inr (.inl hz)) hy) (fun vv s₂ q₂ => ?_) fun _ _ e => e)
              refine wpAny_bind (wpAny_standAt (wpAny_pure ?_))
              have k02 := Kp.trans q₁.1 q₂.1
              refine wpAny_mono (ih (s := s₂) (fun e he => hsk e (by simp [he])) (fun e he => hsv e (by simp [he])) hk.2 hv.2 (R.keeps (Kp.heap k02)) (hw.keeps (Kp.heap k02)) ((hn.keeps (Kp.heap k02)).sub fun z hz => by
                simp only [nms_nil, nms_cons, List.mem_append] at hz ⊢
                exact hz.elim (fun q => .inl (.inr q)) fun q => .inr (.inr q)) hxs hys hc.2 (by simpa using hl)) (fun prs s₃ q₃ => ?_) fun _ _ e => e
              obtain ⟨k23, kvs, hcar, rfl, hr⟩ := q₃
              exact ⟨Kp.trans k02 k23, (c, vv) :: kvs, ⟨rep_ck q₁.2, rfl, hcar⟩, rfl, .cons (q₂.2.keeps (Kp.heap k23)) hr⟩
            · cases he
          · cases he
        · cases hd
      · cases hd
theorem evalEach_map (es : List Expr) (env : Env) : evalEach es env = es.map fun e => eval e env := by
  induction es with
  | nil => rfl
  | cons e es ih => rw [arm_evalEach_cons, ih]; rfl
theorem evalEachOpt_map (es : List Expr) (env : Env) : evalEachOpt (es.map some) env = es.map fun e => some (eval e env) := by
  induction es with
  | nil => rfl
  | cons e es ih => rw [List.map_cons, List.map_cons, ← ih]; rfl
theorem chkEs_len {k : KD} : ∀ {es : List Expr} {ms : List ME}, chkEs k es ms = true → es.length = ms.length
  | [], [], _ => rfl
  | _ :: _, [], h => by simp [cs_nil, cs_cons, cs_consn] at h
  | [], _ :: _, h => by simp [cs_nil, cs_cons, cs_consn] at h
  | e :: es, m :: ms, h => by
    simp only [cs_nil, cs_cons, cs_consn, Bool.and_eq_true] at h
    simp [chkEs_len h.2]
theorem evEs_len {ρ : List (String × D)} : ∀ {ms : List ME} {ds : List D}, evEs cf ρ ms = some ds → ds.length = ms.length
  | [], ds, h => by simp only [evs_nil, evs_cons] at h; cases h; rfl
  | m :: ms, ds, h => by
    simp only [evs_nil, evs_cons] at h
    split at h
    · split at h
      · rename_i q; cases h; simp [evEs_len q]
      · cases h
    · cases h
theorem sf_dct (G : GOk mg mb base) {ks vs : List ME} (hsk : ∀ e ∈ ks, SE prog w A base cf e) (hsv : ∀ e ∈ vs, SE prog w A base cf e) : SF prog w A base cf (.dct ks vs) := by
  intro s env e H ρ m d fr E hc R hw hn he
  obtain ⟨kes, ves, pos, rfl, hk, hv⟩ := inv_dct hc
  simp only [evF_dct, ev_var, ev_glob, ev_int, ev_str, ev_bool, ev_none, ev_bin, ev_cmp, ev_bop, ev_not, ev_neg, ev_tup, ev_lst, ev_dct, ev_sub, ev_sl, ev_comp, ev_call, ev_isi, ev_blt, ev_lcp, Option.map_eq_some_iff] at he
  obtain ⟨d', he, e'⟩ := he
  cases e'
  split at he
  · rename_i ds hds
    split at he
    · rename_i es hes
      split at he
      · rename_i hcc; cases he
        simp only [Bool.and_eq_true, beq_iff_eq, decide_eq_true_eq] at hcc
        obtain ⟨⟨hcell, hlen⟩, h15⟩ := hcc
        have hsys : (s.heap.objs.size == sysModules) = false := by
          obtain ⟨o, _, _, h1, _⟩ := G.g
          have h2 := Heap.gt_lt (hw.keep _ _ (Heap.gt_of h1 (notTab_ns G.g _ h1)))
          have : (mainGlobals : Nat) = 3 := rfl
          have h3 : s.heap.objs.size ≠ sysModules := fun q => by rw [q] at h2; exact absurd h2 (by decide)
          simpa using h3
        have hnone : gat s.heap s.heap.objs.size = none := by
          cases q : gat s.heap s.heap.objs.size with
          | none => rfl
          | some o => exact absurd (Heap.gt_lt q) (Nat.lt_irrefl _)
        -- the result
        have fin : ∀ (s₁ : Shared) (h' : Heap) (tk : Nat) (dw : Drawn) (kvs : List (CK × Value)), Keeps { s with heap := s.heap.push { cls := .type "dict", data := .dict #[] } } s₁ → ds = (kvs.map fun p => ofCK p.1) → RepAll w.params s₁.heap (fun b => H b ∨ b = s.heap.objs.size) (kvs.map (·.2)) es → h'.DictOf (cellKind prog w) s.heap.objs.size (merged [] kvs) → Heap.SameBut s.heap.objs.size s₁.heap h' →
            PostF w s H (.dict (dputs ds es).1 (dputs ds es).2) true (.ref s.heap.objs.size) { s₁ with heap := h', toks := tk, drawn := dw } := by
          intro s₁ h' tk dw kvs kp hds' hr hm hs
          obtain ⟨h₁, tk₁, dw₁, rfl, hk1⟩ := kp
          have nt : ∀ o, h₁.get? s.heap.objs.size = some o → isTab o = false := notTab_at (Heap.of_gt (hk1 _ _ (Heap.gt_push_size _ rfl)))
          obtain ⟨q1, q2⟩ := merged_dputs (acc := []) (accD := []) (accK := []) hr List.nodup_nil .nil rfl
          rw [← hds'] at q1 q2
          obtain ⟨es', n, r1, r2, r3, r4, r5, r6⟩ := rep_dictOf (H := fun b => H b ∨ b = s.heap.objs.size) hm
          rw [q1] at r2 r4 r5 r6
          have own : OwnD w.params h' H s.heap.objs.size (.dict (dputs ds es).1 (dputs ds es).2) := by
            refine ⟨es', n, r1, ?_, r2, ?_, r4, r5, r6, hsys⟩
            · have := dputs_len (ds.zip es) ([], [])
              unfold dputs
              simp only [List.length_nil, List.length_zip] at this
              unfold big
              omega
            · rw [r3]
              exact q2.mono (fun b o hb e => g1 hs nt b (fun q => hb (.inr q)) e) fun _ _ _ q => q
          refine ⟨⟨h', tk, dw, rfl, fun b o e => ?_⟩, own.rep hw.ex.fresh, fun _ => ⟨_, rfl, hnone, own⟩⟩
          exact g1 hs nt b (fun q => by rw [q, hnone] at e; cases e) (hk1 b o (Heap.gt_push_of_some _ e))
        by_cases h0 : kes.zip ves = []
        · have hk0 : kes = [] ∧ ves = [] := by
            have l1 := chkEs_len hk
            have l2 := chkEs_len hv
            have l3 := evEs_len hds
            have l4 := evEs_len hes
            cases kes with
            | nil => cases ves with
              | nil => exact ⟨rfl, rfl⟩
              | cons _ _ => simp at l1 l2; omega
            | cons _ _ => cases ves with
              | nil => simp at l1 l2; omega
              | cons _ _ => simp at h0
          obtain ⟨rfl, rfl⟩ := hk0
          have l1 := chkEs_len hk
          have l2 := chkEs_len hv
          cases ks with
          | cons _ _ => simp at l1
          | nil =>
          cases vs with
          | cons _ _ => simp at l2
          | nil =>
            simp only [evs_nil, evs_cons] at hds hes
            cases hds; cases hes
            exact wpAny_Dict_empty (fin { s with heap := s.heap.push { cls := .type "dict", data := .dict #[] } } _ _ _ [] (Kp.refl _) rfl .nil (Heap.DictOf.new _) (Heap.SameBut.refl _ _))
        · have hlz : (kes.zip ves).length ≤ 15 := by
            have l1 := chkEs_len hk
            have l3 := evEs_len hds
            rw [List.length_zip]; omega
          refine wpAny_Dict_pairs (knd := cellKind prog w) (pairs := (kes.zip ves).map fun p => (eval p.1 env, do let x ← eval p.2 env; standAt pos; pure x)) ?_ (by simpa using h0) (by simpa using hlz) ?_
          · rw [evalEach_map, evalEachOpt_map, List.map_map, List.map_map, List.zip_map]
            simp [Function.comp_def]
          · have hw' : HOk base (s.heap.push { cls := .type "dict", data := .dict #[] }) (fun b => H b ∨ b = s.heap.objs.size) := by
              have k1 := hw.keeps (h' := s.heap.push { cls := .type "dict", data := .dict #[] }) fun _ _ e => Heap.gt_push_of_some _ e
              refine ⟨k1.keep, fun b q => ?_, fun b o e q => ?_⟩
              · rcases q with q | q
                · exact k1.ex b q
                · exact ⟨b, _, Nat.le_refl _, q ▸ Heap.gt_push_size _ rfl⟩
              · rcases q with q | q
                · exact hw.off b o e q
                · rw [q] at e; rw [hw.keep _ _ e] at hnone; cases hnone
            have hn' : NV w.params env.kindOf (namesL ks ++ namesL vs) ρ m (s.heap.push { cls := .type "dict", data := .dict #[] }) (fun b => H b ∨ b = s.heap.objs.size) := by
              intro x hx hv d hd
              obtain ⟨v, h1, h2⟩ := hn x hx hv d hd
              refine ⟨v, h1, h2.mono (fun b o _ e => Heap.gt_push_of_some _ e) fun b o e q => ?_⟩
              rcases q with q | q
              · exact q
              · rw [q, hnone] at e; cases e
            refine wpAny_mono (evalPairs_snd (s := { s with heap := s.heap.push { cls := .type "dict", data := .dict #[] } }) hsk hsv hk hv (R.keeps fun _ _ e => Heap.gt_push_of_some _ e) hw' hn' hds hes hcell hlen) (fun prs s₁ q => ?_) fun _ _ e => e
            obtain ⟨kp, kvs, hcar, e1, hr⟩ := q
            refine ⟨kvs, hcar, ?_, fun h' hm hs => fin s₁ h' _ _ kvs kp e1 hr hm hs⟩
            obtain ⟨o, es', ep, ho, hd, r⟩ := Heap.DictOf.new (knd := cellKind prog w) s.heap
            have ht : isTab o = false := by
              rw [Heap.get?_push_size _ rfl] at ho; cases ho; rfl
            exact ⟨o, es', ep, Heap.of_gt (Kp.heap kp _ _ (Heap.gt_of ho ht)) ht, hd, r⟩
      · cases he
    · cases he
  · cases he
end
end Mine
namespace Mine
open PySem PySem.SeqAt

noncomputable def plainE : Expr → Bool
  | .UnaryOp .Not _ _ | .BoolOp .. | .IfExp .. | .Compare .. => false
  | _ => true
theorem isTrue_plainE {e : Expr} {env : Env} {whole : Sem Value} (h : plainE e = true) : isTrue e env whole = (do let v ← whole; standAt e.pos; holding [v] (truthy v)) := by
  cases e with
  | UnaryOp op x p => cases op <;> first | rfl | cases h
  | BoolOp => cases h
  | IfExp => cases h
  | Compare => cases h
  | _ => rfl
noncomputable def ME.plain : ME → Bool
  | .not _ | .bop _ _ | .cmp _ _ _ => false
  | _ => true
theorem chk_plain {k : KD} {e : Expr} {me : ME} (hp : me.plain = true) (hc : chkE k e me = true) : plainE e = true := by
  by_cases h6 : shapeM me = 6
  · cases me <;> first | (cases hp; done) | (obtain ⟨_, _, rfl, _⟩ := inv_neg hc; rfl) | (cases h6; done)
  · have h := chk_shape hc
    have h4 : (shapeM me != 0 && shapeM me != 4 && shapeM me != 5) = true := by cases me <;> first | (cases hp; done) | rfl
    rw [← h] at h4 h6
    cases e <;> first | rfl | exact absurd rfl h6 | exact absurd h4 Bool.false_ne_true

section
variable {prog : Program} {w : World} {A : Around} {s : Shared} {base : Heap} {mg mb : Str → Option Value} {cf : CF}

theorem sf_plain {me : ME} (h : SE prog w A base cf me) (hf : ∀ ρ, evF cf ρ me = (evE cf ρ me).map fun d => (d, false)) : SF prog w A base cf me := by
  intro s env e H ρ m d fr E hc R hw hn he
  rw [hf, Option.map_eq_some_iff] at he
  obtain ⟨d', h1, h2⟩ := he
  cases h2
  exact wpAny_mono (h s env e H ρ m d E hc R hw hn h1) (fun _ _ q => ⟨q.1, q.2, fun e => by cases e⟩) fun _ _ e => e

theorem sf_comp {elt src : ME} {x : String} {cs : List ME} (hh : A.handled = none) (he : SE prog w A base cf elt) (hs : SE prog w A base cf src) (hcs : SC prog w A base cf cs) : SF prog w A base cf (.comp elt x src cs) := by
  intro s env e H ρ m d fr E hc R hw hn hev
  simp only [evF_comp, Option.map_eq_some_iff] at hev
  obtain ⟨d', hev, e'⟩ := hev
  cases e'
  obtain ⟨_, _, _, _, _, _, _, rfl, _⟩ := inv_comp hc
  · rw [eval_ListComp]
    refine comp_snd (use := none) hh he hs hcs hc R hw hn hev fun L C h' tk dr m' out hd hL hC hLC hns hown hk => ⟨m', hns, fun h'' hs'' => ?_⟩
    have kk : KH s.heap h'' := fun b o e => g1 hs'' (notTab_ns hns) b (fun q => by rw [q, hC] at e; cases e) (hk b o e)
    have own : OwnL w.params h'' H L out := by
      obtain ⟨vs, n, q1, q2, q3⟩ := hown
      refine ⟨vs, n, Heap.of_gt (g1 hs'' (notTab_ns hns) L hLC (Heap.gt_of q1)), q2, q3.mono (fun a o hn e => g1 hs'' (notTab_ns hns) a (fun q => hn (.inl (.inr q))) e) fun a o _ q => q.elim (fun q => .inl (.inl q)) .inr⟩
    have hLn : gat s.heap L = none := by
      cases e : gat s.heap L with
      | none => rfl
      | some o => exact absurd (hL _ _ e) (Nat.lt_irrefl _)
    refine ⟨⟨h'', tk, dr, rfl, kk⟩, ?_, fun _ => ⟨L, rfl, hLn, by rw [hd]; exact own⟩⟩
    rw [hd]
    refine own.rep fun q => ?_
    obtain ⟨b, o, hb, ho⟩ := hw.ex L q
    exact Nat.lt_irrefl _ (Nat.lt_of_le_of_lt hb (hL b o ho))

theorem evF_callx (f : String) (ms : List ME) (ρ : List (String × D)) (d : D) (h : evE cf ρ (.call f ms) = some d) : ∃ fr, evF cf ρ (.call f ms) = some (d, fr) := by
  simp only [ev_var, ev_glob, ev_int, ev_str, ev_bool, ev_none, ev_bin, ev_cmp, ev_bop, ev_not, ev_neg, ev_tup, ev_lst, ev_dct, ev_sub, ev_sl, ev_comp, ev_call, ev_isi, ev_blt, ev_lcp] at h
  simp only [evF_call]
  split at h
  · rename_i ds hds
    rw [Option.map_eq_some_iff] at h
    obtain ⟨⟨d', fr⟩, h1, h2⟩ := h
    cases h2
    exact ⟨fr, h1⟩
  · cases h

theorem blt_name {f : String} {ds : List D} {d : D} (h : bltD f ds = some d) : f ∈ bltNames := by
  unfold bltD bltI bltI2 at h
  repeat' split at h
  all_goals first | (cases h; done) | (subst_vars; decide)
mutual
theorem all_E (G : GOk mg mb base) (C : CSound prog w base mg cf A) (hh : A.handled = none) (hu : Room A) (me : ME) : SE prog w A base cf me ∧ ST prog w A base cf me ∧ SF prog w A base cf me := by
  have fin : SE prog w A base cf me → me.plain = true → (∀ ρ, evF cf ρ me = (evE cf ρ me).map fun d => (d, false)) → SE prog w A base cf me ∧ ST prog w A base cf me ∧ SF prog w A base cf me := fun h1 h2 h3 =>
    ⟨h1, st_plain h1 (fun e k env whole hc => isTrue_plainE (chk_plain h2 hc)), sf_plain h1 h3⟩
  have finF : SF prog w A base cf me → me.plain = true → (∀ ρ d, evE cf ρ me = some d → ∃ fr, evF cf ρ me = some (d, fr)) → SE prog w A base cf me ∧ ST prog w A base cf me ∧ SF prog w A base cf me := fun h1 h2 h3 =>
    have h4 := se_of_sf h1 h3
    ⟨h4, st_plain h4 (fun e k env whole hc => isTrue_plainE (chk_plain h2 hc)), h1⟩
  match me with
  | .var x => exact fin (se_var x) rfl fun _ => rfl
  | .glob x => exact fin (se_glob G C x) rfl fun _ => rfl
  | .int i => exact fin (se_int i) rfl fun _ => rfl
  | .str x => exact fin (se_str x) rfl fun _ => rfl
  | .bool b => exact fin (se_bool b) rfl fun _ => rfl
  | .none => exact fin se_none rfl fun _ => rfl
  | .bin op a b => exact finF (sf_bin (all_E G C hh hu a).1 (all_E G C hh hu b).1) rfl fun ρ d h => ⟨d.isList, by rw [evF_bin, h]; rfl⟩
  | .cmp op a b =>
    have ha := (all_E G C hh hu a).1
    have hb := (all_E G C hh hu b).1
    exact ⟨se_cmp hu.u1 ha hb, st_cmp hu.u1 ha hb, sf_plain (se_cmp hu.u1 ha hb) fun _ => rfl⟩
  | .bop op ms =>
    have h := (all_Es G C hh hu ms).2.1
    exact ⟨se_bop h, st_bop h, sf_plain (se_bop h) fun _ => rfl⟩
  | .not a =>
    have h := all_E G C hh hu a
    exact ⟨se_not h.1, st_not h.2.1, sf_plain (se_not h.1) fun _ => rfl⟩
  | .neg a => exact fin (se_neg (all_E G C hh hu a).1) rfl fun _ => rfl
  | .tup ms => exact fin (se_tup (all_Es G C hh hu ms).1) rfl fun _ => rfl
  | .lst ms => exact finF (sf_lst (all_Es G C hh hu ms).1) rfl fun ρ d h => ⟨true, by rw [evF_lst, h]; rfl⟩
  | .dct ks vs => exact finF (sf_dct G (all_Es G C hh hu ks).2.2.2 (all_Es G C hh hu vs).2.2.2) rfl fun ρ d h => ⟨true, by rw [evF_dct, h]; rfl⟩
  | .sub a b => exact fin (se_sub hu.u1 (all_E G C hh hu a).1 (all_E G C hh hu b).1) rfl fun _ => rfl
  | .sl a b c => exact finF (sf_sl (all_E G C hh hu a).1 (all_E G C hh hu b).1 (all_E G C hh hu c).1) rfl fun ρ d h => ⟨d.isList, by rw [evF_sl, h]; rfl⟩
  | .srt a f x p rev => exact fin (se_srt G C hh hu (all_E G C hh hu a).1) rfl fun _ => rfl
  | .lcp a => exact finF (sf_lcp G hh (ses_cons (all_E G C hh hu a).1 ses_nil)) rfl fun ρ d h => ⟨true, by rw [evF_lcp, h]; rfl⟩
  | .comp elt x src cs => exact finF (sf_comp hh (all_E G C hh hu elt).1 (all_E G C hh hu src).1 (all_Es G C hh hu cs).2.2.1) rfl fun ρ d h => ⟨true, by rw [evF_comp, h]; rfl⟩
  | .call f ms => exact finF (sf_call G (C.at (.refl A)) (all_Es G C hh hu ms).1) rfl (evF_callx f ms)
  | .isi a T => exact fin (se_isi G (all_E G C hh hu a).1) rfl fun _ => rfl
  | .blt f ms =>
    refine fin ?_ rfl fun _ => rfl
    by_cases hf : f ∈ bltNames
    · exact se_blt G hh hf (all_Es G C hh hu ms).1
    · intro s env e H ρ m d E hc R hw hn he
      exfalso
      simp only [ev_var, ev_glob, ev_int, ev_str, ev_bool, ev_none, ev_bin, ev_cmp, ev_bop, ev_not, ev_neg, ev_tup, ev_lst, ev_dct, ev_sub, ev_sl, ev_comp, ev_call, ev_isi, ev_blt, ev_lcp] at he
      split at he
      · exact hf (blt_name he)
      · cases he
termination_by structural me
theorem all_Es (G : GOk mg mb base) (C : CSound prog w base mg cf A) (hh : A.handled = none) (hu : Room A) (ms : List ME) : SEs prog w A base cf ms ∧ SB prog w A base cf ms ∧ SC prog w A base cf ms ∧ ∀ e ∈ ms, SE prog w A base cf e := by
  match ms with
  | [] => exact ⟨ses_nil, sb_nil, sc_nil, fun _ h => nomatch h⟩
  | a :: r =>
    have ha := all_E G C hh hu a
    have hr := all_Es G C hh hu r
    refine ⟨ses_cons ha.1 hr.1, ?_, sc_cons ha.2.1 hr.2.2.1, fun e he => (List.mem_cons.mp he).elim (fun q => q ▸ ha.1) (hr.2.2.2 e)⟩
    cases r with
    | nil => exact sb_one ha.1 ha.2.1
    | cons b r => exact sb_cons ha.1 ha.2.1 hr.2.1
termination_by structural ms
end
end
end Mine
namespace Mine
open PySem PySem.SeqAt

noncomputable def isStore (k : KD) (x : Str) : Bool := (k x == some .local || k x == some .cell) && isVar k x
noncomputable def notComp : Expr → Bool
  | .ListComp .. | .SetComp .. | .DictComp .. => false
  | _ => true

noncomputable def cAssign (e : Stmt) (f : List Expr → Expr → Pos → Bool) : Bool := dite (e.ctorIdx = 5) (fun h => Stmt.Assign.elim (motive_2 := fun _ => Bool) e h f) (fun _ => false)
theorem cAssign_inv {e : Stmt} {f : List Expr → Expr → Pos → Bool} (h : cAssign e f = true) : ∃ (ts : List Expr) (v : Expr) (p : Pos), e = .Assign ts v p ∧ f ts v p = true :=
  (dite_inv h).elim fun hc h => Stmt.Assign.elim (motive_2 := fun e => ∀ hc, Stmt.Assign.elim (motive_2 := fun _ => Bool) e hc f = true → ∃ (ts : List Expr) (v : Expr) (p : Pos), e = .Assign ts v p ∧ f ts v p = true) e hc (fun v0 v1 v2 _ h => ⟨v0, v1, v2, rfl, h⟩) hc h
noncomputable def cExpr (e : Stmt) (f : Expr → Pos → Bool) : Bool := dite (e.ctorIdx = 24) (fun h => Stmt.Expr.elim (motive_2 := fun _ => Bool) e h f) (fun _ => false)
theorem cExpr_inv {e : Stmt} {f : Expr → Pos → Bool} (h : cExpr e f = true) : ∃ (v : Expr) (p : Pos), e = .Expr v p ∧ f v p = true :=
  (dite_inv h).elim fun hc h => Stmt.Expr.elim (motive_2 := fun e => ∀ hc, Stmt.Expr.elim (motive_2 := fun _ => Bool) e hc f = true → ∃ (v : Expr) (p : Pos), e = .Expr v p ∧ f v p = true) e hc (fun v0 v1 _ h => ⟨v0, v1, rfl, h⟩) hc h
noncomputable def cIf (e : Stmt) (f : Expr → List Stmt → List Stmt → Pos → Bool) : Bool := dite (e.ctorIdx = 12) (fun h => Stmt.If.elim (motive_2 := fun _ => Bool) e h f) (fun _ => false)
theorem cIf_inv {e : Stmt} {f : Expr → List Stmt → List Stmt → Pos → Bool} (h : cIf e f = true) : ∃ (v : Expr) (b : List Stmt) (o : List Stmt) (p : Pos), e = .If v b o p ∧ f v b o p = true :=
  (dite_inv h).elim fun hc h => Stmt.If.elim (motive_2 := fun e => ∀ hc, Stmt.If.elim (motive_2 := fun _ => Bool) e hc f = true → ∃ (v : Expr) (b : List Stmt) (o : List Stmt) (p : Pos), e = .If v b o p ∧ f v b o p = true) e hc (fun v0 v1 v2 v3 _ h => ⟨v0, v1, v2, v3, rfl, h⟩) hc h
noncomputable def cFor (e : Stmt) (f : Expr → Expr → List Stmt → List Stmt → Pos → Bool) : Bool := dite (e.ctorIdx = 9) (fun h => Stmt.For.elim (motive_2 := fun _ => Bool) e h f) (fun _ => false)
theorem cFor_inv {e : Stmt} {f : Expr → Expr → List Stmt → List Stmt → Pos → Bool} (h : cFor e f = true) : ∃ (t : Expr) (i : Expr) (b : List Stmt) (o : List Stmt) (p : Pos), e = .For t i b o p ∧ f t i b o p = true :=
  (dite_inv h).elim fun hc h => Stmt.For.elim (motive_2 := fun e => ∀ hc, Stmt.For.elim (motive_2 := fun _ => Bool) e hc f = true → ∃ (t : Expr) (i : Expr) (b : List Stmt) (o : List Stmt) (p : Pos), e = .For t i b o p ∧ f t i b o p = true) e hc (fun v0 v1 v2 v3 v4 _ h => ⟨v0, v1, v2, v3, v4, rfl, h⟩) hc h
noncomputable def cRet (e : Stmt) (f : Option Expr → Pos → Bool) : Bool := dite (e.ctorIdx = 3) (fun h => Stmt.Return.elim (motive_2 := fun _ => Bool) e h f) (fun _ => false)
theorem cRet_inv {e : Stmt} {f : Option Expr → Pos → Bool} (h : cRet e f = true) : ∃ (v : Option Expr) (p : Pos), e = .Return v p ∧ f v p = true :=
  (dite_inv h).elim fun hc h => Stmt.Return.elim (motive_2 := fun e => ∀ hc, Stmt.Return.elim (motive_2 := fun _ => Bool) e hc f = true → ∃ (v : Option Expr) (p : Pos), e = .Return v p ∧ f v p = true) e hc (fun v0 v1 _ h => ⟨v0, v1, rfl, h⟩) hc h
noncomputable def c3 {α : Type} (l : List α) (f : α → α → α → Bool) : Bool := match l with | [x, y, z] => f x y z | _ => false
mutual
noncomputable def chkS (k : KD) (st : Stmt) (ms : MS) : Bool := match ms with
  | .assign x e => cAssign st fun ts v _ => c1 ts fun t => cName t fun y _ => y == Str.ofString x && isStore k y && chkE k v e
  | .append x e => cExpr st fun v _ => cCall v fun g as ks p => ks.isEmpty && c1 as fun a => cAttr g fun n at_ ap => cName n fun y _ => y == Str.ofString x && isStore k y && at_ == Str.ofString "append" && ap.endLine == p.line && chkE k a e
  | .setk x ke e => cAssign st fun ts v _ => c1 ts fun t => cSub t fun o i _ => cName o fun y _ => y == Str.ofString x && isStore k y && chkE k i ke && chkE k v e
  | .ite c t f => cIf st fun v b o _ => chkE k v c && chkSs k b t && chkSs k o f
  | .for_ x src body => cFor st fun t it b o _ => o.isEmpty && cName t fun y _ => y == Str.ofString x && isStore k y && notSet it && chkE k it src && chkSs k b body
  | .ret e => cRet st fun v _ => cOpt v fun v => chkE k v e
  | .bad => true
  | .forr x src body => cFor st fun t it b o _ => o.isEmpty && cName t fun y _ => y == Str.ofString x && isStore k y && notSet it && (cCall it fun g as ks _ => ks.isEmpty && cName g fun g _ => g == Str.ofString "reversed" && isGlob k g && c1 as fun a => chkE k a src) && chkSs k b body
termination_by structural ms
noncomputable def chkSs (k : KD) (ss : List Stmt) (ms : List MS) : Bool := match ms with
  | [] => ss.isEmpty
  | a :: r => (match ss with | s :: ss' => chkS k s a && chkSs k ss' r | [] => false)
termination_by structural ms
end

theorem css_nil (k : KD) (es : List Stmt) : chkSs k es [] = es.isEmpty := rfl
theorem css_cons (k : KD) (e : Stmt) (es : List Stmt) (a : MS) (r : List MS) : chkSs k (e :: es) (a :: r) = (chkS k e a && chkSs k es r) := rfl
theorem css_consn (k : KD) (a : MS) (r : List MS) : chkSs k [] (a :: r) = false := rfl
section
variable {k : KD} {st : Stmt}
theorem inv_assign {x : String} {e : ME} (h : chkS k st (.assign x e) = true) : ∃ y p v pos, st = .Assign [.Name y p] v pos ∧ (y == Str.ofString x && isStore k y && chkE k v e) = true := by
  replace h := cAssign_inv h; obtain ⟨ts, v, p, rfl, h⟩ := h
  replace h := c1_inv h; obtain ⟨t, rfl, h⟩ := h
  replace h := cName_inv h; obtain ⟨y, py, rfl, h⟩ := h
  exact ⟨y, py, v, p, rfl, h⟩
theorem inv_append {x : String} {e : ME} (h : chkS k st (.append x e) = true) : ∃ y yp at_ ap a p pos, st = .Expr (.Call (.Attribute (.Name y yp) at_ ap) [a] [] p) pos ∧ (y == Str.ofString x && isStore k y && at_ == Str.ofString "append" && ap.endLine == p.line && chkE k a e) = true := by
  replace h := cExpr_inv h; obtain ⟨v, pos, rfl, h⟩ := h
  replace h := cCall_inv h; obtain ⟨g, as, ks, p, rfl, h⟩ := h
  rw [Bool.and_eq_true] at h
  obtain ⟨h1, h⟩ := h
  replace h := c1_inv h; obtain ⟨a, rfl, h⟩ := h
  replace h := cAttr_inv h; obtain ⟨n, at_, ap, rfl, h⟩ := h
  replace h := cName_inv h; obtain ⟨y, yp, rfl, h⟩ := h
  exact ⟨y, yp, at_, ap, a, p, pos, by rw [List.isEmpty_iff.mp h1], h⟩
theorem inv_setk {x : String} {ke e : ME} (h : chkS k st (.setk x ke e) = true) : ∃ y yp i p v pos, st = .Assign [.Subscript (.Name y yp) i p] v pos ∧ (y == Str.ofString x && isStore k y && chkE k i ke && chkE k v e) = true := by
  replace h := cAssign_inv h; obtain ⟨ts, v, pos, rfl, h⟩ := h
  replace h := c1_inv h; obtain ⟨t, rfl, h⟩ := h
  replace h := cSub_inv h; obtain ⟨o, i, p, rfl, h⟩ := h
  replace h := cName_inv h; obtain ⟨y, yp, rfl, h⟩ := h
  exact ⟨y, yp, i, p, v, pos, rfl, h⟩
theorem inv_ite {c : ME} {t f : List MS} (h : chkS k st (.ite c t f) = true) : ∃ v b o p, st = .If v b o p ∧ (chkE k v c && chkSs k b t && chkSs k o f) = true := by
  exact cIf_inv h
theorem inv_for {x : String} {src : ME} {body : List MS} (h : chkS k st (.for_ x src body) = true) : ∃ y yp it b p, st = .For (.Name y yp) it b [] p ∧ (y == Str.ofString x && isStore k y && notSet it && chkE k it src && chkSs k b body) = true := by
  replace h := cFor_inv h; obtain ⟨t, it, b, o, p, rfl, h⟩ := h
  rw [Bool.and_eq_true] at h
  obtain ⟨h1, h⟩ := h
  replace h := cName_inv h; obtain ⟨y, yp, rfl, h⟩ := h
  exact ⟨y, yp, it, b, p, by rw [List.isEmpty_iff.mp h1], h⟩
theorem inv_forr {x : String} {src : ME} {body : List MS} (h : chkS k st (.forr x src body) = true) : ∃ y yp g gp a cp b p, st = .For (.Name y yp) (.Call (.Name g gp) [a] [] cp) b [] p ∧ (y == Str.ofString x && isStore k y) = true ∧ (g == Str.ofString "reversed" && isGlob k g) = true ∧ chkE k a src = true ∧ chkSs k b body = true := by
  replace h := cFor_inv h; obtain ⟨t, it, b, o, p, rfl, h⟩ := h
  rw [Bool.and_eq_true] at h
  obtain ⟨h1, h⟩ := h
  replace h := cName_inv h; obtain ⟨y, yp, rfl, h⟩ := h
  rw [Bool.and_eq_true, Bool.and_eq_true, Bool.and_eq_true] at h
  obtain ⟨⟨⟨h2, _⟩, h3⟩, h4⟩ := h
  replace h3 := cCall_inv h3; obtain ⟨g, as, ks, cp, rfl, h3⟩ := h3
  rw [Bool.and_eq_true] at h3
  obtain ⟨h5, h3⟩ := h3
  replace h3 := cName_inv h3; obtain ⟨g, gp, rfl, h3⟩ := h3
  rw [Bool.and_eq_true] at h3
  obtain ⟨h6, h3⟩ := h3
  replace h3 := c1_inv h3; obtain ⟨a, rfl, h3⟩ := h3
  exact ⟨y, yp, g, gp, a, cp, b, p, by rw [List.isEmpty_iff.mp h1, List.isEmpty_iff.mp h5], h2, h6, h3, h4⟩
theorem inv_ret {e : ME} (h : chkS k st (.ret e) = true) : ∃ v p, st = .Return (some v) p ∧ chkE k v e = true := by
  replace h := cRet_inv h; obtain ⟨v, p, rfl, h⟩ := h
  replace h := cOpt_inv h; obtain ⟨v, rfl, h⟩ := h
  exact ⟨v, p, rfl, h⟩
end

noncomputable abbrev Own := String → Option Addr
noncomputable def Hot (env : Env) (H₀ : Addr → Prop) (own : Own) (b : Addr) : Prop := H₀ b ∨ b = env.locals ∨ (∃ x, env.cells.lookup x = some b) ∨ ∃ x, own x = some b
noncomputable def Own.less (own : Own) (ns : List String) : Own := fun x => if x ∈ ns then none else own x
theorem Hot.less {env : Env} {H₀ : Addr → Prop} {own : Own} {ns : List String} {b : Addr} (h : Hot env H₀ (own.less ns) b) : Hot env H₀ own b := by
  rcases h with h | h | h | ⟨x, h⟩
  · exact .inl h
  · exact .inr (.inl h)
  · exact .inr (.inr (.inl h))
  · unfold Own.less at h
    split at h
    · cases h
    · exact .inr (.inr (.inr ⟨x, h⟩))

structure StOk (w : World) (base ent h : Heap) (env : Env) (H₀ : Addr → Prop) (own : Own) (m : Str → Option Value) (σ : St) : Prop where
  rep : EnvRep h env m
  plain : ∀ x d, σ.lookup x = some (false, d) → ∃ v, m (Str.ofString x) = some v ∧ Rep w.params h (Hot env H₀ own) v d
  owned : ∀ x d, σ.lookup x = some (true, d) → ∃ a, own x = some a ∧ m (Str.ofString x) = some (.ref a) ∧ OwnD w.params h (Hot env H₀ own) a d
  hot : HOk base h (Hot env H₀ own)
  keep : KH ent h
  frE : gat ent env.locals = none ∧ ∀ x c, env.cells.lookup x = some c → gat ent c = none
  own1 : ∀ x a, own x = some a → gat ent a = none ∧ ¬ H₀ a ∧ a ≠ env.locals ∧ ∀ y, env.cells.lookup y ≠ some a
  inj : ∀ x y a, own x = some a → own y = some a → x = y
  ownx : ∀ x a, own x = some a → ∃ o, gat h a = some o

theorem OwnL.mono {P : Params} {h h' : Heap} {H H' : Addr → Prop} {a : Addr} {ds : List D} (o : OwnL P h H a ds) (ha : ∀ o, gat h a = some o → gat h' a = some o) (hk : ∀ b o, ¬ H b → gat h b = some o → gat h' b = some o) (hH : ∀ b o, gat h b = some o → H' b → H b ∨ b = a) : OwnL P h' H' a ds := by
  obtain ⟨vs, n, h1, h2, h3⟩ := o
  refine ⟨vs, n, Heap.of_gt (ha _ (Heap.gt_of h1)), h2, h3.mono (fun b o hn e => hk b o (fun q => hn (.inl q)) e) fun b o e q => q.elim (hH b o e) .inr⟩

theorem OwnD.mono {P : Params} {h h' : Heap} {H H' : Addr → Prop} {a : Addr} {d : D} (o : OwnD P h H a d) (ha : ∀ o, gat h a = some o → gat h' a = some o) (hk : ∀ b o, ¬ H b → gat h b = some o → gat h' b = some o) (hH : ∀ b o, gat h b = some o → H' b → H b ∨ b = a) : OwnD P h' H' a d := by
  cases d <;> first | exact OwnL.mono o ha hk hH | exact False.elim o | skip
  obtain ⟨es, n, h1, h2, h3, h4, h5⟩ := o
  exact ⟨es, n, Heap.of_gt (ha _ (Heap.gt_of h1)), h2, h3.mono (fun b o hn e => hk b o (fun q => hn (.inl q)) e) (fun b o e q => q.elim (hH b o e) .inr), h4.mono (fun b o hn e => hk b o (fun q => hn (.inl q)) e) (fun b o e q => q.elim (hH b o e) .inr), h5⟩

theorem StOk.keeps {w : World} {base ent h h' : Heap} {env : Env} {H₀ : Addr → Prop} {own : Own} {m : Str → Option Value} {σ : St} (S : StOk w base ent h env H₀ own m σ) (hk : KH h h') :
    StOk w base ent h' env H₀ own m σ where
  rep := S.rep.keeps hk
  plain := fun x d e => let ⟨v, h1, h2⟩ := S.plain x d e; ⟨v, h1, h2.keeps hk⟩
  owned := fun x d e => let ⟨a, h1, h2, h4⟩ := S.owned x d e; ⟨a, h1, h2, h4.mono (fun o e => hk _ o e) (fun b o _ e => hk b o e) fun _ _ _ q => .inl q⟩
  hot := S.hot.keeps hk
  keep := fun b o e => hk b o (S.keep b o e)
  frE := S.frE
  own1 := S.own1
  inj := S.inj
  ownx := fun x a e => let ⟨o, ho⟩ := S.ownx x a e; ⟨o, hk _ _ ho⟩

theorem StOk.freeze {w : World} {base ent h : Heap} {env : Env} {H₀ : Addr → Prop} {own : Own} {m : Str → Option Value} {σ : St} (S : StOk w base ent h env H₀ own m σ) (ns : List String) :
    StOk w base ent h env H₀ (own.less ns) m (Mine.freeze ns σ) where
  rep := S.rep
  plain := fun x d e => by
    rw [lookup_freeze] at e
    simp only [Option.map_eq_some_iff, Prod.mk.injEq] at e
    obtain ⟨⟨o, d'⟩, h1, h2, h3⟩ := e
    simp only at h2 h3
    subst h3
    cases o with
    | false =>
      obtain ⟨v, q1, q2⟩ := S.plain x d' h1
      exact ⟨v, q1, q2.sub fun _ q => q.less⟩
    | true =>
      simp only [Bool.true_and, Bool.not_eq_false', List.contains_iff_mem] at h2
      obtain ⟨a, q1, q2, q4⟩ := S.owned x d' h1
      refine ⟨_, q2, (q4.mono (H' := Hot env H₀ (own.less ns)) (fun _ e => e) (fun _ _ _ e => e) fun _ _ _ q => .inl q.less).rep ?_⟩
      obtain ⟨_, g1, g2, g3⟩ := S.own1 x a q1
      rintro (e | e | ⟨y, e⟩ | ⟨y, e⟩)
      · exact g1 e
      · exact g2 e
      · exact g3 y e
      · unfold Own.less at e
        split at e
        · cases e
        · rename_i hy
          exact hy (S.inj x y a q1 e ▸ h2)
  owned := fun x d e => by
    rw [lookup_freeze] at e
    simp only [Option.map_eq_some_iff, Prod.mk.injEq] at e
    obtain ⟨⟨o, d'⟩, h1, h2, h3⟩ := e
    simp only at h2 h3
    subst h3
    simp only [Bool.and_eq_true, Bool.not_eq_true', List.contains_eq_mem, decide_eq_false_iff_not] at h2
    obtain ⟨rfl, h2⟩ := h2
    obtain ⟨a, q1, q2, q4⟩ := S.owned x d' h1
    exact ⟨a, by unfold Own.less; rw [if_neg h2]; exact q1, q2, q4.mono (fun _ e => e) (fun _ _ _ e => e) fun _ _ _ q => .inl q.less⟩
  hot := ⟨S.hot.keep, fun a q => S.hot.ex a q.less, fun b o e q => S.hot.off b o e q.less⟩
  keep := S.keep
  frE := S.frE
  own1 := fun x a e => S.own1 x a (by unfold Own.less at e; split at e <;> first | cases e | exact e)
  inj := fun x y a e1 e2 => S.inj x y a (by unfold Own.less at e1; split at e1 <;> first | cases e1 | exact e1) (by unfold Own.less at e2; split at e2 <;> first | cases e2 | exact e2)
  ownx := fun x a e => S.ownx x a (by unfold Own.less at e; split at e <;> first | cases e | exact e)

/-- what is known of the variables, all those of ns let go -/
theorem StOk.nv {w : World} {base ent h : Heap} {env : Env} {H₀ : Addr → Prop} {own : Own} {m : Str → Option Value} {σ : St} (S : StOk w base ent h env H₀ own m σ) (ns : List String) :
    NV w.params env.kindOf ns (vis σ) m h (Hot env H₀ (own.less ns)) := by
  intro x hx _ d hd
  rw [lookup_vis] at hd
  simp only [Option.map_eq_some_iff] at hd
  obtain ⟨⟨o, d'⟩, h1, h2⟩ := hd
  simp only at h2
  subst h2
  have : (Mine.freeze ns σ).lookup x = some (false, d') := by
    rw [lookup_freeze, h1]
    simp [List.contains_iff_mem, hx]
  exact (S.freeze ns).plain x d' this
end Mine
namespace Mine
open PySem PySem.SeqAt

section
variable {w : World} {base ent h h₁ h₂ : Heap} {env : Env} {H₀ : Addr → Prop} {own : Own} {m : Str → Option Value} {σ : St}

theorem frame_ex {a : Addr} (R : EnvRep h env m) (ha : a = env.locals ∨ ∃ y, env.cells.lookup y = some a) : ∃ o, gat h a = some o := by
  rcases ha with rfl | ⟨y, e⟩
  · obtain ⟨_, e, _⟩ := R.loc; exact gt_ns e
  · exact R.ex y a e

theorem StOk.assign (S : StOk w base ent h env H₀ own m σ) (hk : KH h h₁) {x : String} {v : Value} {a : Addr} {fr : Bool} {d : D} {nw : Option Addr}
    (R₂ : EnvRep h₂ env (upd m (Str.ofString x) v)) (ha : a = env.locals ∨ ∃ y, env.cells.lookup y = some a) {X : Addr → Prop} (hX : ∀ b, X b → gat h b = none) (hs : ∀ b, b ≠ a → ¬ X b → ∀ {o}, gat h₁ b = some o → gat h₂ b = some o)
    (hv : (fr = false ∧ nw = none ∧ Rep w.params h₁ (fun b => Hot env H₀ own b ∨ X b) v d) ∨ (fr = true ∧ ∃ c, nw = some c ∧ v = .ref c ∧ gat h c = none ∧ ¬ H₀ c ∧ ¬ X c ∧ OwnD w.params h₁ (fun b => Hot env H₀ own b ∨ X b) c d)) :
    StOk w base ent h₂ env H₀ (fun y => if y = x then nw else own y) (upd m (Str.ofString x) v) (setv σ x (fr, d)) := by
  have aHot : ∀ own', Hot env H₀ own' a := fun own' => .inr (ha.elim .inl fun e => .inr (.inl e))
  have aEx : ∃ o, gat h a = some o := frame_ex S.rep ha
  have nX : ∀ b o, gat h b = some o → ¬ X b := fun b o e q => by have := hX b q; rw [e] at this; cases this
  have newc : ∀ c, nw = some c → gat h c = none ∧ ¬ H₀ c ∧ ∃ o, gat h₂ c = some o := by
    intro c hc
    rcases hv with ⟨_, e, _⟩ | ⟨_, c', e, _, h1, h2, hXc, h3⟩
    · rw [e] at hc; cases hc
    · rw [e] at hc; cases hc
      obtain ⟨_, h3⟩ := h3.ex
      refine ⟨h1, h2, _, (hs c (fun q => ?_) hXc) h3⟩
      obtain ⟨o, ho⟩ := aEx
      rw [← q, h1] at ho; cases ho
  have hotEq : ∀ b o, gat h b = some o → Hot env H₀ (fun y => if y = x then nw else own y) b → Hot env H₀ own b := by
    intro b o e q
    rcases q with q | q | q | ⟨y, q⟩
    · exact .inl q
    · exact .inr (.inl q)
    · exact .inr (.inr (.inl q))
    · dsimp only at q
      split at q
      · have := (newc b q).1; rw [e] at this; cases this
      · exact .inr (.inr (.inr ⟨y, q⟩))
  have k2 : ∀ b o, ¬ Hot env H₀ own b → gat h b = some o → gat h₂ b = some o := fun b o hn e => (hs b (fun q => hn (q ▸ aHot own)) (nX b o e)) (hk b o e)
  have k2' : ∀ b o, gat h b = some o → ∃ o', gat h₂ b = some o' := fun b o e => by
    by_cases q : b = a
    · exact q ▸ frame_ex R₂ ha
    · exact ⟨o, (hs b q (nX b o e)) (hk b o e)⟩
  refine ⟨R₂, ?_, ?_, ⟨?_, ?_, ?_⟩, ?_, S.frE, ?_, ?_, ?_⟩
  · intro y d' e
    rw [lookup_setv] at e
    split at e
    · rename_i q; subst q
      cases e
      rcases hv with ⟨_, rfl, r⟩ | ⟨e, _⟩
      · refine ⟨v, by simp [upd], r.mono (fun b o hn e => (hs b (fun q => hn (.inl (q ▸ aHot own))) (fun q => hn (.inr q))) e) fun b o _ q => .inl ?_⟩
        rcases q with q | q | q | ⟨z, q⟩
        · exact .inl q
        · exact .inr (.inl q)
        · exact .inr (.inr (.inl q))
        · dsimp only at q
          split at q
          · cases q
          · exact .inr (.inr (.inr ⟨z, q⟩))
      · cases e
    · rename_i q
      obtain ⟨u, h1, h2⟩ := S.plain y d' e
      refine ⟨u, ?_, h2.mono k2 hotEq⟩
      have : Str.ofString y ≠ Str.ofString x := fun e => q (ofString_inj e)
      simp [upd, this, h1]
  · intro y d' e
    rw [lookup_setv] at e
    split at e
    · rename_i q; subst q
      cases e
      rcases hv with ⟨e, _⟩ | ⟨_, c, rfl, rfl, h1, h2, hXc, h3⟩
      · cases e
      · have hca : c ≠ a := fun q => by obtain ⟨o, ho⟩ := aEx; rw [← q, h1] at ho; cases ho
        refine ⟨c, by simp, by simp [upd], h3.mono (fun o e => (hs c hca hXc) e) (fun b o hn e => (hs b (fun q => hn (.inl (q ▸ aHot own))) (fun q => hn (.inr q))) e) fun b o _ q => ?_⟩
        rcases q with q | q | q | ⟨z, q⟩
        · exact .inl (.inl (.inl q))
        · exact .inl (.inl (.inr (.inl q)))
        · exact .inl (.inl (.inr (.inr (.inl q))))
        · dsimp only at q
          split at q
          · cases q; exact .inr rfl
          · exact .inl (.inl (.inr (.inr (.inr ⟨z, q⟩))))
    · rename_i q
      obtain ⟨c, h1, h2, h4⟩ := S.owned y d' e
      have hca : c ≠ a := by
        obtain ⟨_, _, g2, g3⟩ := S.own1 y c h1
        rcases ha with rfl | ⟨z, e⟩
        · exact g2
        · rintro rfl; exact g3 z e
      have : Str.ofString y ≠ Str.ofString x := fun e => q (ofString_inj e)
      exact ⟨c, by simp [q, h1], by simp [upd, this, h2], h4.mono (fun o e => (hs c hca (nX _ _ e)) (hk _ _ e)) k2 fun b o e q => .inl (hotEq b o e q)⟩
  · intro b o e
    exact k2 b o (S.hot.off b o e) (S.hot.keep b o e)
  · intro b q
    rcases q with q | q | q | ⟨y, q⟩
    · obtain ⟨b', o, hb, ho⟩ := S.hot.ex b (.inl q)
      obtain ⟨o', ho'⟩ := k2' b' o ho
      exact ⟨b', o', hb, ho'⟩
    · obtain ⟨o', ho'⟩ := frame_ex R₂ (.inl q)
      exact ⟨b, o', Nat.le_refl _, ho'⟩
    · obtain ⟨o', ho'⟩ := frame_ex R₂ (.inr q)
      exact ⟨b, o', Nat.le_refl _, ho'⟩
    · dsimp only at q
      split at q
      · obtain ⟨_, _, o', ho'⟩ := newc b q
        exact ⟨b, o', Nat.le_refl _, ho'⟩
      · obtain ⟨b', o, hb, ho⟩ := S.hot.ex b (.inr (.inr (.inr ⟨y, q⟩)))
        obtain ⟨o', ho'⟩ := k2' b' o ho
        exact ⟨b', o', hb, ho'⟩
  · intro b o e q
    exact S.hot.off b o e (hotEq b o (S.hot.keep b o e) q)
  · intro b o e
    refine (hs b (fun q => ?_) (nX b o (S.keep b o e))) (hk b o (S.keep b o e))
    rcases ha with rfl | ⟨z, ez⟩
    · rw [q, S.frE.1] at e; cases e
    · rw [q, S.frE.2 z a ez] at e; cases e
  · intro y c hc
    split at hc
    · obtain ⟨g1, g2, _⟩ := newc c hc
      refine ⟨?_, g2, ?_, ?_⟩
      · cases e : gat ent c with
        | none => rfl
        | some o => rw [S.keep c o e] at g1; cases g1
      · rintro rfl
        obtain ⟨o, ho⟩ := frame_ex S.rep (.inl rfl)
        rw [g1] at ho; cases ho
      · intro z ez
        obtain ⟨o, ho⟩ := frame_ex S.rep (.inr ⟨z, ez⟩)
        rw [g1] at ho; cases ho
    · exact S.own1 y c hc
  · intro y z c h1 h2
    split at h1 <;> split at h2
    · rename_i e1 e2; rw [e1, e2]
    · obtain ⟨o, ho⟩ := S.ownx z c h2
      rw [(newc c h1).1] at ho; cases ho
    · obtain ⟨o, ho⟩ := S.ownx y c h1
      rw [(newc c h2).1] at ho; cases ho
    · exact S.inj y z c h1 h2
  · intro y c hc
    split at hc
    · exact (newc c hc).2.2
    · obtain ⟨o, ho⟩ := S.ownx y c hc
      exact k2' c o ho

/-- the owned object of x turns into another -/
theorem StOk.turn (S : StOk w base ent h env H₀ own m σ) {x : String} {a : Addr} {d₀ d : D} (hx : σ.lookup x = some (true, d₀)) (hown : own x = some a) (hs : Heap.SameBut a h h₂) (hd : OwnD w.params h₂ (Hot env H₀ own) a d) :
    StOk w base ent h₂ env H₀ own m (setv σ x (true, d)) := by
  have hs : Heap.SB a h h₂ := ⟨hs, (by
    obtain ⟨a', q1, _, q3⟩ := S.owned x _ hx
    rw [hown] at q1; cases q1; exact q3.notTab), hd.notTab⟩
  have aHot : Hot env H₀ own a := .inr (.inr (.inr ⟨x, hown⟩))
  obtain ⟨g0, g1, g2, g3⟩ := S.own1 x a hown
  have k2 : ∀ b o, ¬ Hot env H₀ own b → gat h b = some o → gat h₂ b = some o := fun b o hn e => (hs.g b fun q => hn (q ▸ aHot)).trans e
  have k2' : ∀ b o, gat h b = some o → ∃ o', gat h₂ b = some o' := fun b o e => by
    by_cases q : b = a
    · exact q ▸ hd.ex
    · exact ⟨o, (hs.g b q).trans e⟩
  have R₂ : EnvRep h₂ env m := S.rep.keepsAt fun b o hb e => (hs.g b (by
    rcases hb with rfl | ⟨z, ez⟩
    · exact Ne.symm g2
    · rintro rfl; exact g3 z ez)).trans e
  refine ⟨R₂, ?_, ?_, ⟨?_, ?_, S.hot.off⟩, ?_, S.frE, S.own1, S.inj, ?_⟩
  · intro y d' e
    rw [lookup_setv] at e
    split at e
    · cases e
    · obtain ⟨u, h1, h2⟩ := S.plain y d' e
      exact ⟨u, h1, h2.mono k2 fun _ _ _ q => q⟩
  · intro y d' e
    rw [lookup_setv] at e
    split at e
    · rename_i q; subst q
      cases e
      obtain ⟨a', q1, q2, _⟩ := S.owned y _ hx
      rw [hown] at q1; cases q1
      exact ⟨a, hown, q2, hd⟩
    · rename_i q
      obtain ⟨c, h1, h2, h4⟩ := S.owned y d' e
      have hca : c ≠ a := fun e => q (S.inj y x a (e ▸ h1) hown)
      exact ⟨c, h1, h2, h4.mono (fun o e => (hs.g c hca).trans e) k2 fun b o e q => .inl q⟩
  · intro b o e
    exact k2 b o (S.hot.off b o e) (S.hot.keep b o e)
  · intro b q
    obtain ⟨b', o, hb, ho⟩ := S.hot.ex b q
    obtain ⟨o', ho'⟩ := k2' b' o ho
    exact ⟨b', o', hb, ho'⟩
  · intro b o e
    exact (hs.g b fun q => by rw [q, g0] at e; cases e).trans (S.keep b o e)
  · intro y c hc
    obtain ⟨o, ho⟩ := S.ownx y c hc
    exact k2' c o ho
theorem StOk.append (S : StOk w base ent h env H₀ own m σ) {x : String} {a : Addr} {ds : List D} {vs : Array Value} {n : Nat} {v : Value} {d : D} (hx : σ.lookup x = some (true, .list ds)) (hown : own x = some a)
    (hl : h.get? a = some (lstO vs n)) (hr : RepAll w.params h (fun b => Hot env H₀ own b ∨ b = a) vs.toList ds) (hv : Rep w.params h (Hot env H₀ own) v d) (hsz : (ds ++ [d]).length ≤ big) (hs : Heap.SameBut a h h₂) (hl₂ : ∃ n', h₂.get? a = some (lstO (vs.push v) n')) :
    StOk w base ent h₂ env H₀ own m (setv σ x (true, .list (ds ++ [d]))) := by
  have hs0 := hs
  have hs : Heap.SB a h h₂ := ⟨hs0, notTab_at hl, let ⟨_, e⟩ := hl₂; notTab_at e⟩
  have aHot : Hot env H₀ own a := .inr (.inr (.inr ⟨x, hown⟩))
  have k2 : ∀ b o, ¬ Hot env H₀ own b → gat h b = some o → gat h₂ b = some o := fun b o hn e => (hs.g b fun q => hn (q ▸ aHot)).trans e
  obtain ⟨n', e'⟩ := hl₂
  refine S.turn hx hown hs0 ⟨vs.push v, n', e', hsz, ?_⟩
  have r : RepAll w.params h (fun b => Hot env H₀ own b ∨ b = a) (vs.toList ++ [v]) (ds ++ [d]) := hr.append (.cons (hv.mono (fun _ _ _ e => e) fun b o _ q => q.elim id fun q => q ▸ aHot) .nil)
  have r' := r.mono (h' := h₂) (H' := fun b => Hot env H₀ own b ∨ b = a) (fun b o hn e => k2 b o (fun q => hn (.inl q)) e) fun _ _ _ q => q
  simpa using r'
end
end Mine
namespace Mine
open PySem PySem.SeqAt
section
variable {prog : Program} {w : World} {A : Around}
theorem StOk.ownM {base ent h : Heap} {env : Env} {H₀ : Addr → Prop} {own : Own} {m : Str → Option Value} {σ : St} (S : StOk w base ent h env H₀ own m σ) {x : String} {L : Addr} {ks vs : List D} (hx : σ.lookup x = some (true, .dict ks vs)) (hL : own x = some L) :
    OwnM w.params h (Hot env H₀ own) L ks vs := by
  obtain ⟨L', q1, q2, o⟩ := S.owned x _ hx
  rw [hL] at q1; cases q1
  exact o
theorem setItem_own {s : Shared} {H : Addr → Prop} {L : Addr} {ks vs : List D} {u kv : Value} {d dk : D} {Q : Unit → Shared → Prop} {E : Value → Shared → Prop} (hu : A.units + 1 < cLine) (o : OwnM w.params s.heap H L ks vs)
    (rk : Rep w.params s.heap (fun b => H b ∨ b = L) kv dk) (rv : Rep w.params s.heap (fun b => H b ∨ b = L) u d) (hc : keyOk dk ks = true) (hlen : ks.length < big)
    (hQ : ∀ h' tk dw, Heap.SameBut L s.heap h' → OwnM w.params h' H L (dput ks vs dk d).1 (dput ks vs dk d).2 → Q () { s with heap := h', toks := tk, drawn := dw }) : wpAny (model prog w) A (setItem (.ref L) kv u) Q E s := by
  obtain ⟨es, n, o1, o2, o3, o4, o5, o6, o7, o8⟩ := o
  have e0 : big ≤ sizeLine := by decide
  have hdl : (dput ks vs dk d).1.length ≤ big := by have := dput_len dk d ks vs; omega
  unfold keyOk at hc
  rw [Bool.or_eq_true, Bool.and_eq_true] at hc
  have nt : ∀ o, s.heap.get? L = some o → isTab o = false := notTab_at o1
  have mv : ∀ {h'}, Heap.SameBut L s.heap h' → ∀ {l : List Value} {ds : List D}, RepAll w.params s.heap (fun b => H b ∨ b = L) l ds → RepAll w.params h' (fun b => H b ∨ b = L) l ds := fun hs _ _ r =>
    r.mono (fun b o hb e => g1 hs nt b (fun q => hb (.inr q)) e) fun _ _ _ q => q
  rcases hc with hc | hc
  · obtain ⟨cs, rfl⟩ := cells_ck hc.2
    obtain ⟨c, rfl⟩ := cell_ck hc.1
    have hl : cs.length = (es.toList.map (·.val)).length := by have := o3.length; simpa using this.symm
    have hcn : cs.Nodup := (List.pairwise_map.mp o7).imp fun h e => h (by rw [e])
    refine wpAny_setItem_pairs (knd := cellKind prog w) (rep_ck rk) (dictOf_rep o1 o3 o5 o7) (fun h' hm hs => ?_) (by
      simp only [List.length_map] at hlen
      rw [List.length_zip]; omega)
    obtain ⟨p1, p2⟩ := stored_dput (k := c) rv hl hcn o4
    obtain ⟨es', n', r1, r2, r3, r4, r5, r6⟩ := rep_dictOf (H := fun b => H b ∨ b = L) hm
    rw [p1] at r2 r4 r5 r6
    exact hQ _ _ _ hs ⟨es', n', r1, hdl, r2, r3 ▸ mv hs p2, r4, r5, r6, o8⟩
  · cases hc
end
end Mine
namespace Mine
open PySem PySem.SeqAt

noncomputable def frm (env : Env) (b : Addr) : Prop := b = env.locals ∨ ∃ x, env.cells.lookup x = some b

noncomputable def SPost (w : World) (base ent : Heap) (env : Env) (H₀ : Addr → Prop) (s : Shared) (own : Own) (r : Fl × St) (f : Flow) (s' : Shared) : Prop :=
  ∃ h' tk dw, s' = { s with heap := h', toks := tk, drawn := dw } ∧ (∀ b o, gat s.heap b = some o → ¬ frm env b → (∀ x, own x ≠ some b) → gat h' b = some o) ∧ (∀ b o, gat s.heap b = some o → ∃ o', gat h' b = some o') ∧
  match r.1 with
  | .next => f = .next ∧ ∃ own' m', StOk w base ent h' env H₀ own' m' r.2 ∧ ∀ x a, own' x = some a → own x = some a ∨ gat s.heap a = none
  | .ret fr d => ∃ v, f = .ret v ∧ Rep w.params h' H₀ v d ∧ (KH ent h') ∧ (fr = true → ∃ a, v = .ref a ∧ gat ent a = none ∧ OwnD w.params h' H₀ a d)

section
variable {prog : Program} {w : World} {A : Around} {base : Heap} {mg mb : Str → Option Value} {cf : CF}

noncomputable def SS (prog : Program) (w : World) (A : Around) (base : Heap) (cf : CF) (ms : MS) : Prop :=
  ∀ (s : Shared) (env : Env) (st : Stmt) (H₀ : Addr → Prop) (ent : Heap) (own : Own) (m : Str → Option Value) (σ : St) (r : Fl × St) (E : Value → Shared → Prop), chkS env.kindOf st ms = true → StOk w base ent s.heap env H₀ own m σ →
    exS cf ms σ = some r → wpAny (model prog w) A (exec st env) (SPost w base ent env H₀ s own r) E s
noncomputable def SSs (prog : Program) (w : World) (A : Around) (base : Heap) (cf : CF) (ms : List MS) : Prop :=
  ∀ (s : Shared) (env : Env) (ss : List Stmt) (H₀ : Addr → Prop) (ent : Heap) (own : Own) (m : Str → Option Value) (σ : St) (r : Fl × St) (E : Value → Shared → Prop), chkSs env.kindOf ss ms = true → StOk w base ent s.heap env H₀ own m σ →
    exSs cf ms σ = some r → wpAny (model prog w) A (execs ss env) (SPost w base ent env H₀ s own r) E s

theorem own_sub {s : Shared} {own own' : Own} (hh : ∀ x a, own' x = some a → own x = some a ∨ gat s.heap a = none) {b : Addr} {o : Obj} (e : gat s.heap b = some o) (hn : ∀ x, own x ≠ some b) : ∀ x, own' x ≠ some b := by
  intro x q
  rcases hh x b q with q | q
  · exact hn x q
  · rw [e] at q; cases q

theorem SPost.trans {ent : Heap} {env : Env} {H₀ : Addr → Prop} {s s₁ : Shared} {own own₁ : Own} {r : Fl × St} {f : Flow} {s' : Shared} (h₁ : Heap) (tk₁ : Nat) (dw₁ : Drawn) (e₁ : s₁ = { s with heap := h₁, toks := tk₁, drawn := dw₁ })
    (k₁ : ∀ b o, gat s.heap b = some o → ¬ frm env b → (∀ x, own x ≠ some b) → gat h₁ b = some o) (x₁ : ∀ b o, gat s.heap b = some o → ∃ o', gat h₁ b = some o') (o₁ : ∀ x a, own₁ x = some a → own x = some a ∨ gat s.heap a = none)
    (q : SPost w base ent env H₀ s₁ own₁ r f s') : SPost w base ent env H₀ s own r f s' := by
  subst e₁
  obtain ⟨h', tk, dw, rfl, k, x, q⟩ := q
  have newn : ∀ a, gat h₁ a = none → gat s.heap a = none := by
    intro a e
    cases q : gat s.heap a with
    | none => rfl
    | some o =>
      obtain ⟨o', e'⟩ := x₁ a o q
      rw [e] at e'; cases e'
  refine ⟨h', tk, dw, rfl, fun b o e hf ho => k b o (k₁ b o e hf ho) hf (own_sub o₁ e ho), fun b o e => (fun ⟨o', e'⟩ => x b o' e') (x₁ b o e), ?_⟩
  cases hr : r.1 with
  | next =>
    rw [hr] at q
    obtain ⟨q1, own', m', q2, q3⟩ := q
    refine ⟨q1, own', m', q2, fun x a e => ?_⟩
    rcases q3 x a e with e | e
    · exact o₁ x a e
    · exact .inr (newn a e)
  | ret fr d => rw [hr] at q; exact q

/-- a state after a run of an expression -/
theorem StOk.settle {ent h : Heap} {env : Env} {H₀ : Addr → Prop} {own : Own} {m : Str → Option Value} {σ : St} (S : StOk w base ent h env H₀ own m σ) (d : D) (ns : List String) :
    ∃ own', StOk w base ent h env H₀ own' m (Mine.settle d ns σ) ∧ (∀ x a, own' x = some a → own x = some a) ∧ ((d.scalar = true ∧ own' = own) ∨ (d.scalar = false ∧ own' = own.less ns)) := by
  unfold Mine.settle
  cases hd : d.scalar with
  | true => exact ⟨own, S, fun _ _ e => e, .inl ⟨rfl, rfl⟩⟩
  | false => exact ⟨own.less ns, S.freeze ns, fun x a e => by unfold Own.less at e; split at e <;> first | cases e | exact e, .inr ⟨rfl, rfl⟩⟩

theorem store_core {s : Shared} {env : Env} {H₀ : Addr → Prop} {ent : Heap} {own : Own} {m : Str → Option Value} {σ : St} {x : String} {ns : List String} {d : D} {fr : Bool} {v : Value} {h₁ h₂ : Heap} {a : Addr} {X : Addr → Prop} {tk : Nat} {dw : Drawn}
    (S : StOk w base ent s.heap env H₀ own m σ) (hk : KH s.heap h₁) (rv : Rep w.params h₁ (fun b => Hot env H₀ (own.less ns) b ∨ X b) v d)
    (hfr : fr = true → ∃ c, v = .ref c ∧ gat s.heap c = none ∧ OwnD w.params h₁ (fun b => Hot env H₀ (own.less ns) b ∨ X b) c d)
    (R₂ : EnvRep h₂ env (upd m (Str.ofString x) v)) (ha : frm env a) (hX : ∀ b, X b → gat s.heap b = none) (hs : ∀ b, b ≠ a → ¬ X b → ∀ {o}, gat h₁ b = some o → gat h₂ b = some o) :
    SPost w base ent env H₀ s own (.next, setv (Mine.settle d ns σ) x (fr, d)) .next { s with heap := h₂, toks := tk, drawn := dw } := by
  obtain ⟨own', S', hsub, hcase⟩ := S.settle d ns
  have hv : (fr = false ∧ (if fr then (match v with | .ref c => some c | _ => none) else none) = none ∧ Rep w.params h₁ (fun b => Hot env H₀ own' b ∨ X b) v d) ∨
      (fr = true ∧ ∃ c, (if fr then (match v with | .ref c => some c | _ => none) else none) = some c ∧ v = .ref c ∧ gat s.heap c = none ∧ ¬ H₀ c ∧ ¬ X c ∧ OwnD w.params h₁ (fun b => Hot env H₀ own' b ∨ X b) c d) := by
    cases fr with
    | false =>
      refine .inl ⟨rfl, rfl, ?_⟩
      rcases hcase with ⟨e1, _⟩ | ⟨_, e2⟩
      · exact rv.scalar e1
      · rw [e2]; exact rv
    | true =>
      obtain ⟨c, e1, e3, e4⟩ := hfr rfl
      subst e1
      rcases hcase with ⟨e5, _⟩ | ⟨_, e6⟩
      · rw [e4.scalar] at e5; cases e5
      · rw [e6]
        have hn := rv.off
        exact .inr ⟨rfl, c, rfl, rfl, e3, fun q => hn (.inl (.inl q)), fun q => hn (.inr q), e4⟩
  have S₂ := S'.assign (x := x) (v := v) (fr := fr) (d := d) hk R₂ ha hX hs hv
  have nX : ∀ b o, gat s.heap b = some o → ¬ X b := fun b o e q => by have := hX b q; rw [e] at this; cases this
  refine ⟨h₂, tk, dw, rfl, fun b o e hf _ => (hs b (fun q => hf (q ▸ ha)) (nX b o e)) (hk b o e), fun b o e => ?_, rfl, _, _, S₂, fun y c hc => ?_⟩
  · by_cases q : b = a
    · exact q ▸ frame_ex R₂ ha
    · exact ⟨o, (hs b q (nX b o e)) (hk b o e)⟩
  · split at hc
    · rcases hv with ⟨_, e, _⟩ | ⟨_, c', e, _, h1, _⟩
      · rw [e] at hc; cases hc
      · rw [e] at hc; cases hc; exact .inr h1
    · exact .inl (hsub y c hc)

theorem isStore_kind {k : KD} {x : Str} (hx : isStore k x = true) : k x = some .local ∨ k x = some .cell := by
  unfold isStore at hx
  simp only [Bool.and_eq_true, Bool.or_eq_true, beq_iff_eq] at hx
  exact hx.1

/-- a store of an expression's value into a name -/
theorem store_value {s s₁ : Shared} {env : Env} {H₀ : Addr → Prop} {ent : Heap} {own : Own} {m : Str → Option Value} {σ : St} {x : String} {e : ME} {d : D} {fr : Bool} {v : Value} {E : Value → Shared → Prop} {Q : Unit → Shared → Prop}
    (S : StOk w base ent s.heap env H₀ own m σ) (hx : isStore env.kindOf (Str.ofString x) = true) (q : PostF w s (Hot env H₀ (own.less e.names)) d fr v s₁)
    (hQ : ∀ s₂, SPost w base ent env H₀ s own (.next, setv (Mine.settle d e.names σ) x (fr, d)) .next s₂ → Q () s₂) :
    wpAny (model prog w) A (storeName env (Str.ofString x) v) Q E s₁ := by
  obtain ⟨kp, rv, hfr⟩ := q
  obtain ⟨h₁, tk₁, dw₁, rfl, hk⟩ := kp
  refine store_snd (s := { s with heap := h₁, toks := tk₁, drawn := dw₁ }) (S.rep.keeps hk) (isStore_kind hx) fun h₂ tk₂ dw₂ a R₂ ha hs => hQ _ ?_
  refine store_core (X := fun _ => False) S hk (rv.sub fun _ q => q.elim id False.elim) (fun hf => ?_) R₂ (ha.imp id fun e => ⟨_, e⟩) (fun _ q => q.elim) fun b hb _ _ e => (hs.g b hb).trans e
  obtain ⟨c, e1, e3, e4⟩ := hfr hf
  exact ⟨c, e1, e3, e4.mono (fun _ e => e) (fun _ _ _ e => e) fun _ _ _ q => q.elim .inl False.elim⟩

theorem ss_assign (G : GOk mg mb base) (C : CSound prog w base mg cf A) (hh : A.handled = none) (hu : Room A) (x : String) (e : ME) : SS prog w A base cf (.assign x e) := by
  intro s env st H₀ ent own m σ r E hc S hev
  replace hc := inv_assign hc; obtain ⟨_, _, _, _, rfl, hc⟩ := hc
  · rename_i y p v pos
    simp only [Bool.and_eq_true, beq_iff_eq] at hc
    obtain ⟨⟨rfl, hst⟩, hc⟩ := hc
    simp only [xs_assign, xs_append, xs_setk, xs_ite, xs_for_, xs_ret, xs_bad] at hev
    split at hev
    · rename_i d fr hd
      cases hev
      have Sf := (all_E G C hh hu e).2.2
      have nv := S.nv e.names
      have hw : HOk base s.heap (Hot env H₀ (own.less e.names)) := (S.freeze e.names).hot
      have plain : swapsWith v (some (.Name (Str.ofString x) p)) pos.line env = pure false → wpAny (model prog w) A (exec (.Assign [.Name (Str.ofString x) p] v pos) env) (SPost w base ent env H₀ s own (.next, setv (Mine.settle d e.names σ) x (fr, d))) E s := fun hsw => by
        refine wpAny_Assign_Name (wpAny_mono (Sf s env v _ (vis σ) m d fr E hc S.rep hw nv hd) (fun u s₁ q => ?_) fun _ _ e => e) hsw
        exact store_value S hst q fun s₂ q => q
      by_cases hcomp : notComp v = true
      · refine plain ?_
        cases v <;> first | rfl | cases hcomp
      · have hl : ∃ t gens scope lp, v = .ListComp t gens scope lp := by
          cases v with
          | ListComp t g sc lp => exact ⟨t, g, sc, lp, rfl⟩
          | SetComp => have hs := chk_shape hc; cases e <;> cases hs
          | DictComp => have hs := chk_shape hc; cases e <;> cases hs
          | _ => exact absurd rfl hcomp
        obtain ⟨t, gens, scope, lp, rfl⟩ := hl
        have hsw : ∃ b, swapsWith (.ListComp t gens scope lp) (some (.Name (Str.ofString x) p)) pos.line env = pure b := ⟨_, rfl⟩
        obtain ⟨b, hsw⟩ := hsw
        cases b with
        | false => exact plain hsw
        | true =>
          have he : ∃ elt z src cs, e = .comp elt z src cs := by have hs := chk_shape hc; cases e <;> first | exact ⟨_, _, _, _, rfl⟩ | cases hs
          obtain ⟨elt, z, src, cs, rfl⟩ := he
          simp only [evF_comp, Option.map_eq_some_iff] at hd
          obtain ⟨d', hd, e'⟩ := hd
          cases e'
          obtain ⟨t', y', py', it', ifs', scope', lp', heq, _⟩ := inv_comp hc
          · cases heq
            rw [exec_Assign_Name_used _ _ _ _ hsw]
            refine wpAny_bind (wpAny_standAt (wpAny_bind ?_))
            show wpAny _ A (do let _ ← comprehension (.ListComp t [⟨.Name y' py', it', ifs', 0⟩] scope lp) scope env _ (newList []) false (eval it' env) (some (assign (.Name (Str.ofString x) p) env))) _ _ s
            refine wpAny_bind (wpAny_mono (comp_snd (use := some (assign (.Name (Str.ofString x) p) env)) (Q := fun _ s' => SPost w base ent env H₀ s own (.next, setv (Mine.settle d (ME.comp elt z src cs).names σ) x (true, d)) .next s') hh (all_E G C hh hu elt).1 (all_E G C hh hu src).1 (all_Es G C hh hu cs).2.2.1 hc S.rep hw nv hd ?_)
              (fun _ s' hq => wpAny_pure (wpAny_pure hq)) fun _ _ e => e)
            intro L Cc h' tk dw m' out hdl hL hC hLC hns hown hk
            subst hdl
            show wpAny _ A (assign (.Name (Str.ofString x) p) env (.ref L)) _ _ _
            refine wpAny_assign_Name (store_snd (s := { s with heap := h', toks := tk, drawn := dw }) (S.rep.keeps hk) (isStore_kind hst) fun h₂ tk₂ dw₂ a R₂ ha hs => ?_)
            have ha' : frm env a := ha.imp id fun e => ⟨_, e⟩
            obtain ⟨oa, hoa⟩ := frame_ex S.rep ha'
            have haC : a ≠ Cc := fun q => by rw [q, hC] at hoa; cases hoa
            refine ⟨m', hns.sameBut hs.s (Ne.symm haC), fun h₃ hs₃ => ?_⟩
            have nt := notTab_ns (hns.sameBut hs.s (Ne.symm haC))
            have hLn : gat s.heap L = none := by
              cases e : gat s.heap L with
              | none => rfl
              | some o => exact absurd (hL _ _ e) (Nat.lt_irrefl _)
            have hLo : ¬ Hot env H₀ (own.less (ME.comp elt z src cs).names) L := fun q => by
              obtain ⟨b, o, hb, ho⟩ := hw.ex L q
              exact Nat.lt_irrefl _ (Nat.lt_of_le_of_lt hb (hL b o ho))
            refine store_core (X := fun b => b = Cc) (h₁ := h') S hk (hown.rep fun q => q.elim hLo hLC) (fun _ => ⟨L, rfl, hLn, hown⟩) (R₂.keepsAt fun b o hb e => g1 hs₃ nt b (fun q => ?_) e) ha' (fun b q => q ▸ hC) fun b hb1 hb2 _ e => g1 hs₃ nt b hb2 ((hs.g b hb1).trans e)
            obtain ⟨ob, hob⟩ := frame_ex S.rep hb
            rw [q, hC] at hob; cases hob
    · cases hev
end
end Mine
namespace Mine
open PySem PySem.SeqAt
set_option maxRecDepth 100000

/-! reversed(a tuple) -/
theorem owner_rev : Manifest.owners.lookup (String.ofList ['d', 'e', 's', 'r', 'e', 'v', 'e', 'r'].reverse) = some Manifest.sig_reversed := by kernel_rfl
theorem slot_rev_next : Slot "reversed" "__next__" "reversed.__next__" :=
  .of (owner := "reversed") (n := "__next__") (by rw [typeLookup_type, builtinLookup_eq_fast]; kernel_rfl) (by decide +kernel) (by decide +kernel) (by decide +kernel)
    (by first | exact .inl (by decide +kernel) | exact .inr (by decide +kernel)) (by rw [isSubtype_type]; kernel_rfl)
theorem entry_rev_next : entryFor table "reversed.__next__" = some Builtin.«reversed.__next__» := entryFor_of_tree (by kernel_rfl)
theorem args_rev_next (a : Value) : argsOk "reversed.__next__" ⟨[a], []⟩ := by
  unfold argsOk; rw [signature?_of (id := "reversed.__next__") (n := ['_', '_', 't', 'x', 'e', 'n', '_', '_']) (o := ['d', 'e', 's', 'r', 'e', 'v', 'e', 'r']) (by kernel_rfl) owner_rev]; kernel_rfl
theorem slot_rev_iter : Slot "reversed" "__iter__" "reversed.__iter__" :=
  .of (owner := "reversed") (n := "__iter__") (by rw [typeLookup_type, builtinLookup_eq_fast]; kernel_rfl) (by decide +kernel) (by decide +kernel) (by decide +kernel)
    (by first | exact .inl (by decide +kernel) | exact .inr (by decide +kernel)) (by rw [isSubtype_type]; kernel_rfl)
theorem args_rev_iter (a : Value) : argsOk "reversed.__iter__" ⟨[a], []⟩ := by
  unfold argsOk; rw [signature?_of (id := "reversed.__iter__") (n := ['_', '_', 'r', 'e', 't', 'i', '_', '_']) (o := ['d', 'e', 's', 'r', 'e', 'v', 'e', 'r']) (by kernel_rfl) owner_rev]; kernel_rfl
theorem entry_rev_iter : entryFor table "reversed.__iter__" = some Builtin.«dict_keyiterator.__iter__» :=
  entryFor_alias (id' := "dict_keyiterator.__iter__") (by kernel_rfl) (by first | rfl | decide +kernel | (unfold String.splitOn; simp +decide [String.splitOnAux])) (by decide +kernel) (by kernel_rfl)
theorem lookup_tuple_reversed : typeLookup (.type "tuple") "__reversed__" = pure none := by rw [typeLookup_type, builtinLookup_eq_fast]; kernel_rfl

noncomputable abbrev rvO (l : Addr) (i : Int) : Obj := { cls := .type "reversed", data := .fields #[.ref l, rawInt i] }
theorem slot_rev_init : Slot "reversed" "__init__" "object.__init__" :=
  .of (owner := "object") (n := "__init__") (by rw [typeLookup_type, builtinLookup_eq_fast]; kernel_rfl) (by decide +kernel) (by decide +kernel) (by decide +kernel)
    (by first | exact .inl (by decide +kernel) | exact .inr (by decide +kernel)) (by rw [isSubtype_type]; kernel_rfl)
theorem called_rev : TypeCalled "reversed" "reversed.__new__" "object.__init__" :=
  ⟨by decide +kernel, F.create_reversed, ⟨_, _, F.mro_reversed⟩, F.made_reversed, F.plain_reversed_new, F.sub_reversed_self, slot_rev_init⟩

section
variable {prog : Program} {w : World} {A : Around} {E : Value → Shared → Prop} {s : Shared}
theorem code_rev_tuple {l : Addr} {items : Array Value} {Q₁ : Value → Shared → Prop} (hl : PyProof.Rows.IsTup s.heap l items) (hz : (items.size : Int) < 2 ^ 63)
    (h : ∀ tk, Q₁ (.ref s.heap.objs.size) { s with heap := s.heap.push (rvO l ((items.size : Int) - 1)), toks := tk }) :
    codeAny (model prog w) A (.call (.builtin "reversed.__new__") ⟨[.type "reversed", .ref l], []⟩) (wants Q₁ E) s := by
  have hT : s.TypeIs (.ref l) "tuple" := let ⟨o, ho, hc, _⟩ := hl; ⟨o, ho, hc⟩
  refine codeAny_of_tree ?_
  show wpAny _ A.in1 (do checkBuiltinCall "reversed.__new__" ⟨[.type "reversed", .ref l], []⟩; again (.builtin "reversed.__new__" ⟨[.type "reversed", .ref l], []⟩)) _ _ s
  refine wpAny_bind (wpAny_of_eq (F.newCall_reversed_1 _) (wpAny_pure ⟨plainId_quiet F.plain_reversed_new _, codeAny_builtin F.entry_reversed_new ?_⟩))
  rw [Around.under_plainId F.plain_reversed_new _]
  unfold Builtin.«reversed.__new__»
  refine wpAny_bind (wpAny_of_eq (newClass_reversed _) ?_)
  try dsimp only
  refine wpAny_bind (wpAny_of_eq (a := ()) (by first | rfl | kernel_rfl) ?_)
  refine wpAny_bind (wpAny_of_eq (a := ()) (by first | rfl | kernel_rfl) ?_)
  try dsimp only
  refine wpAny_bind (wpAny_specialOf hT lookup_tuple_reversed ?_)
  try dsimp only
  refine wpAny_bind (wpAny_bind (wpAny_isInstance (T := "tuple") (b := false) hT (by rw [isSubtype_type]; kernel_rfl) ?_))
  rw [if_neg Bool.false_ne_true]
  refine wpAny_bind (wpAny_specialOf hT F.slot_tuple_getitem.lookup ?_)
  dsimp only
  rw [if_pos (by decide)]
  refine wpAny_pure ?_
  rw [if_neg (by decide)]
  refine wpAny_bind (PyProof.Rows.len_tuple hl hz ?_)
  refine wpAny_bind (wpAny_of_eq (a := some (items.size : Int)) rfl ?_)
  dsimp only
  refine wpAny_bind ?_
  refine wpAny_newObj_type (data := .fields #[.ref l, rawInt ((items.size : Int) - 1)]) (wpAny_pure (h _)) (by size_fits)
theorem call_rev_tuple {l : Addr} {items : Array Value} {Q : Value → Shared → Prop} (hl : PyProof.Rows.IsTup s.heap l items) (hz : (items.size : Int) < 2 ^ 63)
    (h : ∀ tk, Q (.ref s.heap.objs.size) { s with heap := s.heap.push (rvO l ((items.size : Int) - 1)), toks := tk }) : wpAny (model prog w) A (call (.type "reversed") [.ref l]) Q E s := by
  refine callType_codes (Q₁ := fun obj s₁ => ∃ tk, obj = .ref s.heap.objs.size ∧ s₁ = { s with heap := s.heap.push (rvO l ((items.size : Int) - 1)), toks := tk }) called_rev (F.typeCall_reversed_1 _) F.entry_object_init (code_rev_tuple hl hz fun tk => ⟨tk, rfl, rfl⟩) ?_
  rintro obj s₁ ⟨tk, rfl, rfl⟩
  have hT : Shared.TypeIs { s with heap := s.heap.push (rvO l ((items.size : Int) - 1)), toks := tk } (.ref s.heap.objs.size) "reversed" := ⟨_, Heap.get?_push_size _ rfl, rfl⟩
  refine ⟨hT, F.args_object_init_2 _ _, ?_⟩
  exact object_init_meets slot_rev_init.lookup F.made_reversed (by decide) prog w A.in1 _ _ ⟨hT, rfl, h tk⟩
end
end Mine
namespace Mine
open PySem PySem.SeqAt

section
variable {prog : Program} {w : World} {A : Around} {E : Value → Shared → Prop} {s : Shared}
noncomputable def IsRv (h : Heap) (a l : Addr) (i : Int) : Prop := ∃ o, h.get? a = some o ∧ o.cls = .type "reversed" ∧ o.data = .fields #[.ref l, rawInt i]
theorem IsRv.typeIs {a l : Addr} {i : Int} (x : IsRv s.heap a l i) : s.TypeIs (.ref a) "reversed" := let ⟨o, ho, hc, _⟩ := x; ⟨o, ho, hc⟩

theorem next_rv_item {it l : Addr} {i : Nat} {items : Array Value} {x : Value} {Q : Option Value → Shared → Prop} (hit : IsRv s.heap it l (i : Int)) (hl : PyProof.Rows.IsTup s.heap l items) (hz : (items.size : Int) < 2 ^ 63) (hx : items[i]? = some x)
    (hQ : ∀ h' tk, IsRv h' it l ((i : Int) - 1) → Heap.SameBut it s.heap h' → Q (some x) { s with heap := h', toks := tk }) : wpAny (model prog w) A (pyNext (.ref it)) Q E s := by
  obtain ⟨o, ho, hc, hd⟩ := id hit
  have hi : i < items.size := (Array.getElem?_eq_some_iff.mp hx).1
  have hT : s.TypeIs (.ref l) "tuple" := let ⟨o, ho, hc, _⟩ := hl; ⟨o, ho, hc⟩
  unfold pyNext
  refine wpAny_bind (wpAny_attempt (wpAny_callSpecial?_slot (name := Str.ofString "__next__") hit.typeIs slot_rev_next
    (wpAny_call_entry slot_rev_next hit.typeIs entry_rev_next ?_ (args_rev_next _))))
  unfold Builtin.«reversed.__next__»
  refine wpAny_bind (wpAny_of_eq (a := (Value.ref it, [])) rfl ?_)
  try dsimp only
  refine wpAny_bind (wpAny_field ho hd (x := .ref l) rfl ?_)
  refine wpAny_bind (wpAny_field ho hd (x := rawInt (i : Int)) rfl ?_)
  show wpAny _ _ (if (i : Int) < 0 then _ else _) _ _ s
  rw [if_neg (by omega)]
  refine wpAny_bind (wpAny_specialOf hT F.slot_tuple_getitem.lookup ?_)
  rw [if_neg (by simp)]
  refine wpAny_bind (wpAny_mkInt ?_)
  refine wpAny_bind (wpAny_attempt (PyProof.Rows.getItem_tuple (j := i) hl (by omega) (by omega) ?_ hx ?_))
  · have h1 : idx (i : Int) items.size = some i := by unfold idx; rw [if_pos (by omega)]; rfl
    exact (idx_seq h1).1
  · refine wpAny_bind (wpAny_field ho hd (x := rawInt (i : Int)) rfl ?_)
    show wpAny _ _ (setField (.ref it) 1 (rawInt ((i : Int) - 1)) >>= _) _ _ _
    refine wpAny_bind (wpAny_setField ho hd (by simp) ?_)
    refine wpAny_pure ⟨x, rfl, wpAny_pure (hQ _ _ ?_ (Heap.SameBut.update ..))⟩
    exact ⟨_, Heap.get?_update_self _ ho (Obj.isFreed_of_fields (Obj.data_mapFields hd _)), (Obj.cls_mapFields ..).trans hc, by
      rw [Obj.data_mapFields hd]; simp⟩
theorem next_rv_end {it l : Addr} {Q : Option Value → Shared → Prop} (hh : A.handled = none) (hit : IsRv s.heap it l (-1))
    (hQ : ∀ h', Heap.ExtBut it s.heap h' → Q none { s with heap := h' }) : wpAny (model prog w) A (pyNext (.ref it)) Q E s := by
  obtain ⟨o, ho, hc, hd⟩ := id hit
  unfold pyNext
  refine wpAny_bind (wpAny_attempt (wpAny_callSpecial?_slot (name := Str.ofString "__next__") hit.typeIs slot_rev_next
    (wpAny_call_entry slot_rev_next hit.typeIs entry_rev_next ?_ (args_rev_next _))))
  unfold Builtin.«reversed.__next__»
  refine wpAny_bind (wpAny_of_eq (a := (Value.ref it, [])) rfl ?_)
  try dsimp only
  refine wpAny_bind (wpAny_field ho hd (x := .ref l) rfl ?_)
  refine wpAny_bind (wpAny_field ho hd (x := rawInt (-1)) rfl ?_)
  show wpAny _ _ (if (-1 : Int) < 0 then _ else _) _ _ s
  rw [if_pos (by decide)]
  refine wpAny_bind (wpAny_rule ?_)
  refine wpAny_bind (wpAny_bind (wpAny_setField ho hd (by simp) ?_))
  have ho2 := Heap.get?_update_self (Obj.mapFields (fun vs => vs.setIfInBounds 1 (rawInt (-1)))) ho (Obj.isFreed_of_fields (Obj.data_mapFields hd _))
  refine wpAny_setField ho2 (Obj.data_mapFields hd _) (by simp) ?_
  first
  | show wpAny _ _ (newExc (.type "StopIteration") [] >>= _) _ _ _
  | (refine wpAny_bind ?_; show wpAny _ _ (newExc (.type "StopIteration") [] >>= _) _ _ _)
  refine wpAny_bind ?_
  simp only [newExc, newTuple]
  refine wpAny_bind (wpAny_newObj_type ?_ (by size_fits))
  refine wpAny_bind (m := firstArgMember _ _) (wpAny_of_eq (a := Value.none) (by first | rfl | (simp only [firstArgMember]; rfl)) ?_)
  refine wpAny_newObj_type ?_ (by size_fits)
  simp only [raiseNew]
  refine wpAny_bind (wpAny_handled ?_)
  rw [show A.in1.handled = none from hh]
  refine wpAny_bind (wpAny_pure (wpAny_throw ?_))
  refine wpAny_bind (wpAny_isInstance (T := "StopIteration") (b := true) ⟨_, Heap.get?_push_size _ rfl, rfl⟩ isSubtype_stop ?_)
  exact wpAny_pure (hQ _ (((((Heap.SameBut.update ..).trans (Heap.SameBut.update ..)).extBut).push _).push _))
end
end Mine
namespace Mine
open PySem PySem.SeqAt

section
variable {prog : Program} {w : World} {A : Around} {E : Value → Shared → Prop} {s : Shared}
theorem iter_rv {it l : Addr} {i : Int} {Q : Value → Shared → Prop} (hit : IsRv s.heap it l i) (h : Q (.ref it) s) : wpAny (model prog w) A (pyIter (.ref it)) Q E s := by
  refine wpAny_pyIter_slot hit.typeIs slot_rev_iter (wpAny_call_entry slot_rev_iter hit.typeIs entry_rev_iter ?_ (args_rev_iter _))
  show wpAny _ _ (ret (.ref it)) _ _ s
  exact wpAny_pure ⟨_, rfl, "reversed", _, hit.typeIs, slot_rev_next.lookup, h⟩
theorem IsRv.at {h h' : Heap} {a l : Addr} {i : Int} (x : IsRv h a l i) (e : ∀ o, h.get? a = some o → h'.get? a = some o) : IsRv h' a l i := let ⟨o, ho, r⟩ := x; ⟨o, e _ ho, r⟩
theorem isTup_at {h h' : Heap} {a : Addr} {vs : Array Value} (x : PyProof.Rows.IsTup h a vs) (e : ∀ o, h.get? a = some o → h'.get? a = some o) : PyProof.Rows.IsTup h' a vs := let ⟨o, ho, r⟩ := x; ⟨o, e _ ho, r⟩

theorem walks_rv (hh : A.handled = none) (I l : Addr) (hne : l ≠ I) (items : Array Value) (hz : (items.size : Int) < 2 ^ 63) :
    Walks prog w A I [I, l] [I] items.size (fun i v => items[items.size - 1 - i]? = some v) (fun i h => i ≤ items.size ∧ IsRv h I l ((items.size : Int) - 1 - (i : Int)) ∧ PyProof.Rows.IsTup h l items) where
  sub := fun b hb => by simp at hb; simp [hb]
  frame := fun _ _ _ x hk => ⟨x.1, x.2.1.at fun o e => hk I (by simp) o e, isTup_at x.2.2 fun o e => hk l (by simp) o e⟩
  item := fun i s Q E hi x hQ => by
    have e : (items.size : Int) - 1 - (i : Int) = ((items.size - 1 - i : Nat) : Int) := by omega
    have hit := x.2.1
    rw [e] at hit
    have hx : items[items.size - 1 - i]? = some (items[items.size - 1 - i]'(by omega)) := Array.getElem?_eq_getElem (by omega)
    refine next_rv_item hit x.2.2 hz hx fun h' tk hit' hs' => ?_
    have e2 : ((items.size - 1 - i : Nat) : Int) - 1 = (items.size : Int) - 1 - ((i + 1 : Nat) : Int) := by omega
    rw [e2] at hit'
    exact hQ _ h' tk hx ⟨hi, hit', isTup_at x.2.2 fun o eo => (hs'.2 l hne).trans eo⟩ fun b o hb eo => hs'.extBut b o (fun h => hb (by simp [h])) eo
  done := fun s Q E x hQ => by
    have e : (items.size : Int) - 1 - (items.size : Int) = -1 := by omega
    have hit := x.2.1
    rw [e] at hit
    exact next_rv_end hh hit fun h' he' => hQ h' s.toks fun b o hb eo => he' b o (fun h => hb (by simp [h])) eo
  self := fun _ _ _ _ x hQ => iter_rv x.2.1 hQ
end
end Mine
namespace Mine
open PySem PySem.SeqAt

section
variable {prog : Program} {w : World} {A : Around} {E : Value → Shared → Prop} {s : Shared} {H : Addr → Prop}
theorem iter_rvs {x : Value} {ds : List D} (hx : Rep w.params s.heap H x (.tup ds)) (hh : A.handled = none) :
    wpAny (model prog w) A (call (.type "reversed") [x]) (fun v s₂ => wpAny (model prog w) A (pyIter v) (fun u s₃ => ∃ I, u = .ref I ∧ IterAt prog w A s H ds.reverse I s₃) E s₂) E s := by
  cases hx with
  | tup ho hn hl hr =>
    rename_i a vs n
    have e := hr.length
    simp only [Array.length_toList] at e
    have hz : (vs.size : Int) < 2 ^ 63 := by rw [e]; exact lt63 hl
    have hne : a ≠ s.heap.objs.size := Nat.ne_of_lt (Heap.lt_size ho)
    refine call_rev_tuple (isTup_of ho) hz fun tk => ?_
    have hI : IsRv (s.heap.push (rvO a ((vs.size : Int) - 1))) s.heap.objs.size a ((vs.size : Int) - 1) := ⟨_, Heap.get?_push_size _ rfl, rfl, rfl⟩
    refine iter_rv (s := { s with heap := s.heap.push (rvO a ((vs.size : Int) - 1)), toks := tk }) hI ⟨_, rfl, ⟨_, tk, s.drawn, rfl, fun _ _ e => Heap.gt_push_of_some _ e⟩, fresh_size _, ⟨_, Heap.gt_push_size _ rfl⟩, ?_⟩
    have hlen : ds.reverse.length = vs.size := by rw [List.length_reverse, e]
    refine ⟨_, _, _, hlen ▸ walks_rv hh s.heap.objs.size a hne vs hz, ?_, ?_, ?_, ?_, ?_⟩
    · refine ⟨Nat.zero_le _, ?_, isTup_at (isTup_of ho) fun o e => Heap.get?_push_of_some _ e⟩
      rw [Int.natCast_zero, Int.sub_zero, hlen]; exact hI
    · intro b hb
      simp only [List.mem_cons, List.not_mem_nil, or_false] at hb
      rcases hb with rfl | rfl
      · exact .inl rfl
      · exact .inr ⟨hn, _, Heap.gt_of ho⟩
    · intro i v hi hv
      rw [hlen] at hi
      have hi' : ds.length - 1 - i < ds.length := by omega
      obtain ⟨v', h1, h2⟩ := hr.get (ds.length - 1 - i) (List.getElem?_eq_getElem hi')
      have : v' = v := by
        rw [hlen] at hv
        rw [Array.getElem?_toList, ← e, hv] at h1; cases h1; rfl
      refine ⟨_, ?_, this ▸ h2⟩
      rw [List.getElem?_reverse (by omega)]
      exact List.getElem?_eq_getElem hi'
    · rintro i h ⟨_, ⟨o, e, c1, _⟩, _⟩; exact ⟨_, Heap.gt_of e (notTab_cls (by rw [c1]; nofun) (by rw [c1]; simp))⟩
    · rintro b hb i h o ⟨_, ⟨o1, e1, c1, _⟩, ⟨o2, e2, c2, _⟩⟩ e
      simp only [List.mem_cons, List.not_mem_nil, or_false] at hb
      rcases hb with rfl | rfl
      · rw [e1] at e; cases e; exact notTab_cls (by rw [c1]; nofun) (by rw [c1]; simp)
      · rw [e2] at e; cases e; exact notTab_cls (by rw [c2]; nofun) (by rw [c2]; simp)
end
end Mine
namespace Mine
open PySem PySem.SeqAt

theorem freeze_nil : ∀ (σ : St), freeze [] σ = σ
  | [] => rfl
  | (x, (o, d)) :: r => by
    have := freeze_nil r
    unfold freeze at this ⊢
    rw [List.map_cons, this]
    simp
theorem settle_nil (d : D) (σ : St) : settle d [] σ = σ := by
  unfold settle
  split
  · rfl
  · exact freeze_nil σ
theorem less_nil (own : Own) : own.less [] = own := by
  funext x
  simp [Own.less]

section
variable {prog : Program} {w : World} {A : Around} {base : Heap} {mg mb : Str → Option Value} {cf : CF}
variable {ent h h' : Heap} {env : Env} {H₀ : Addr → Prop} {own : Own} {m : Str → Option Value} {σ : St} {I : Addr}

theorem hot_add {b : Addr} (q : Hot env (fun b => H₀ b ∨ b = I) own b) : Hot env H₀ own b ∨ b = I := by
  rcases q with (q | q) | q | q | q
  · exact .inl (.inl q)
  · exact .inr q
  · exact .inl (.inr (.inl q))
  · exact .inl (.inr (.inr (.inl q)))
  · exact .inl (.inr (.inr (.inr q)))
theorem hot_sub {b : Addr} (q : Hot env H₀ own b) : Hot env (fun b => H₀ b ∨ b = I) own b := by
  rcases q with q | q | q | q
  · exact .inl (.inl q)
  · exact .inr (.inl q)
  · exact .inr (.inr (.inl q))
  · exact .inr (.inr (.inr q))

theorem StOk.addH (S : StOk w base ent h env H₀ own m σ) (hk : KH h h') (hI : gat h I = none) (hIx : ∃ o, gat h' I = some o) :
    StOk w base ent h' env (fun b => H₀ b ∨ b = I) own m σ := by
  have S' := S.keeps hk
  have hH : ∀ b o, gat h b = some o → Hot env (fun b => H₀ b ∨ b = I) own b → Hot env H₀ own b := fun b o e q => (hot_add q).elim id fun q => by rw [q, hI] at e; cases e
  refine ⟨S'.rep, fun x d e => ?_, fun x d e => ?_, ⟨S'.hot.keep, fun b q => ?_, fun b o e q => S.hot.off b o e (hH b o (S.hot.keep b o e) q)⟩, S'.keep, S.frE, fun x a e => ?_, S.inj, S'.ownx⟩
  · obtain ⟨v, h1, h2⟩ := S.plain x d e
    exact ⟨v, h1, h2.mono (fun b o _ e => hk b o e) hH⟩
  · obtain ⟨a, h1, h2, h4⟩ := S.owned x d e
    exact ⟨a, h1, h2, h4.mono (fun o e => hk _ o e) (fun b o _ e => hk b o e) fun b o e q => .inl (hH b o e q)⟩
  · rcases hot_add q with q | q
    · exact S'.hot.ex b q
    · obtain ⟨o, ho⟩ := hIx
      exact ⟨I, o, q ▸ Nat.le_refl _, ho⟩
  · obtain ⟨g1, g2, g3⟩ := S.own1 x a e
    refine ⟨g1, fun q => q.elim g2 fun q => ?_, g3⟩
    obtain ⟨o, ho⟩ := S.ownx x a e
    rw [q, hI] at ho; cases ho

/-- only I has turned -/
theorem StOk.turnI (S : StOk w base ent h env (fun b => H₀ b ∨ b = I) own m σ) (hk : ∀ b o, b ≠ I → gat h b = some o → gat h' b = some o) (hIx : ∃ o, gat h' I = some o) (hf : ¬ frm env I) (hE : gat ent I = none) :
    StOk w base ent h' env (fun b => H₀ b ∨ b = I) own m σ := by
  have IH : Hot env (fun b => H₀ b ∨ b = I) own I := .inl (.inr rfl)
  have k2 : ∀ b o, ¬ Hot env (fun b => H₀ b ∨ b = I) own b → gat h b = some o → gat h' b = some o := fun b o hn e => hk b o (fun q => hn (q ▸ IH)) e
  have k3 : ∀ b o, gat h b = some o → ∃ o', gat h' b = some o' := fun b o e => by
    by_cases q : b = I
    · exact q ▸ hIx
    · exact ⟨o, hk b o q e⟩
  refine ⟨S.rep.keepsAt fun b o hb e => hk b o (fun q => hf (q ▸ hb)) e, fun x d e => ?_, fun x d e => ?_, ⟨fun b o e => k2 b o (S.hot.off b o e) (S.hot.keep b o e), fun b q => ?_, S.hot.off⟩, fun b o e => hk b o (fun q => by rw [q, hE] at e; cases e) (S.keep b o e), S.frE, S.own1, S.inj, fun x a e => (fun ⟨o, ho⟩ => k3 a o ho) (S.ownx x a e)⟩
  · obtain ⟨v, h1, h2⟩ := S.plain x d e
    exact ⟨v, h1, h2.mono k2 fun _ _ _ q => q⟩
  · obtain ⟨a, h1, h2, h4⟩ := S.owned x d e
    exact ⟨a, h1, h2, h4.mono (fun o e => hk _ o (fun q => (S.own1 x a h1).2.1 (.inr q)) e) k2 fun b o e q => .inl q⟩
  · obtain ⟨b', o, hb, ho⟩ := S.hot.ex b q
    obtain ⟨o', ho'⟩ := k3 b' o ho
    exact ⟨b', o', hb, ho'⟩

/-- the loop is left: I is nobody's -/
theorem StOk.leave (S : StOk w base ent h env (fun b => H₀ b ∨ b = I) own m σ) (hk : ∀ b o, b ≠ I → gat h b = some o → gat h' b = some o) (hx : Ex h' H₀) (hf : ¬ frm env I) (hE : gat ent I = none) :
    StOk w base ent h' env H₀ own m σ := by
  have IH : Hot env (fun b => H₀ b ∨ b = I) own I := .inl (.inr rfl)
  have k2 : ∀ b o, ¬ Hot env (fun b => H₀ b ∨ b = I) own b → gat h b = some o → gat h' b = some o := fun b o hn e => hk b o (fun q => hn (q ▸ IH)) e
  have ownk : ∀ x a, own x = some a → ∃ o, gat h' a = some o := fun x a e => by
    obtain ⟨o, ho⟩ := S.ownx x a e
    exact ⟨o, hk a o (fun q => (S.own1 x a e).2.1 (.inr q)) ho⟩
  have R : EnvRep h' env m := S.rep.keepsAt fun b o hb e => hk b o (fun q => hf (q ▸ hb)) e
  refine ⟨R, fun x d e => ?_, fun x d e => ?_, ⟨fun b o e => k2 b o (S.hot.off b o e) (S.hot.keep b o e), fun b q => ?_, fun b o e q => S.hot.off b o e (hot_sub q)⟩, fun b o e => hk b o (fun q => by rw [q, hE] at e; cases e) (S.keep b o e), S.frE, fun x a e => ?_, S.inj, ownk⟩
  · obtain ⟨v, h1, h2⟩ := S.plain x d e
    exact ⟨v, h1, h2.mono k2 fun _ _ _ q => hot_sub q⟩
  · obtain ⟨a, h1, h2, h4⟩ := S.owned x d e
    exact ⟨a, h1, h2, h4.mono (fun o e => hk _ o (fun q => (S.own1 x a h1).2.1 (.inr q)) e) k2 fun b o e q => .inl (hot_sub q)⟩
  · rcases q with q | q | q | ⟨y, q⟩
    · exact hx b q
    · obtain ⟨o, ho⟩ := frame_ex R (.inl q); exact ⟨b, o, Nat.le_refl _, ho⟩
    · obtain ⟨o, ho⟩ := frame_ex R (.inr q); exact ⟨b, o, Nat.le_refl _, ho⟩
    · obtain ⟨o, ho⟩ := ownk y b q; exact ⟨b, o, Nat.le_refl _, ho⟩
  · obtain ⟨g1, g2, g3⟩ := S.own1 x a e
    exact ⟨g1, fun q => g2 (.inl q), g3⟩

theorem ss_ret (G : GOk mg mb base) (C : CSound prog w base mg cf A) (hh : A.handled = none) (hu : Room A) (e : ME) : SS prog w A base cf (.ret e) := by
  intro s env st H₀ ent own m σ r E hc S hev
  replace hc := inv_ret hc; obtain ⟨_, _, rfl, hc⟩ := hc
  · rename_i v pos
    have gen : ∀ d fr, evF cf (vis σ) e = some (d, fr) → wpAny (model prog w) A (exec (.Return (some v) pos) env) (SPost w base ent env H₀ s own (.ret fr d, σ)) E s := by
      intro d fr hd
      refine wpAny_Return_some (wpAny_mono ((all_E G C hh hu e).2.2 s env v _ (vis σ) m d fr E hc S.rep (S.freeze e.names).hot (S.nv e.names) hd) (fun u s₁ q => ?_) fun _ _ e => e)
      obtain ⟨⟨h₁, tk₁, dw₁, rfl, hk⟩, rv, hfr⟩ := q
      refine ⟨h₁, tk₁, dw₁, rfl, fun b o e _ _ => hk b o e, fun b o e => ⟨o, hk b o e⟩, u, rfl, rv.sub fun _ q => .inl q, fun b o e => hk b o (S.keep b o e), fun hf => ?_⟩
      obtain ⟨a, e1, e3, e4⟩ := hfr hf
      refine ⟨a, e1, ?_, e4.mono (fun _ e => e) (fun _ _ _ e => e) fun _ _ _ q => .inl (.inl q)⟩
      cases q : gat ent a with
      | none => rfl
      | some o => rw [S.keep a o q] at e3; cases e3
    simp only [xs_assign, xs_append, xs_setk, xs_ite, xs_for_, xs_ret, xs_bad] at hev
    split at hev
    · rename_i x
      split at hev
      · rename_i fr d hd
        cases hev
        have hv : (vis σ).lookup x = some d := by rw [lookup_vis, hd]; rfl
        cases fr with
        | false => exact gen d false (by show (evE cf (vis σ) (.var _)).map _ = _; simp only [ev_var, ev_glob, ev_int, ev_str, ev_bool, ev_none, ev_bin, ev_cmp, ev_bop, ev_not, ev_neg, ev_tup, ev_lst, ev_dct, ev_sub, ev_sl, ev_comp, ev_call, ev_isi, ev_blt, ev_lcp, hv]; rfl)
        | true =>
          obtain ⟨a, q1, q2, q4⟩ := S.owned x d hd
          replace hc := inv_var hc; obtain ⟨_, _, rfl, hc⟩ := hc
          · simp only [Bool.and_eq_true, beq_iff_eq] at hc
            obtain ⟨rfl, hvar⟩ := hc
            obtain ⟨g1, g2, g3⟩ := S.own1 x a q1
            have q5 : OwnD w.params s.heap H₀ a d := q4.mono (fun _ e => e) (fun _ _ _ e => e) fun _ _ _ q => .inl (.inl q)
            refine wpAny_Return_some (load_snd S.rep hvar q2 ?_)
            exact ⟨s.heap, s.toks, s.drawn, rfl, fun b o e _ _ => e, fun b o e => ⟨o, e⟩, _, rfl, q5.rep g2, S.keep, fun _ => ⟨a, rfl, g1, q5⟩⟩
      · cases hev
    · split at hev
      · rename_i d fr hd
        cases hev
        exact gen d fr hd
      · cases hev

theorem ss_append (G : GOk mg mb base) (C : CSound prog w base mg cf A) (hh : A.handled = none) (hu : Room A) (x : String) (e : ME) : SS prog w A base cf (.append x e) := by
  intro s env st H₀ ent own m σ r E hc S hev
  replace hc := inv_append hc; obtain ⟨_, _, _, _, _, _, _, rfl, hc⟩ := hc
  · rename_i y yp at_ ap a p pos
    simp only [Bool.and_eq_true, beq_iff_eq] at hc
    obtain ⟨⟨⟨⟨rfl, hst⟩, rfl⟩, hline⟩, hc⟩ := hc
    simp only [xs_assign, xs_append, xs_setk, xs_ite, xs_for_, xs_ret, xs_bad] at hev
    split at hev
    · rename_i d hd
      obtain ⟨own', S', hsub, hcase⟩ := S.settle d e.names
      split at hev
      · rename_i ds hds
        split at hev
        · rename_i hlen
          cases hev
          obtain ⟨L, q1, q2, vs, n, q4, q5, q6⟩ := S'.owned x _ hds
          have hvar : isVar env.kindOf (Str.ofString x) = true := by unfold isStore at hst; simp only [Bool.and_eq_true] at hst; exact hst.2
          have hstar : starEach [a] env = [(false, eval a env)] := spliced_ok (es := [a]) (ms := [e]) (k := env.kindOf) (by simp [cs_nil, cs_cons, cs_consn, hc]) env
          refine wpAny_Expr (wpAny_Call_append rfl (by rw [hstar]; rfl) (by simpa using hline) (by rw [hstar]; rfl) (load_snd S.rep hvar q2 ⟨L, vs, rfl, ⟨_, n, q4, rfl, rfl, rfl⟩, ?_⟩)) (by unfold interactive; rw [S.rep.kind]; rfl) rfl
          refine wpAny_mono ((all_E G C hh hu e).1 s env a _ (vis σ) m d E hc S.rep (S.freeze e.names).hot (S.nv e.names) hd) (fun u s₁ q => ?_) fun _ _ e => e
          obtain ⟨⟨h₁, tk₁, dw₁, rfl, hk⟩, rv⟩ := q
          have rv' : Rep w.params h₁ (Hot env H₀ own') u d := by
            rcases hcase with ⟨e1, _⟩ | ⟨_, e2⟩
            · exact rv.scalar e1
            · rw [e2]; exact rv
          have e1 := q6.length
          simp only [Array.length_toList] at e1
          refine wpAny_list_append_plain (items := vs) ⟨n, Heap.of_gt (hk _ _ (Heap.gt_of q4))⟩ (fun h₂ hl₂ hs₂ => ?_) (by rw [e1]; exact q5)
          have hl₂' : ∃ n', h₂.get? L = some (lstO (vs.push u) n') := hl₂
          have nt : ∀ o, h₁.get? L = some o → isTab o = false := notTab_at (Heap.of_gt (hk _ _ (Heap.gt_of q4)))
          have S₂ := (S'.keeps hk).append (x := x) (d := d) (v := u) hds q1 (Heap.of_gt (hk _ _ (Heap.gt_of q4))) (q6.keeps hk) rv' (by simp; omega) hs₂ hl₂'
          refine ⟨h₂, tk₁, dw₁, rfl, fun b o e hf ho => ?_, fun b o e => ?_, rfl, own', m, S₂, fun y a e => .inl (hsub y a e)⟩
          · exact g1 hs₂ nt b (fun q => ho x (hsub x b (q ▸ q1))) (hk b o e)
          · by_cases q : b = L
            · obtain ⟨n', e'⟩ := hl₂'; exact ⟨_, q ▸ Heap.gt_of e'⟩
            · exact ⟨o, g1 hs₂ nt b q (hk b o e)⟩
        · cases hev
      · cases hev
    · cases hev

theorem Hot.mono {env : Env} {H₀ : Addr → Prop} {own own' : Own} (hs : ∀ x a, own' x = some a → own x = some a) {b : Addr} (h : Hot env H₀ own' b) : Hot env H₀ own b :=
  h.imp id fun h => h.imp id fun h => h.imp id fun ⟨x, h⟩ => ⟨x, hs x b h⟩
theorem ss_setk (G : GOk mg mb base) (C : CSound prog w base mg cf A) (hh : A.handled = none) (hu : Room A) (x : String) (ke e : ME) : SS prog w A base cf (.setk x ke e) := by
  intro s env st H₀ ent own m σ r E hc S hev
  replace hc := inv_setk hc; obtain ⟨y, yp, i, p, v, pos, rfl, hc⟩ := hc
  simp only [Bool.and_eq_true, beq_iff_eq] at hc
  obtain ⟨⟨⟨rfl, hst⟩, hci⟩, hcv⟩ := hc
  simp only [xs_assign, xs_append, xs_setk, xs_ite, xs_for_, xs_ret, xs_bad] at hev
  split at hev
  · rename_i d hd
    split at hev
    · rename_i dk hdk
      obtain ⟨own1, S1, hsub1, hcase1⟩ := S.settle d e.names
      obtain ⟨own', S', hsub2, hcase2⟩ := S1.settle dk ke.names
      split at hev
      · rename_i ks vs hds
        split at hev
        · rename_i hcond
          cases hev
          simp only [Bool.and_eq_true, decide_eq_true_eq] at hcond
          obtain ⟨L, q1, q2, o⟩ := S'.owned x _ hds
          have hvar : isVar env.kindOf (Str.ofString x) = true := by unfold isStore at hst; simp only [Bool.and_eq_true] at hst; exact hst.2
          refine wpAny_Assign_Subscript (wpAny_mono ((all_E G C hh hu e).1 s env v _ (vis σ) m d E hcv S.rep (S.freeze e.names).hot (S.nv e.names) hd) (fun u s₁ q => ?_) fun _ _ e => e) (by cases v <;> rfl)
          obtain ⟨⟨h₁, tk₁, dw₁, rfl, hk⟩, rv⟩ := q
          refine load_snd (s := { s with heap := h₁, toks := tk₁, drawn := dw₁ }) (S.rep.keeps hk) hvar q2 ?_
          have Sk := S.keeps hk
          refine wpAny_mono ((all_E G C hh hu ke).1 { s with heap := h₁, toks := tk₁, drawn := dw₁ } env i _ (vis σ) m _ E hci Sk.rep (Sk.freeze ke.names).hot (Sk.nv ke.names) hdk) (fun kv s₂ q => ?_) fun _ _ e => e
          obtain ⟨⟨h₂, tk₂, dw₂, rfl, hk2⟩, rk⟩ := q
          have k02 : KH s.heap h₂ := fun b o e => hk2 b o (hk b o e)
          have LHot : ∀ b, Hot env H₀ own' b ∨ b = L → Hot env H₀ own' b := fun b q => q.elim id fun q => q ▸ .inr (.inr (.inr ⟨x, q1⟩))
          have rv' : Rep w.params h₂ (fun b => Hot env H₀ own' b ∨ b = L) u d := by
            rcases hcase1 with ⟨e1, _⟩ | ⟨_, e2⟩
            · exact rv.scalar e1
            · exact rv.mono (fun b o _ e => hk2 b o e) fun b o _ q => e2 ▸ (LHot b q).mono hsub2
          have rk' : Rep w.params h₂ (fun b => Hot env H₀ own' b ∨ b = L) kv dk := by
            rcases hcase2 with ⟨e1, _⟩ | ⟨_, e2⟩
            · exact rk.scalar e1
            · refine rk.sub fun b q => ?_
              have q := LHot b q
              rw [e2] at q
              exact q.mono fun x a e => by unfold Own.less at e ⊢; split at e <;> first | cases e | (rename_i hx; rw [if_neg hx]; exact hsub1 x a e)
          refine setItem_own (s := { s with heap := h₂, toks := tk₂, drawn := dw₂ }) hu.u1 ((S'.keeps k02).ownM hds q1) rk' rv' hcond.1 hcond.2 fun h' tk dw hs own2 => ?_
          have S₂ := (S'.keeps k02).turn hds q1 hs (d := .dict _ _) own2
          have nt : ∀ o, h₂.get? L = some o → isTab o = false := OwnD.notTab (d := .dict _ _) ((S'.keeps k02).ownM hds q1)
          refine ⟨h', tk, dw, rfl, fun b o e hf ho => ?_, fun b o e => ?_, rfl, own', m, S₂, fun y a e => .inl (hsub1 y a (hsub2 y a e))⟩
          · exact g1 hs nt b (fun q => ho x (hsub1 x b (hsub2 x b (q ▸ q1)))) (k02 b o e)
          · by_cases q : b = L
            · obtain ⟨es', n', r1, _⟩ := own2
              exact ⟨_, q ▸ Heap.gt_of r1⟩
            · exact ⟨o, g1 hs nt b q (k02 b o e)⟩
        · cases hev
      · cases hev
    · cases hev
  · cases hev

theorem sss_nil : SSs prog w A base cf [] := by
  intro s env ss H₀ ent own m σ r E hc S hev
  cases ss with
  | nil =>
    simp only [xss_nil, xss_cons] at hev; cases hev
    exact wpAny_execs_nil ⟨s.heap, s.toks, s.drawn, rfl, fun b o e _ _ => e, fun b o e => ⟨o, e⟩, rfl, own, m, S, fun x a e => .inl e⟩
  | cons _ _ => simp [css_nil, css_cons, css_consn] at hc
theorem sss_cons {a : MS} {l : List MS} (ha : SS prog w A base cf a) (hl : SSs prog w A base cf l) : SSs prog w A base cf (a :: l) := by
  intro s env ss H₀ ent own m σ r E hc S hev
  cases ss with
  | nil => simp [css_nil, css_cons, css_consn] at hc
  | cons st ss' =>
    simp only [css_nil, css_cons, css_consn, Bool.and_eq_true] at hc
    simp only [xss_nil, xss_cons] at hev
    split at hev
    · rename_i σ₁ h1
      refine wpAny_execs_cons (wpAny_mono (ha s env st H₀ ent own m σ _ E hc.1 S h1) (fun f s₁ q => ?_) fun _ _ e => e)
      obtain ⟨h₁, tk₁, dw₁, rfl, k, x, rfl, own', m', S', hsub⟩ := q
      exact wpAny_mono (hl _ env ss' H₀ ent own' m' σ₁ r E hc.2 S' hev) (fun f s₂ q => q.trans h₁ tk₁ dw₁ rfl k x hsub) fun _ _ e => e
    · rename_i hne
      refine wpAny_execs_cons (wpAny_mono (ha s env st H₀ ent own m σ r E hc.1 S hev) (fun f s₁ q => ?_) fun _ _ e => e)
      obtain ⟨fl, σ₁⟩ := r
      cases fl with
      | next => exact absurd hev (hne σ₁)
      | ret fr d =>
        have q' := q
        obtain ⟨h₁, tk₁, dw₁, rfl, k, x, v, rfl, _⟩ := q
        exact q'

theorem ss_ite (G : GOk mg mb base) (C : CSound prog w base mg cf A) (hh : A.handled = none) (hu : Room A) {c : ME} {t f : List MS} (ht : SSs prog w A base cf t) (hf : SSs prog w A base cf f) : SS prog w A base cf (.ite c t f) := by
  intro s env st H₀ ent own m σ r E hc S hev
  replace hc := inv_ite hc; obtain ⟨_, _, _, _, rfl, hc⟩ := hc
  · rename_i v b o pos
    simp only [Bool.and_eq_true] at hc
    obtain ⟨⟨h1, h2⟩, h3⟩ := hc
    simp only [xs_assign, xs_append, xs_setk, xs_ite, xs_for_, xs_ret, xs_bad] at hev
    split at hev
    · rename_i d hd
      have run : ∀ tt, truth d = some tt → wpAny (model prog w) A (isTrue v env (eval v env)) (fun b s' => Keeps s s' ∧ b = tt) E s := fun tt htt =>
        (all_E G C hh hu c).2.1 s env v _ (vis σ) m d tt E h1 S.rep (S.freeze c.names).hot (S.nv c.names) hd htt
      split at hev
      · rename_i htt
        refine wpAny_If (wpAny_mono (run true htt) (fun b s₁ q => ?_) fun _ _ e => e)
        obtain ⟨⟨h₁, tk₁, dw₁, rfl, hk⟩, rfl⟩ := q
        simp only [if_true]
        exact wpAny_mono (ht _ env _ H₀ ent own m σ r E h2 (S.keeps hk) hev) (fun f s₂ q => q.trans h₁ tk₁ dw₁ rfl (fun b o e _ _ => hk b o e) (fun b o e => ⟨o, hk b o e⟩) fun x a e => .inl e) fun _ _ e => e
      · rename_i htt
        refine wpAny_If (wpAny_mono (run false htt) (fun b s₁ q => ?_) fun _ _ e => e)
        obtain ⟨⟨h₁, tk₁, dw₁, rfl, hk⟩, rfl⟩ := q
        simp only [Bool.false_eq_true, if_false]
        exact wpAny_mono (hf _ env _ H₀ ent own m σ r E h3 (S.keeps hk) hev) (fun f s₂ q => q.trans h₁ tk₁ dw₁ rfl (fun b o e _ _ => hk b o e) (fun b o e => ⟨o, hk b o e⟩) fun x a e => .inl e) fun _ _ e => e
      · cases hev
    · cases hev

/-- what holds ahead of each turn of a loop -/
structure ForI (w : World) (base ent h2 : Heap) (env : Env) (H₀ : Addr → Prop) (I : Addr) (own : Own) (its : List D) (Stt : Nat → Heap → Prop) (bf : D → St → Option (Fl × St)) (r : Fl × St) (s : Shared) (k : Nat) (s' : Shared) (h : Heap) (tk : Nat) (dw : Drawn) (done rest : List D) (own' : Own) (m' : Str → Option Value) (σ' : St) : Prop where
  e : s' = { s with heap := h, toks := tk, drawn := dw }
  dr : its = done ++ rest
  st : Stt done.length h
  S : StOk w base ent h env (fun b => H₀ b ∨ b = I) own' m' σ'
  o1 : ∀ z a, own' z = some a → own z = some a ∨ gat h2 a = none
  k1 : ∀ b o, gat h2 b = some o → ¬ frm env b → (∀ z, own z ≠ some b) → b ≠ I → gat h b = some o
  x1 : ∀ b o, gat h2 b = some o → b ≠ I → ∃ o', gat h b = some o'
  fr : forD bf rest σ' = some r
  kn : k = rest.length + 1
theorem for_core (hh : A.handled = none) {x : String} {y : Str} {yp pos : Pos} {it : Expr} {b : List Stmt} {ns : List String} {its : List D} {body : List MS} (hb : SSs prog w A base cf body)
    {s : Shared} {env : Env} {H₀ : Addr → Prop} {ent : Heap} {own : Own} {m : Str → Option Value} {σ : St} {r : Fl × St} {E : Value → Shared → Prop} (S : StOk w base ent s.heap env H₀ own m σ) (ey : y = Str.ofString x) (hst : isStore env.kindOf y = true) (hset : notSet it = true) (hcb : chkSs env.kindOf b body = true)
    (hsrc : wpAny (model prog w) A (eval it env) (fun xv s₁ => wpAny (model prog w) A (pyIter xv) (fun itv s₂ => ∃ s₁ I, Keeps s s₁ ∧ itv = .ref I ∧ IterAt prog w A s₁ (Hot env H₀ (own.less ns)) its I s₂) E s₁) E s)
    (hev : forD (fun it σ => exSs cf body (setv σ x (false, it))) its (freeze ns σ) = some r) : wpAny (model prog w) A (exec (.For (.Name y yp) it b [] pos) env) (SPost w base ent env H₀ s own r) E s := by
  subst ey
  have S0 := S.freeze ns
  refine wpAny_For (wpAny_mono hsrc (fun xv s₁ q₁ => wpAny_mono q₁ (fun itv s₂ q₂ => ?_) fun _ _ e => e) fun _ _ e => e) (notSet_folded hset)
  obtain ⟨s₁, I, k01, rfl, IA⟩ := q₂
  obtain ⟨fp, P, Stt, W, hst0, hfp, hP, hlive, hT⟩ := IA.walk
  obtain ⟨h2, tk2, dw2, rfl, k12⟩ := IA.keeps
  obtain ⟨h1, tk1, dw1, rfl, k01⟩ := k01
  dsimp only at k12 k01 hfp hP hst0
  have hIf : gat h1 I = none := IA.fresh
  have hIx : ∃ o, gat h2 I = some o := IA.ex
  have S1 := S0.keeps k01
  have S2 := S1.addH (I := I) k12 hIf hIx
  have fex : ∀ c, frm env c → ∃ o, gat h1 c = some o := fun c hc => frame_ex S1.rep hc
  have nIf : ¬ frm env I := fun q => by obtain ⟨o, e⟩ := fex I q; rw [hIf] at e; cases e
  have nIe : gat ent I = none := by
    cases q : gat ent I with
    | none => rfl
    | some o => rw [k01 I o (S.keep I o q)] at hIf; cases hIf
  have sub0 : ∀ z a, (own.less ns) z = some a → own z = some a := fun z a e => by unfold Own.less at e; split at e <;> first | cases e | exact e
  have e02 : KH s.heap h2 := fun b o e => k12 b o (k01 b o e)
  have nIs : ∀ b o, gat h1 b = some o → b ≠ I := fun b o e q => by rw [q, hIf] at e; cases e
  have body1 : ∀ dv σ', (fun it σ => exSs cf body (setv σ x (false, it))) dv σ' = exSs cf body (setv σ' x (false, dv)) := fun _ _ => rfl
  refine codeAny_forLoop (fun k s' => ∃ h tk dw done rest own' m' σ', ForI w base ent h2 env H₀ I (own.less ns) its Stt (fun it σ => exSs cf body (setv σ x (false, it))) r s k s' h tk dw done rest own' m' σ') ?_ (its.length + 1)
    ⟨h2, tk2, dw2, [], its, _, m, _, rfl, rfl, hst0, S2, fun z a e => .inl e, fun b o e _ _ _ => e, fun b o e _ => ⟨o, e⟩, hev, rfl⟩
  rintro k s' ⟨h, tk, dw, done, rest, own', m', σ', rfl, hdr, hstt, S', o1, k1, x1, hfor, rfl⟩
  cases rest with
  | nil =>
    simp only [List.append_nil] at hdr
    subst hdr
    refine W.done _ _ _ hstt fun h' tk' hk' => ?_
    replace hk' := walk_lift W hT hstt hk'
    simp only [forD] at hfor; cases hfor
    have hk'' : ∀ b o, b ≠ I → gat h b = some o → gat h' b = some o := fun b o hb e => hk' b o (by simpa using hb) e
    have hE' : Ex h' H₀ := fun c hc => by
      obtain ⟨b', o, hb, ho⟩ := S.hot.ex c (.inl hc)
      obtain ⟨o', ho'⟩ := x1 b' o (e02 b' o ho) (nIs b' o (k01 b' o ho))
      exact ⟨b', o', hb, hk'' b' o' (nIs b' o (k01 b' o ho)) ho'⟩
    have S3 := S'.leave hk'' hE' nIf nIe
    refine wpAny_execs_nil ⟨h', tk', dw, rfl, fun b o e hf ho => ?_, fun b o e => ?_, rfl, own', m', S3, fun z a e => ?_⟩
    · exact hk'' b o (nIs b o (k01 b o e)) (k1 b o (e02 b o e) hf (fun z q => ho z (sub0 z b q)) (nIs b o (k01 b o e)))
    · obtain ⟨o', ho'⟩ := x1 b o (e02 b o e) (nIs b o (k01 b o e))
      exact ⟨o', hk'' b o' (nIs b o (k01 b o e)) ho'⟩
    · rcases o1 z a e with q | q
      · exact .inl (sub0 z a q)
      · right
        cases q' : gat s.heap a with
        | none => rfl
        | some o => rw [e02 a o q'] at q; cases q
  | cons dv rest' =>
    have hlt : done.length < its.length := by rw [hdr]; simp
    refine W.item done.length _ _ _ hlt hstt fun v h₁ tk₁ hPv hst₁ hk₁ => ?_
    replace hk₁ := walk_lift W hT hstt hk₁
    obtain ⟨dv', e1, rv⟩ := hP _ v hlt hPv
    have : dv' = dv := by
      rw [hdr] at e1
      simpa using e1.symm
    subst this
    have hk₁' : ∀ b o, b ≠ I → gat h b = some o → gat h₁ b = some o := fun b o hb e => hk₁ b o (by simpa using hb) e
    have SI := S'.turnI hk₁' (hlive _ _ hst₁) nIf nIe
    have hot0 : ∀ b o, gat h1 b = some o → Hot env (fun b => H₀ b ∨ b = I) own' b → Hot env H₀ (own.less ns) b := by
      intro b o e q
      rcases hot_add q with q | q
      · rcases q with q | q | q | ⟨z, q⟩
        · exact .inl q
        · exact .inr (.inl q)
        · exact .inr (.inr (.inl q))
        · rcases o1 z b q with q | q
          · exact .inr (.inr (.inr ⟨z, q⟩))
          · rw [k12 b o e] at q; cases q
      · exact absurd q (nIs b o e)
    have kk1 : ∀ b o, ¬ Hot env H₀ (own.less ns) b → gat h1 b = some o → gat h₁ b = some o := fun b o hn e =>
      hk₁' b o (nIs b o e) (k1 b o (k12 b o e) (fun q => hn (.inr (q.elim .inl fun q => .inr (.inl q)))) (fun z q => hn (.inr (.inr (.inr ⟨z, q⟩)))) (nIs b o e))
    have rv' : Rep w.params h₁ (Hot env (fun b => H₀ b ∨ b = I) own') v dv' := rv.mono kk1 hot0
    refine wpAny_assign_Name (store_snd (s := { s with heap := h₁, toks := tk₁, drawn := dw }) SI.rep (isStore_kind hst) fun h₂ tk₂ dw₂ a R₂ ha hs => ?_)
    have ha' : frm env a := ha.imp id fun e => ⟨_, e⟩
    have q3 := store_core (s := { s with heap := h₁, toks := tk₁, drawn := dw }) (x := x) (ns := []) (d := dv') (fr := false) (v := v) (h₁ := h₁) (h₂ := h₂) (a := a) (X := fun _ => False) (tk := tk₂) (dw := dw₂) SI (fun _ _ e => e)
      (by rw [less_nil]; exact rv'.sub fun _ q => q.elim id False.elim) (fun e => by cases e) R₂ ha' (fun _ q => q.elim) fun b hb _ _ e => (hs.g b hb).trans e
    rw [settle_nil] at q3
    obtain ⟨h₂', tk₂', dw₂', e₂, k3, x3, _, own₂, m₂, S₂, o2⟩ := q3
    have e4 : h₂ = h₂' := congrArg Shared.heap e₂
    subst e4
    have e5 : tk₂ = tk₂' := congrArg Shared.toks e₂
    have e6 : dw₂ = dw₂' := congrArg Shared.drawn e₂
    subst e5
    have aI : a ≠ I := fun q => nIf (q ▸ ha')
    have hst₂ : Stt (done.length + 1) h₂ := walks_frame W hT _ _ _ hst₁ fun b hb o' e => by
      refine (hs.g b fun q => ?_).trans e
      rcases hfp b hb with e2 | ⟨hn2, o2', e2⟩
      · exact aI (q ▸ e2)
      · exact hn2 (.inr (((q ▸ ha') : frm env b).elim .inl fun q => .inr (.inl q)))
    -- what the body finds
    have keep2 : ∀ b o, gat h2 b = some o → ¬ frm env b → (∀ z, (own.less ns) z ≠ some b) → b ≠ I → gat h₂ b = some o := fun b o e hf ho hI => (hs.g b fun q => hf (q ▸ ha')).trans (hk₁' b o hI (k1 b o e hf ho hI))
    have ex2 : ∀ b o, gat h2 b = some o → b ≠ I → ∃ o', gat h₂ b = some o' := fun b o e hI => by
      obtain ⟨o', e'⟩ := x1 b o e hI
      obtain ⟨o'', e''⟩ := x3 b o' (hk₁' b o' hI e')
      exact ⟨o'', e''⟩
    have own2 : ∀ z c, own₂ z = some c → (own.less ns) z = some c ∨ gat h2 c = none := fun z c e => by
      rcases o2 z c e with q | q
      · exact o1 z c q
      · refine .inr ?_
        cases q' : gat h2 c with
        | none => rfl
        | some o =>
          by_cases hcI : c = I
          · obtain ⟨o', e'⟩ := hlive _ _ hst₁
            rw [hcI] at q
            have q : gat h₁ I = none := q
            rw [e'] at q; cases q
          · obtain ⟨o', e'⟩ := x1 c o q' hcI
            have q : gat h₁ c = none := q
            rw [hk₁' c o' hcI e'] at q; cases q
    simp only [forD] at hfor
    have go : ∀ (E' : Value → Shared → Prop) rb, exSs cf body (setv σ' x (false, dv')) = some rb → wpAny (model prog w) A (execs _ env) (SPost w base ent env (fun b => H₀ b ∨ b = I) { s with heap := h₂, toks := tk₂, drawn := dw₂ } own₂ rb) E' { s with heap := h₂, toks := tk₂, drawn := dw₂ } :=
      fun E' rb hrb => hb { s with heap := h₂, toks := tk₂, drawn := dw₂ } env _ _ ent own₂ m₂ _ rb E' hcb S₂ hrb
    cases hbody : exSs cf body (setv σ' x (false, dv')) with
    | none => rw [hbody] at hfor; cases hfor
    | some rb =>
      obtain ⟨fl, σ₂⟩ := rb
      rw [hbody] at hfor
      refine wpAny_mono (go _ _ hbody) (fun f s₃ q => ?_) fun _ _ e => e
      obtain ⟨h₃, tk₃, dw₃, rfl, k5, x5, q⟩ := q
      have hIx2 : ∃ o, gat h₂ I = some o := hlive _ _ hst₂
      have nIo : ∀ z, own₂ z ≠ some I := fun z q => (S₂.own1 z I q).2.1 (.inr rfl)
      have hst₃ : Stt (done.length + 1) h₃ := walks_frame W hT _ _ _ hst₂ fun b hb o' e => by
        rcases hfp b hb with e2 | ⟨hn2, o2', e2⟩
        · subst e2; exact k5 b o' e nIf nIo
        · refine k5 b o' e (fun q => hn2 (.inr (q.elim .inl fun q => .inr (.inl q)))) fun z q => ?_
          rcases own2 z b q with q | q
          · exact hn2 (.inr (.inr (.inr ⟨z, q⟩)))
          · rw [k12 b o2' e2] at q; cases q
      have keep3 : ∀ b o, gat h2 b = some o → ¬ frm env b → (∀ z, (own.less ns) z ≠ some b) → b ≠ I → gat h₃ b = some o := fun b o e hf ho hI => k5 b o (keep2 b o e hf ho hI) hf fun z q => by
        rcases own2 z b q with q | q
        · exact ho z q
        · rw [e] at q; cases q
      have ex3 : ∀ b o, gat h2 b = some o → b ≠ I → ∃ o', gat h₃ b = some o' := fun b o e hI => by
        obtain ⟨o', e'⟩ := ex2 b o e hI
        exact x5 b o' e'
      cases fl with
      | next =>
        obtain ⟨rfl, own₃, m₃, S₃, o3⟩ := q
        refine ⟨rest'.length + 1, by simp, h₃, tk₃, dw₃, done ++ [dv'], rest', own₃, m₃, σ₂, rfl, by rw [hdr]; simp, by simpa using hst₃, S₃, fun z c e => ?_, keep3, ex3, hfor, rfl⟩
        rcases o3 z c e with q | q
        · exact own2 z c q
        · refine .inr ?_
          cases q' : gat h2 c with
          | none => rfl
          | some o =>
            by_cases hcI : c = I
            · obtain ⟨o', e'⟩ := hIx2
              rw [hcI, e'] at q; cases q
            · obtain ⟨o', e'⟩ := ex2 c o q' hcI
              rw [e'] at q; cases q
      | ret fr dr =>
        cases hfor
        obtain ⟨u, rfl, q1, q2, q3⟩ := q
        refine ⟨h₃, tk₃, dw₃, rfl, fun b o e hf ho => keep3 b o (e02 b o e) hf (fun z q => ho z (sub0 z b q)) (nIs b o (k01 b o e)), fun b o e => ex3 b o (e02 b o e) (nIs b o (k01 b o e)), u, rfl, q1.sub fun _ q => .inl q, q2, fun hf => ?_⟩
        obtain ⟨c, g1, g3, g4⟩ := q3 hf
        exact ⟨c, g1, g3, g4.mono (fun _ e => e) (fun _ _ _ e => e) fun _ _ _ q => .inl (.inl q)⟩

theorem ss_for (G : GOk mg mb base) (C : CSound prog w base mg cf A) (hh : A.handled = none) (hu : Room A) {x : String} {src : ME} {body : List MS} (hb : SSs prog w A base cf body) : SS prog w A base cf (.for_ x src body) := by
  intro s env st H₀ ent own m σ r E hc S hev
  replace hc := inv_for hc; obtain ⟨_, _, _, _, _, rfl, hc⟩ := hc
  · rename_i y yp it b pos
    simp only [Bool.and_eq_true, beq_iff_eq] at hc
    obtain ⟨⟨⟨⟨rfl, hst⟩, hset⟩, hcs⟩, hcb⟩ := hc
    simp only [xs_assign, xs_append, xs_setk, xs_ite, xs_for_, xs_ret, xs_bad] at hev
    split at hev
    · rename_i d hd
      split at hev
      · rename_i its hits
        exact for_core hh hb S rfl hst hset hcb (wpAny_mono ((all_E G C hh hu src).1 s env it _ (vis σ) m d E hcs S.rep (S.freeze src.names).hot (S.nv src.names) hd) (fun xv s₁ q₁ => wpAny_mono (iter_snd q₁.2 hh hits) (fun itv s₂ q₂ => let ⟨I, e, IA⟩ := q₂; ⟨s₁, I, q₁.1, e, IA⟩) fun _ _ e => e) fun _ _ e => e) hev
      · cases hev
    · cases hev
theorem ss_forr (G : GOk mg mb base) (C : CSound prog w base mg cf A) (hh : A.handled = none) (hu : Room A) {x : String} {src : ME} {body : List MS} (hb : SSs prog w A base cf body) : SS prog w A base cf (.forr x src body) := by
  intro s env st H₀ ent own m σ r E hc S hev
  obtain ⟨y, yp, g, gp, a, cp, b, pos, rfl, h1, h2, hcs, hcb⟩ := inv_forr hc
  simp only [Bool.and_eq_true, beq_iff_eq, isGlob, bne_iff_ne] at h1 h2
  obtain ⟨rfl, hst⟩ := h1
  obtain ⟨rfl, hk, hd⟩ := h2
  rw [xs_forr] at hev
  split at hev
  · rename_i ds hds
    have hc2 : chkEs env.kindOf [a] [src] = true := by rw [cs_cons, hcs]; rfl
    have hw := (S.freeze src.names).hot
    refine for_core hh hb S rfl hst rfl hcb ?_ hev
    refine PyProof.Rows.Call_Name rfl (name_blt G (f := "reversed") (by decide) S.rep hw hk hd (callWith_blt hc2 (Calls.spliced_cons ?_)))
    refine wpAny_mono ((all_E G C hh hu src).1 s env a _ (vis σ) m _ E hcs S.rep hw (S.nv src.names) hds) (fun xv s₁ q₁ => Calls.spliced_nil ?_) fun _ _ e => e
    exact wpAny_mono (iter_rvs q₁.2 hh) (fun v s₂ q₂ => wpAny_mono q₂ (fun itv s₃ q₃ => let ⟨I, e, IA⟩ := q₃; ⟨s₁, I, q₁.1, e, IA⟩) fun _ _ e => e) fun _ _ e => e
  · cases hev
end
end Mine
namespace Mine
open PySem PySem.SeqAt
section
variable {prog : Program} {w : World} {A : Around} {base : Heap} {mg mb : Str → Option Value} {cf : CF}
mutual
theorem all_S (G : GOk mg mb base) (C : CSound prog w base mg cf A) (hh : A.handled = none) (hu : Room A) (ms : MS) : SS prog w A base cf ms := by
  match ms with
  | .assign x e => exact ss_assign G C hh hu x e
  | .append x e => exact ss_append G C hh hu x e
  | .setk x k e => exact ss_setk G C hh hu x k e
  | .bad => exact fun s env st H₀ ent own m σ r E hc S hev => by simp only [xs_assign, xs_append, xs_setk, xs_ite, xs_for_, xs_ret, xs_bad] at hev; cases hev
  | .ite c t f => exact ss_ite G C hh hu (all_Ss G C hh hu t) (all_Ss G C hh hu f)
  | .for_ x src body => exact ss_for G C hh hu (all_Ss G C hh hu body)
  | .forr x src body => exact ss_forr G C hh hu (all_Ss G C hh hu body)
  | .ret e => exact ss_ret G C hh hu e
termination_by structural ms
theorem all_Ss (G : GOk mg mb base) (C : CSound prog w base mg cf A) (hh : A.handled = none) (hu : Room A) (ms : List MS) : SSs prog w A base cf ms := by
  match ms with
  | [] => exact sss_nil
  | a :: r => exact sss_cons (all_S G C hh hu a) (all_Ss G C hh hu r)
termination_by structural ms
end
end
end Mine
namespace Mine
open PySem PySem.SeqAt

noncomputable def CodeR (h : Heap) (cd : Value) (q : Str) : Prop := ∃ c o vs t, cd = .ref c ∧ gat h c = some o ∧ o.cls = .type "code" ∧ o.data = .fields vs ∧ vs[1]? = some (.str q t)
theorem CodeR.rec {h : Heap} {cd : Value} {q : Str} (x : CodeR h cd q) : h.CodeRec cd q := let ⟨c, o, vs, t, h1, h2, hc, h3, h4⟩ := x; ⟨c, o, vs, t, h1, Heap.of_gt' h2 (by rw [hc]; nofun), h3, h4⟩
theorem CodeR.keeps {h h' : Heap} {cd : Value} {q : Str} (x : CodeR h cd q) (hk : KH h h') : CodeR h' cd q :=
  let ⟨c, o, vs, t, h1, h2, r⟩ := x; ⟨c, o, vs, t, h1, hk _ _ h2, r⟩
/-- a def of the text, and its mini form -/
structure FnAt (base : Heap) (mg : Str → Option Value) (f : String) (fn : Fn) (a : Addr) (o : Obj) (fd : FuncData) (body : List Stmt) : Prop where
  f1 : mg (Str.ofString f) = some (.ref a)
  f2 : gat base a = some o
  f3 : o.data = .func fd
  f4 : fd.body = .stmts body
  f5 : fd.closure = []
  f6 : fd.globals = mainGlobals
  f7 : fd.builtins = builtinsNs
  f8 : CodeR base fd.code fd.qualname
  f9 : fd.params.posonlyargs = []
  f10 : fd.params.kwonlyargs = []
  f11 : fd.params.vararg = none
  f12 : fd.params.kwarg = none
  f13 : fd.defaults = .none
  f14 : fd.params.args.map (·.arg) = fn.params.map Str.ofString
  f15 : fn.params.Nodup
  f16 : fd.scope.kind = .function
  f17 : fd.scope.isCoroutine = false
  f18 : fd.scope.isGenerator = false
  f19 : (fd.scope.names.map (·.1)).Nodup
  f20 : (∀ p ∈ fd.scope.names, p.2 ≠ .free)
  f21 : (∀ x ∈ fn.params, fd.scope.names.lookup (Str.ofString x) = some .local ∨ fd.scope.names.lookup (Str.ofString x) = some .cell)
  f22 : chkSs (fun x => fd.scope.names.lookup x) body fn.body = true
  f23 : (ordK (fun x => fd.scope.names.lookup x) = true → fd.code = .ref oc ∧ fd.qualname = lamN)
structure FnOk (base : Heap) (mg : Str → Option Value) (f : String) (fn : Fn) : Prop where
  ok : ∃ a o fd body, FnAt base mg f fn a o fd body

theorem bindL_eq {k : KD} : ∀ (binds : List (Str × Value)) (m : Str → Option Value) (x : Str), (binds.map (·.1)).Nodup → k x = some .local → bindL k binds m x = (binds.lookup x).or (m x)
  | [], m, x, _, _ => by simp [bindL]
  | (n, v) :: r, m, x, hn, hk => by
    unfold bindL
    simp only [List.map_cons, List.nodup_cons] at hn
    rw [bindL_eq r _ x hn.2 hk, lookup_cons']
    by_cases h : x = n
    · subst h
      have : r.lookup x = none := by
        cases q : r.lookup x with
        | none => rfl
        | some c => exact absurd (List.mem_map_of_mem (f := (·.1)) (mem_of_lookup q)) hn.1
      rw [this, if_pos rfl, if_pos hk]
      simp
    · rw [if_neg h]
      split
      · simp [h]
      · rfl
theorem bindC_eq {k : KD} : ∀ (binds : List (Str × Value)) (m : Str → Option Value) (x : Str), (binds.map (·.1)).Nodup → k x ≠ some .local → bindC k binds m x = (binds.lookup x).or (m x)
  | [], m, x, _, _ => by simp [bindC]
  | (n, v) :: r, m, x, hn, hk => by
    unfold bindC
    simp only [List.map_cons, List.nodup_cons] at hn
    rw [bindC_eq r _ x hn.2 hk, lookup_cons']
    by_cases h : x = n
    · subst h
      have : r.lookup x = none := by
        cases q : r.lookup x with
        | none => rfl
        | some c => exact absurd (List.mem_map_of_mem (f := (·.1)) (mem_of_lookup q)) hn.1
      rw [this, if_pos rfl, if_neg hk]
      simp
    · rw [if_neg h]
      split
      · rfl
      · simp [h]

theorem lookup_zip_map {h : Heap} {P : Params} {H : Addr → Prop} : ∀ (ns : List String) (vs : List Value) (ds : List D) (x : String) (d : D), RepAll P h H vs ds → (ns.zip ds).lookup x = some d → ∃ v, ((ns.map Str.ofString).zip vs).lookup (Str.ofString x) = some v ∧ Rep P h H v d
  | [], _, _, x, d, _, e => by simp at e
  | n :: ns, _, _, x, d, .nil, e => by simp at e
  | n :: ns, _, _, x, d, .cons hv hr, e => by
    rw [List.zip_cons_cons, List.lookup_cons] at e
    rw [List.map_cons, List.zip_cons_cons, lookup_cons']
    by_cases h : x = n
    · subst h
      simp only [beq_self_eq_true] at e
      cases e
      exact ⟨_, if_pos rfl, hv⟩
    · have hb : (x == n) = false := by simpa using h
      rw [hb] at e
      rw [if_neg (fun q => h (ofString_inj q))]
      exact lookup_zip_map ns _ _ x d hr e

theorem lookup_start (x : String) : ∀ (ns : List String) (ds : List D), ((ns.zip ds).map fun p => (p.1, (false, p.2))).lookup x = ((ns.zip ds).lookup x).map fun d => (false, d)
  | [], _ => rfl
  | _ :: _, [] => rfl
  | n :: ns, d :: ds => by
    have ih := lookup_start x ns ds
    rw [List.zip_cons_cons, List.map_cons, List.lookup_cons, List.lookup_cons]
    by_cases h : x = n
    · subst h; simp
    · have hb : (x == n) = false := by simpa using h
      simp only [hb]
      exact ih

section
variable {prog : Program} {w : World} {base : Heap} {mg mb : Str → Option Value} {P : List (String × Fn)} {X : CF}

theorem call_fn (G : GOk mg mb base) {A₀ : Around} {cf : CF} (hh : A₀.handled = none) (hd : A₀.depth + 10 < recursionLimit) (hu : A₀.units + 40 < cLine) (C : ∀ A, Near A₀ A → ∀ env, CSound prog w base mg cf (A.deeper env)) {f : String} {fn : Fn} (F : FnOk base mg f fn) {ds : List D} (hl : ds.length = fn.params.length)
    {r : Fl × St} (hev : exSs cf fn.body ((fn.params.zip ds).map fun p => (p.1, (false, p.2))) = some r) {d : D} {fr : Bool} (hr : (∃ σ, r = (.ret fr d, σ)) ∨ (∃ σ, r = (.next, σ) ∧ d = .none ∧ fr = false)) :
    ∃ a o fd, mg (Str.ofString f) = some (.ref a) ∧ gat base a = some o ∧ o.data = .func fd ∧
    ∀ A, Near A₀ A → ∀ (s : Shared) (H : Addr → Prop) (vs : List Value) (E : Value → Shared → Prop), HOk base s.heap H → RepAll w.params s.heap H vs ds → wpAny (model prog w) A (PySem.call (.ref a) vs) (PostF w s H d fr) E s := by
  obtain ⟨a, o, fd, body, f1, f2, f3, f4, f5, f6, f7, f8, f9, f10, f11, f12, f13, f14, f15, f16, f17, f18, f19, f20, f21, f22, f23⟩ := F.ok
  refine ⟨a, o, fd, f1, f2, f3, fun A hN s H vs E hw hvs => ?_⟩
  replace hh : A.handled = none := hN.handled.trans hh
  have hrm : Room (A.deeper default) := ⟨by have := hN.units; show A.units + 3 + 20 < cLine; omega, by have := hN.depth; show A.depth + 1 + 2 < recursionLimit; omega⟩
  replace hd : A.depth < recursionLimit := by have := hN.depth; omega
  have hnames : (fd.params.args.map (·.arg)).Nodup := by
    rw [f14]
    exact List.pairwise_map.mpr (f15.imp fun hne e => hne (ofString_inj e))
  have hlen : (fd.params.args.map (·.arg)).length = vs.length := by rw [f14, List.length_map, hvs.length, hl]
  have hb := bindArgs_plain (vals := vs) f9 f10 f11 f12 f13 hnames hlen
  have hbn : ((((fd.params.args.map (·.arg)).zip vs)).map (·.1)) = fd.params.args.map (·.arg) := by
    rw [List.map_fst_zip (by omega)]
  refine wpAny_call (codeAny_call_cells (binds := (fd.params.args.map (·.arg)).zip vs) hd (Heap.of_gt (hw.keep _ _ f2) (notTab_of (by rw [f3]; nofun))) f3 (NoLimit.keepG G.lim hw.keep) (f8.keeps hw.keep).rec f4 hb f5 ?_ ?_ f17 f18 f16)
  · intro x hx
    have hx' : x.1 ∈ fn.params.map Str.ofString := by rw [← f14, ← hbn]; exact List.mem_map_of_mem hx
    obtain ⟨z, hz, e⟩ := List.mem_map.mp hx'
    rcases f21 z hz with q | q
    · exact .inl (by rw [← e]; exact q)
    · refine .inr ⟨by rw [← e]; exact q, ?_⟩
      obtain ⟨c, hc⟩ := cellsFrom_has fd.scope.names (s.heap.objs.size + 1) (Str.ofString z) (mem_of_lookup q)
      obtain ⟨c', hc'⟩ := lookup_some_of_mem hc
      rw [← e, hc']; rfl
  · intro s₁ ic
    obtain ⟨h₁, tk₁, rfl, hk⟩ := ic.toInCall.done
    replace hk := Heap.gt_up hk
    have Lsz : @Eq Nat (callEnvC fd s.heap.objs.size a).locals s.heap.objs.size := rfl
    have cge : ∀ x c, (callEnvC fd s.heap.objs.size a).cells.lookup x = some c → @LT.lt Nat _ s.heap.objs.size c := fun x c hc => ic.above x c (mem_of_lookup hc)
    have newN : ∀ c, @LE.le Nat _ s.heap.objs.size c → gat s.heap c = none := fun c hc => Heap.gt_none_of_le hc
    have kindEq : ∀ x, (callEnvC fd s.heap.objs.size a).kindOf x = fd.scope.names.lookup x := fun _ => rfl
    have R : EnvRep h₁ (callEnvC fd s.heap.objs.size a) (fun x => ((fd.params.args.map (·.arg)).zip vs).lookup x) := by
      refine ⟨f16, f6, f7, ⟨_, ic.toInCall.ns, fun x hx => ?_⟩, fun x hx => ?_, fun x y c h1 h2 => ?_, fun x c hc e => ?_, fun x c hc => ?_, fun ho => ?_⟩
      · rw [bindL_eq _ _ x (by rw [hbn]; exact hnames) hx]; simp
      · have hcell : fd.scope.names.lookup x = some .cell := by
          rcases hx with q | q
          · exact q
          · exact absurd rfl (f20 _ (mem_of_lookup q))
        obtain ⟨c, hc⟩ := cellsFrom_has fd.scope.names (s.heap.objs.size + 1) x (mem_of_lookup hcell)
        obtain ⟨c', hc'⟩ := lookup_some_of_mem hc
        refine ⟨c', hc', ?_⟩
        have := ic.cell x c' hc'
        rw [bindC_eq _ _ x (by rw [hbn]; exact hnames) (by rw [kindEq, hcell]; simp)] at this
        simpa using this
      · exact name_of_addr ic.apart (mem_of_lookup h1) (mem_of_lookup h2)
      · have := cge x c hc
        have e' : @Eq Nat c s.heap.objs.size := e
        omega
      · exact gt_cell (ic.cell x c hc)
      · obtain ⟨q1, q2⟩ := f23 ho
        exact ⟨q1, by show fd.qualname ++ _ = _; rw [q2]; rfl⟩
    have hot : ∀ b, Hot (callEnvC fd s.heap.objs.size a) H (fun _ => none) b → H b ∨ frm (callEnvC fd s.heap.objs.size a) b := by
      rintro b (q | q | q | ⟨x, q⟩)
      · exact .inl q
      · exact .inr (.inl q)
      · exact .inr (.inr q)
      · cases q
    have frn : ∀ b, frm (callEnvC fd s.heap.objs.size a) b → gat s.heap b = none := by
      rintro b (q | ⟨x, q⟩)
      · exact newN b (by rw [q]; exact Nat.le_refl _)
      · exact newN b (Nat.le_of_lt (cge x b q))
    have S : StOk w base s.heap h₁ (callEnvC fd s.heap.objs.size a) H (fun _ => none) (fun x => ((fd.params.args.map (·.arg)).zip vs).lookup x) ((fn.params.zip ds).map fun p => (p.1, (false, p.2))) := by
      refine ⟨R, fun x d' e => ?_, fun x d' e => ?_, ⟨fun b o' e => hk b o' (hw.keep b o' e), fun b q => ?_, fun b o' e q => ?_⟩, hk, ⟨frn _ (.inl rfl), fun x c hc => frn c (.inr ⟨x, hc⟩)⟩, fun x c e => (by cases e), fun x y c e => (by cases e), fun x c e => (by cases e)⟩
      · rw [lookup_start] at e
        simp only [Option.map_eq_some_iff, Prod.mk.injEq] at e
        obtain ⟨d'', e1, _, e2⟩ := e
        subst e2
        obtain ⟨v, e3, e4⟩ := lookup_zip_map fn.params vs ds x d'' hvs e1
        refine ⟨v, by rw [f14]; exact e3, e4.mono (fun b o' _ e => hk b o' e) fun b o' e q => ?_⟩
        rcases hot b q with q | q
        · exact q
        · rw [frn b q] at e; cases e
      · rw [lookup_start] at e
        simp only [Option.map_eq_some_iff, Prod.mk.injEq] at e
        obtain ⟨_, _, e1, _⟩ := e
        cases e1
      · rcases hot b q with q | q
        · obtain ⟨b', o', h1, h2⟩ := hw.ex b q
          exact ⟨b', o', h1, hk _ _ h2⟩
        · obtain ⟨o', ho'⟩ := frame_ex R q
          exact ⟨b, o', Nat.le_refl _, ho'⟩
      · rcases hot b q with q | q
        · exact hw.off b o' e q
        · have := frn b q
          rw [hw.keep b o' e] at this; cases this
    refine wpAny_mono (all_Ss G (C A hN (callEnvC fd s.heap.objs.size a)) (A := A.deeper (callEnvC fd s.heap.objs.size a)) hh ⟨hrm.units, hrm.depth⟩ fn.body { s with heap := h₁, toks := tk₁ } (callEnvC fd s.heap.objs.size a) body H s.heap (fun _ => none) _ _ r _ f22 S hev) (fun fl s' q => ?_) fun _ _ e => e
    obtain ⟨h', tk', dw', rfl, k, x, q⟩ := q
    rcases hr with ⟨σ, rfl⟩ | ⟨σ, rfl, rfl, rfl⟩
    · obtain ⟨v, rfl, q1, q2, q3⟩ := q
      refine ⟨⟨h', tk', dw', rfl, q2⟩, q1, fun hf => ?_⟩
      exact q3 hf
    · obtain ⟨rfl, own', m', S', _⟩ := q
      exact ⟨⟨h', tk', dw', rfl, S'.keep⟩, .none, fun e => by cases e⟩

/-- all calls, to the depth n -/
theorem callN_sound (G : GOk mg mb base) (HF : ∀ f fn, P.lookup f = some fn → FnOk base mg f fn) (HX : ∀ A, AOk A 0 → CSound prog w base mg X A) : ∀ (n : Nat) (A : Around), AOk A n → CSound prog w base mg (callN P X n) A
  | 0, A, hA => ⟨fun f ds d fr h => (by simp only [callN] at h; exact nomatch h), (HX A hA).glob⟩
  | n + 1, A, hA => by
    have hA0 : AOk A 0 := ⟨hA.handled, by have := hA.depth; omega, by have := hA.units; omega⟩
    refine ⟨fun f ds d fr h => ?_, (HX A hA0).glob⟩
    simp only [callN] at h
    split at h
    · exact (HX A hA0).call f ds d fr h
    · rename_i fn hfn
      split at h
      · rename_i hl
        have C : ∀ A', Near A A' → ∀ env, CSound prog w base mg (callN P X n) (A'.deeper env) := fun A' hN env => callN_sound G HF HX n (A'.deeper env) ⟨hN.handled.trans hA.handled, by
          have := hA.depth
          have := hN.depth
          show A'.depth + 1 + 2 * n + 20 < recursionLimit
          omega, by
          have := hA.units
          have := hN.units
          show A'.units + 3 + 13 * n + 100 < cLine
          omega⟩
        have hd : A.depth + 10 < recursionLimit := by have := hA.depth; omega
        have hu : A.units + 40 < cLine := by have := hA.units; omega
        split at h
        · rename_i fr' d' σ hev
          cases h
          exact call_fn G hA.handled hd hu C (HF f fn hfn) hl hev (.inl ⟨σ, rfl⟩)
        · rename_i σ hev
          cases h
          exact call_fn G hA.handled hd hu C (HF f fn hfn) hl hev (.inr ⟨σ, rfl, rfl, rfl⟩)
        · cases h
      · cases h
end
end Mine
namespace Mine
open PySem PySem.SeqAt PySem.W PyProof.Rows

noncomputable def chkFn (d : DefRec) (fn : Fn) : Bool :=
  d.params.posonlyargs.isEmpty && d.params.kwonlyargs.isEmpty && d.params.vararg.isNone && d.params.kwarg.isNone && d.params.args.map (·.arg) == fn.params.map Str.ofString && decide fn.params.Nodup &&
  d.scope.kind == .function && !d.scope.isCoroutine && !d.scope.isGenerator && decide (d.scope.names.map (·.1)).Nodup && d.scope.names.all (fun p => p.2 != .free) &&
  fn.params.all (fun x => d.scope.names.lookup (Str.ofString x) == some .local || d.scope.names.lookup (Str.ofString x) == some .cell) && chkSs (fun x => d.scope.names.lookup x) d.body fn.body && (!ordK (fun x => d.scope.names.lookup x) || d.name == lamN)
noncomputable def chkProg (recs : List DefRec) (P : List (String × Fn)) : Bool := P.all fun q => match recs.find? (fun d => d.name == Str.ofString q.1) with
  | some d => chkFn d q.2
  | none => false
noncomputable def bltFree (p : Program) (loose : List Str) : Bool := ((recsOf p).map (·.name)).contains lamN && bltNames.all fun f => !startupNames.contains (Str.ofString f) && !loose.contains (Str.ofString f) && !((recsOf p).map (·.name)).contains (Str.ofString f) && !((litsOf p).map (·.1)).contains (Str.ofString f) && !((clssOf p loose).map (·.name)).contains (Str.ofString f)

theorem mem_of_lookupS {α : Type} : ∀ {l : List (String × α)} {x : String} {c : α}, l.lookup x = some c → (x, c) ∈ l
  | (y, d) :: r, x, c, h => by
    rw [List.lookup_cons] at h
    by_cases e : x = y
    · subst e
      simp only [beq_self_eq_true] at h
      cases h
      exact .head _
    · have hb : (x == y) = false := by simpa using e
      rw [hb] at h
      exact .tail _ (mem_of_lookupS h)

/-- the def that makes lambdas, its code and its table -/
noncomputable def TbOk (mg : Str → Option Value) (h : Heap) : Prop := ∃ a o fd c vs, mg lamN = some (.ref a) ∧ h.get? a = some o ∧ o.data = .func fd ∧ fd.code = .ref oc ∧ h.get? oc = some c ∧ c.data = .fields vs ∧ vs[11]? = some (.ref tb)
theorem TbOk.keeps {mg : Str → Option Value} {h h' : Heap} (x : TbOk mg h) (hk : ∀ b o, h.get? b = some o → h'.get? b = some o) : TbOk mg h' :=
  let ⟨a, o, fd, c, vs, h1, h2, h3, h4, h5, r⟩ := x; ⟨a, o, fd, c, vs, h1, hk _ _ h2, h3, h4, hk _ _ h5, r⟩
noncomputable def tbAt (s : Shared) : Bool := match s.heap.nsMap mainGlobals lamN with
  | some (.ref a) => (match s.heap.get? a with
    | some o => (match o.data with
      | .func fd => fd.code == .ref oc && (match s.heap.get? oc with
        | some c => (match c.data with | .fields vs => vs[11]? == some (.ref tb) | _ => false)
        | none => false)
      | _ => false)
    | none => false)
  | _ => false
theorem tb_of (s : Shared) (e : tbAt s = true) : TbOk (s.heap.nsMap mainGlobals) s.heap := by
  unfold tbAt at e
  split at e
  · rename_i a ha
    split at e
    · rename_i o ho
      split at e
      · rename_i fd hfd
        rw [Bool.and_eq_true] at e
        obtain ⟨e1, e⟩ := e
        split at e
        · rename_i c hc
          split at e
          · rename_i vs hd
            exact ⟨a, o, fd, c, vs, ha, ho, hfd, eq_of_beq e1, hc, hd, eq_of_beq e⟩
          · cases e
        · cases e
      · cases e
    · cases e
  · cases e
theorem lam_of {p : Program} {loose : List Str} {mean : ExcName → Option Value} {mg mb : Str → Option Value} {h : Heap} (T : Top p loose mean mg mb h) (hB : bltFree p loose = true) (hT : TbOk mg h) : h.IsCode oc tb #[] ∧ h.TableAt oc tb #[] ∧ h.BuiltinsAt mg tb := by
  unfold bltFree at hB
  rw [Bool.and_eq_true] at hB
  obtain ⟨d, hd, hn⟩ := List.mem_map.mp (List.contains_iff_mem.mp hB.1)
  obtain ⟨a', o', fd', c, Pl, g1, g2, g3, g4, g5, g6⟩ := T.tab d hd
  obtain ⟨a, o, fd, oc', vs, q1, q2, q3, q4, q5, q6, q7⟩ := hT
  rw [hn, q1] at g1; cases g1
  rw [q2] at g2; cases g2
  rw [q3] at g3; cases g3
  have e1 : oc = c := by
    have q6 : Value.ref oc = Value.ref c := q4.symm.trans g4
    cases q6; rfl
  subst e1
  have e2 : Pl = tb := by
    obtain ⟨⟨o1, v1, r1, _, r2, r3⟩, _⟩ := g6
    rw [q5] at r1; cases r1
    rw [q6] at r2; cases r2
    rw [q7] at r3; cases r3; rfl
  subst e2
  refine ⟨g5, g6, ?_⟩
  obtain ⟨bm, ob, b1, b2, b3, b4, b5, b6⟩ := T.bmain
  refine ⟨bm, ob, b1, b2, fun q => ?_, fun q => ?_, b3, b4, b5, b6⟩
  · obtain ⟨o, es, ep, e, hd, _⟩ := T.g
    rw [q, e] at b3; cases b3; rw [hd] at b6; cases b6
  · rw [q, g6.2] at b3; cases b3; cases b4

theorem fnOk_of {p : Program} {loose : List Str} {mean : ExcName → Option Value} {mg mb : Str → Option Value} {h : Heap} (T : Top p loose mean mg mb h) (htb : TbOk mg h) (htt : h.TableAt oc tb #[]) {P : List (String × Fn)} (hP : chkProg (recsOf p) P = true) {f : String} {fn : Fn} (hf : P.lookup f = some fn) : FnOk h mg f fn := by
  unfold chkProg at hP
  have := List.all_eq_true.mp hP _ (mem_of_lookupS hf)
  dsimp only at this
  cases hd : (recsOf p).find? (fun d => d.name == Str.ofString f) with
  | none => rw [hd] at this; cases this
  | some d =>
    rw [hd] at this
    have hn : d.name = Str.ofString f := by simpa using List.find?_some hd
    obtain ⟨a, o, pm, code, doc, h1, h2, h3, h4⟩ := T.fn d (List.mem_of_find?_eq_some hd)
    simp only [chkFn, Bool.and_eq_true, decide_eq_true_eq, beq_iff_eq, List.isEmpty_iff, Option.isNone_iff_eq_none, Bool.not_eq_true', List.all_eq_true, bne_iff_ne, Bool.or_eq_true] at this
    obtain ⟨⟨⟨⟨⟨⟨⟨⟨⟨⟨⟨⟨⟨c1, c2⟩, c3⟩, c4⟩, c5⟩, c6⟩, c7⟩, c8⟩, c9⟩, c10⟩, c11⟩, c12⟩, c13⟩, c14⟩ := this
    have h5 : CodeR h code d.name := by
      obtain ⟨a', o', fd', c, Pl, g1, g2, g3, g4, _, ⟨oc, vc, g5, g6, _⟩, _⟩ := T.tab d (List.mem_of_find?_eq_some hd)
      rw [h1] at g1; cases g1
      rw [h2] at g2; cases g2
      rw [h3] at g3; cases g3
      obtain ⟨c', o'', vs, t, q1, q2, q3, q4⟩ := h4
      have q5 : c' = c := by
        have q6 : Value.ref c' = Value.ref c := q1.symm.trans g4
        cases q6; rfl
      subst q5
      rw [q2] at g5; cases g5
      have hne : c' ≠ tb := fun q => by
        rw [q, htt.2] at q2
        rw [← Option.some.inj q2] at g6; cases g6
      exact ⟨c', _, vs, t, q1, by rw [Heap.gt_ne hne]; exact q2, g6, q3, q4⟩
    refine ⟨a, o, _, d.body, hn ▸ h1, Heap.gt_of h2 (notTab_of (by rw [h3]; nofun)), h3, rfl, rfl, rfl, rfl, h5, c1, c2, c3, c4, rfl, c5, c6, c7, c8, c9, c10, c11, c12, c13, fun ho => ?_⟩
    have hl : d.name = lamN := by
      rcases c14 with q | q
      · rw [show ordK (fun x => d.scope.names.lookup x) = true from ho] at q; cases q
      · exact q
    obtain ⟨a', o', fd', _, _, q1, q2, q3, q4, _⟩ := htb
    rw [hl, q1] at h1; cases h1
    rw [q2] at h2; cases h2
    rw [q3] at h3; cases h3
    exact ⟨q4, hl⟩

theorem gOk_of {p : Program} {loose : List Str} {mean : ExcName → Option Value} {mg mb : Str → Option Value} {h : Heap} (T : Top p loose mean mg mb h) (hB : bltFree p loose = true) (hT : TbOk mg h) : GOk mg mb h := by
  refine ⟨T.g, T.b, T.nolimit, fun f hf => ⟨?_, ?_⟩, lam_of T hB hT⟩
  · unfold bltFree at hB
    replace hB := (Bool.and_eq_true_iff.mp hB).2
    have := List.all_eq_true.mp hB f hf
    simp only [Bool.and_eq_true, Bool.not_eq_true', List.contains_eq_mem, decide_eq_false_iff_not] at this
    obtain ⟨⟨⟨⟨c1, c2⟩, c3⟩, c4⟩, c5⟩ := this
    exact T.free _ c1 c2 c3 c4 c5
  · rw [T.builtins]
    · have : (bltNames.all fun f => bootBuiltins (Str.ofString f) == some (bltVal f)) = true := by decide +kernel
      simpa using List.all_eq_true.mp this f hf
    · have : (bltNames.all fun f => Str.ofString f != Str.ofString "__name__") = true := by decide +kernel
      simpa using List.all_eq_true.mp this f hf

/-- what was there is there, but for the table -/
theorem oldK_of {h h' : Heap} (htb : ∃ c, h.TableAt c tb #[]) (hk : KH h h') : OldK h h' := by
  obtain ⟨c, ht⟩ := htb
  have one : ∀ b o, h.get? b = some o → h'.get? b = some o ∨ b = tb ∧ o = tabE ∧ ∃ xs, h'.get? b = some { cls := .none, data := .fields xs } := fun b o e => by
    by_cases hb : b = tb
    · subst hb
      have eo : o = tabE := Option.some.inj (e.symm.trans ht.2)
      obtain ⟨o', e', ⟨_, q⟩ | ⟨_, _, xs, q, _⟩⟩ := Heap.gt_some (hk _ _ (Heap.gt_good ht.2 GoodT.empty))
      · cases q rfl
      · exact .inr ⟨rfl, eo, xs, q ▸ e'⟩
    · have q := hk b o (by rw [Heap.gt_ne hb]; exact e)
      rw [Heap.gt_ne hb] at q
      exact .inl q
  refine ⟨fun b o e => ?_, fun b o e => ?_⟩
  · rcases one b o e with q | ⟨rfl, rfl, xs, q⟩
    · exact .inl q
    · exact .inr (.inl ⟨ht.isCodeTable, rfl, #[], xs, rfl, by rw [q, Array.empty_append]⟩)
  · rcases one b o e with q | ⟨_, _, xs, q⟩
    · exact ⟨_, q⟩
    · exact ⟨_, q⟩
theorem wellInts {P : Params} {h : Heap} {H : Addr → Prop} : ∀ {vs : List Value} {ns : List Int}, WellAll P h vs (ofPys (ns.map PyData.int)) → RepAll P h H vs (ns.map .int)
  | vs, [], hw => by cases hw; exact .nil
  | vs, n :: ns, hw => by
    cases hw with
    | cons h1 h2 =>
      cases h1
      exact .cons (.int _ _) (wellInts h2)

theorem law_fin {l : OpenLaw} {w : World} {s₀ s₁ : Shared} {mg mb : Str → Option Value} {p : Program} {loose : List Str} {mean mean' : ExcName → Option Value} {P : List (String × Fn)} {X : CF} (N : Nat) (T : Top p loose mean mg mb s₁.heap)
    (hP : chkProg (recsOf p) P = true) (hB : bltFree p loose = true) (hN : N ≤ 300) (HX : ∀ A, AOk A 0 → CSound l.prog w s₁.heap mg X A) (htb : TbOk mg s₁.heap)
    {fa a : Addr} {ns : List Int} (hmg : mg (Str.ofString "law") = some (.ref fa)) (hg : s₁.gens = #[]) (hw : Well w.params s₁.heap (.ref a) (ofPy (PyData.list (ns.map PyData.int)))) (hlen : ¬ ((63 : Nat) : Int) < (ns.length : Int))
    (hpure : ∃ fr, (callN P X N).call "law" [.list (ns.map .int)] = some (.bool true, fr)) :
    wpAny (model l.row.toRowW.prog w) callerA (call (.ref fa) [.ref a]) (fun v s' => GoodWG l.row.toRowW.claim (classAt s₀.heap) mean' [ofPy (PyData.list (ns.map PyData.int))] s₁ (.ok (.ret v)) s')
      (fun e s' => GoodWG l.row.toRowW.claim (classAt s₀.heap) mean' [ofPy (PyData.list (ns.map PyData.int))] s₁ (.error e) s') s₁ := by
  obtain ⟨fr, hp⟩ := hpure
  have G := gOk_of T hB htb
  have hA : AOk callerA N := ⟨rfl, by
    show 1 + claimMargin + 2 * N + 20 < recursionLimit
    have e1 : claimMargin = 300 := rfl
    have e2 : recursionLimit = 1000 := rfl
    omega, by
    show 4 + 13 * N + 100 < cLine
    have e2 : cLine = 9900 := rfl
    omega⟩
  have C := callN_sound (prog := l.prog) (w := w) G (fun f fn hf => fnOk_of T htb G.lam.2.1 hP hf) HX N callerA hA
  obtain ⟨a', o, fd, h1, h2, h3, h4⟩ := C.call "law" _ _ fr hp
  rw [hmg] at h1
  cases h1
  have hrep : Rep w.params s₁.heap (fun _ => False) (.ref a) (.list (ns.map .int)) := by
    cases hw with
    | list ho hr =>
      refine .list ho (fun q => q) ?_ (wellInts (by simpa using hr))
      simp only [List.length_map]
      have : ns.length ≤ 63 := by omega
      exact Nat.le_trans this (by decide)
  refine wpAny_mono (h4 callerA (.refl _) s₁ (fun _ => False) [.ref a] _ ⟨fun _ _ e => e, fun _ q => q.elim, fun _ _ _ q => q⟩ (.cons hrep .nil)) (fun v s' q => ?_) fun _ _ e => e
  obtain ⟨⟨h', tk, dw, rfl, hk⟩, rv, _⟩ := q
  cases rv
  exact ⟨.inl ⟨.bool true, .bool true, [], rfl, fun _ => rfl, .bool true, postW_of (r := l.row.toRowW) rfl (w_eq_bool (w_res rfl) w_lit) rfl, fun _ => ⟨.nil, fun _ h => nomatch h⟩⟩, oldK_of ⟨_, G.lam.2.1⟩ hk, rfl, .of_eq hg⟩
end Mine
namespace Mine
open PySem
noncomputable def fin (r : Option (Fl × St)) : Option (D × Bool) := match r with
  | some (.ret fr d, _) => some (d, fr)
  | some (.next, _) => some (.none, false)
  | _ => none
theorem call_eq {P : List (String × Fn)} {X : CF} {f : String} {fn : Fn} (n : Nat) (args : List D) (h : P.lookup f = some fn) (hl : args.length = fn.params.length) :
    (callN P X (n + 1)).call f args = fin (exSs (callN P X n) fn.body ((fn.params.zip args).map fun p => (p.1, (false, p.2)))) := by
  simp only [callN, h, hl, if_true, fin]
  all_goals (split <;> rename_i q <;> simp [q])
theorem glob_x (P : List (String × Fn)) (X : CF) (n : Nat) (x : String) : (callN P X n).glob x = X.glob x := by cases n <;> rfl

noncomputable def thenS (r : Option (Fl × St)) (k : St → Option (Fl × St)) : Option (Fl × St) := match r with
  | some (.next, σ) => k σ
  | x => x
theorem thenS_next (σ : St) (k) : thenS (some (.next, σ)) k = k σ := rfl
theorem thenS_ret (fr d) (σ : St) (k) : thenS (some (.ret fr d, σ)) k = some (.ret fr d, σ) := rfl
theorem x_nil (cf : CF) (σ : St) : exSs cf [] σ = some (.next, σ) := by simp [xss_nil, xss_cons]
theorem x_cons (cf : CF) (s : MS) (r : List MS) (σ : St) : exSs cf (s :: r) σ = thenS (exS cf s σ) (exSs cf r) := by
  simp only [xss_nil, xss_cons, thenS]
  all_goals (split <;> rename_i q <;> simp_all)
theorem x_app (cf : CF) (a b : List MS) (σ : St) : exSs cf (a ++ b) σ = thenS (exSs cf a σ) (exSs cf b) := by
  induction a generalizing σ with
  | nil => simp [x_nil, thenS]
  | cons s a ih =>
    rw [List.cons_append, x_cons, x_cons]
    generalize exS cf s σ = z
    unfold thenS
    cases z with
    | none => rfl
    | some p =>
      obtain ⟨fl, σ'⟩ := p
      cases fl <;> simp [ih, thenS]
theorem x_assign (cf : CF) (x : String) (e : ME) (r : List MS) (σ : St) : exSs cf (.assign x e :: r) σ = (match evF cf (vis σ) e with
    | some (d, fr) => exSs cf r (setv (settle d e.names σ) x (fr, d))
    | none => none) := by
  rw [x_cons]
  simp only [xs_assign, xs_append, xs_setk, xs_ite, xs_for_, xs_ret, xs_bad]
  split <;> simp_all [thenS]
theorem x_append (cf : CF) (x : String) (e : ME) (r : List MS) (σ : St) : exSs cf (.append x e :: r) σ = (match evE cf (vis σ) e with
    | some d => (match (settle d e.names σ).lookup x with
      | some (true, .list ds) => if ds.length < big then exSs cf r (setv (settle d e.names σ) x (true, .list (ds ++ [d]))) else none
      | _ => none)
    | none => none) := by
  rw [x_cons]
  simp only [xs_assign, xs_append, xs_setk, xs_ite, xs_for_, xs_ret, xs_bad]
  split
  · rename_i q
    try simp only [q]
    split
    · rename_i q2
      try simp only [q2]
      split <;> rename_i q3
      · simp [thenS]
      · first | rfl | simp [thenS] | simp [thenS, q3]
    · rename_i q2
      first
      | rfl
      | (split
         · rename_i q3; exact absurd q3 (q2 _)
         · rfl)
  · rename_i q
    first | rfl | simp only [q, thenS]
theorem x_setk (cf : CF) (x : String) (k e : ME) (r : List MS) (σ : St) : exSs cf (.setk x k e :: r) σ = (match evE cf (vis σ) e with
    | some d => (match evE cf (vis σ) k with
      | some dk => (match (settle dk k.names (settle d e.names σ)).lookup x with
        | some (true, .dict ks vs) => if (keyOk dk ks && decide (ks.length < big)) = true then exSs cf r (setv (settle dk k.names (settle d e.names σ)) x (true, .dict (dput ks vs dk d).1 (dput ks vs dk d).2)) else none
        | _ => none)
      | none => none)
    | none => none) := by
  rw [x_cons]
  simp only [xs_assign, xs_append, xs_setk, xs_ite, xs_for_, xs_ret, xs_bad]
  split
  · rename_i q
    try simp only [q]
    split
    · rename_i q1
      try simp only [q1]
      split
      · rename_i q2
        try simp only [q2]
        split <;> rename_i q3
        · simp [thenS]
        · first | rfl | simp [thenS]
      · rename_i q2
        first
        | rfl
        | (split
           · rename_i q3; exact absurd q3 (q2 _ _)
           · rfl)
    · rename_i q1
      first | rfl | simp only [q1, thenS]
  · rename_i q
    first | rfl | simp only [q, thenS]
theorem x_ite (cf : CF) (c : ME) (t f : List MS) (r : List MS) (σ : St) : exSs cf (.ite c t f :: r) σ = (match evE cf (vis σ) c with
    | some d => (match truth d with
      | some true => exSs cf (t ++ r) σ
      | some false => exSs cf (f ++ r) σ
      | none => none)
    | none => none) := by
  rw [x_cons]
  simp only [xs_assign, xs_append, xs_setk, xs_ite, xs_for_, xs_ret, xs_bad]
  split
  · split <;> simp_all [thenS, x_app]
  · simp_all [thenS]
noncomputable def bodyF (cf : CF) (body : List MS) (x : String) : D → St → Option (Fl × St) := fun it σ => exSs cf body (setv σ x (false, it))
noncomputable def loopS (r : Option (Fl × St)) (k : St → Option (Fl × St)) : Option (Fl × St) := match r with
  | some (.next, σ) => k σ
  | x => x
theorem loopS_next (σ : St) (k) : loopS (some (.next, σ)) k = k σ := rfl
theorem forB_cons (cf : CF) (body : List MS) (x : String) (it : D) (r : List D) (σ : St) : forD (bodyF cf body x) (it :: r) σ = loopS (exSs cf body (setv σ x (false, it))) (forD (bodyF cf body x) r) := by
  show (match exSs cf body (setv σ x (false, it)) with
    | some (.next, σ') => forD (bodyF cf body x) r σ'
    | x => x) = _
  generalize exSs cf body (setv σ x (false, it)) = z
  unfold loopS
  split <;> rfl
theorem x_for (cf : CF) (x : String) (src : ME) (body : List MS) (r : List MS) (σ : St) : exSs cf (.for_ x src body :: r) σ = (match evE cf (vis σ) src with
    | some d => (match d.items with
      | some its => thenS (forD (bodyF cf body x) its (freeze src.names σ)) (exSs cf r)
      | none => none)
    | none => none) := by
  rw [x_cons]
  simp only [xs_assign, xs_append, xs_setk, xs_ite, xs_for_, xs_ret, xs_bad]
  split
  · split
    · rename_i q1 _ _ q2
      try simp only [q1, q2]
      rfl
    · rename_i q1 _ q2
      try simp only [q1, q2]
      rfl
  · first | rfl | simp_all [thenS]
theorem x_forr (cf : CF) (x : String) (src : ME) (body : List MS) (r : List MS) (σ : St) {ds : List D} (h : evE cf (vis σ) src = some (.tup ds)) : exSs cf (.forr x src body :: r) σ = thenS (forD (bodyF cf body x) ds.reverse (freeze src.names σ)) (exSs cf r) := by
  rw [x_cons, xs_forr, h]; rfl
theorem x_ret (cf : CF) (e : ME) (r : List MS) (σ : St) : exSs cf (.ret e :: r) σ = (match (match e with
    | .var x => (match σ.lookup x with | some (fr, d) => some (d, fr) | none => none)
    | e => evF cf (vis σ) e) with
    | some (d, fr) => some (.ret fr d, σ)
    | none => none) := by
  rw [x_cons]
  cases e <;> simp only [xs_assign, xs_append, xs_setk, xs_ite, xs_for_, xs_ret, xs_bad]
  all_goals (split <;> rename_i q <;> first | rfl | simp only [q, thenS])
end Mine
namespace Mine
open PySem
section
variable (cf : CF) (ρ : List (String × D))
theorem e_var (x : String) : evE cf ρ (.var x) = ρ.lookup x := rfl
theorem e_glob (x : String) : evE cf ρ (.glob x) = cf.glob x := rfl
theorem e_int (i : Int) : evE cf ρ (.int i) = some (.int i) := rfl
theorem e_str (i : String) : evE cf ρ (.str i) = some (.str (Str.ofString i)) := rfl
theorem e_bool (i : Bool) : evE cf ρ (.bool i) = some (.bool i) := rfl
theorem e_none : evE cf ρ .none = some .none := rfl
noncomputable def o2 (f : D → D → Option D) (a b : Option D) : Option D := match a with
  | some x => (match b with | some y => f x y | none => none)
  | none => none
theorem e_bin (op : Operator) (a b : ME) : evE cf ρ (.bin op a b) = o2 (binD op) (evE cf ρ a) (evE cf ρ b) := rfl
theorem e_cmp (op : CmpOp) (a b : ME) : evE cf ρ (.cmp op a b) = o2 (cmpD op) (evE cf ρ a) (evE cf ρ b) := rfl
theorem e_sub (a b : ME) : evE cf ρ (.sub a b) = o2 subD (evE cf ρ a) (evE cf ρ b) := rfl
theorem e_bop (op : BoolOp) (es : List ME) : evE cf ρ (.bop op es) = evBop cf ρ op es := rfl
noncomputable def o1 (f : D → Option D) (a : Option D) : Option D := match a with
  | some x => f x
  | none => none
theorem e_not (a : ME) : evE cf ρ (.not a) = o1 (fun x => (truth x).map fun t => .bool (!t)) (evE cf ρ a) := rfl
noncomputable def oL (f : List D → Option D) (a : Option (List D)) : Option D := match a with
  | some x => f x
  | none => none
theorem e_tup (es : List ME) : evE cf ρ (.tup es) = oL (fun ds => if ds.length ≤ big then some (.tup ds) else none) (evEs cf ρ es) := rfl
theorem e_lst (es : List ME) : evE cf ρ (.lst es) = oL (fun ds => if ds.length ≤ big then some (.list ds) else none) (evEs cf ρ es) := rfl
theorem e_dct (ks vs : List ME) : evE cf ρ (.dct ks vs) = (match evEs cf ρ ks with
    | some ds => (match evEs cf ρ vs with
      | some es => if (ds.all D.isCell && ds.length == es.length && decide (ds.length ≤ 15)) = true then some (.dict (dputs ds es).1 (dputs ds es).2) else none
      | none => none)
    | none => none) := rfl
theorem e_blt (f : String) (es : List ME) : evE cf ρ (.blt f es) = oL (bltD f) (evEs cf ρ es) := rfl
theorem e_call (f : String) (es : List ME) : evE cf ρ (.call f es) = oL (fun ds => (cf.call f ds).map (·.1)) (evEs cf ρ es) := rfl
theorem e_lcp (a : ME) : evE cf ρ (.lcp a) = o1 (fun x => (lstD x).map .list) (evE cf ρ a) := rfl
theorem e_isi (a : ME) (T : String) : evE cf ρ (.isi a T) = o1 (fun x => (isiD x T).map .bool) (evE cf ρ a) := rfl
theorem e_sl (a l h : ME) : evE cf ρ (.sl a l h) = o1 (fun x => o2 (slD x) (evE cf ρ l) (evE cf ρ h)) (evE cf ρ a) := rfl
noncomputable def compF (elt : ME) (x : String) (cs : List ME) : D → Option (Option D) := fun it => match evCs cf ((x, it) :: ρ) cs with
  | some true => (match evE cf ((x, it) :: ρ) elt with | some y => some (some y) | none => none)
  | some false => some none
  | none => none
theorem e_comp (elt : ME) (x : String) (src : ME) (cs : List ME) : evE cf ρ (.comp elt x src cs) = o1 (fun d => (match d.items with
      | some its => if its.length ≤ big then (compM (compF cf ρ elt x cs) its).map .list else none
      | none => none)) (evE cf ρ src) := rfl
theorem es_nil : evEs cf ρ [] = some [] := rfl
noncomputable def oC (a : Option D) (b : Option (List D)) : Option (List D) := match a with
  | some d => (match b with | some ds => some (d :: ds) | none => none)
  | none => none
theorem es_cons (e : ME) (r : List ME) : evEs cf ρ (e :: r) = oC (evE cf ρ e) (evEs cf ρ r) := rfl
noncomputable def oB (s : Bool) (r : Option D) (a : Option D) : Option D := match a with
  | some d => (match truth d with
    | some t => if t = s then some d else r
    | none => none)
  | none => none
theorem oB_bool (s : Bool) (r : Option D) (t : Bool) : oB s r (some (.bool t)) = if t = s then some (.bool s) else r := by
  unfold oB truth
  by_cases h : t = s
  · subst h; rfl
  · simp [h]
theorem b_and (e e2 : ME) (r : List ME) : evBop cf ρ .And (e :: e2 :: r) = oB false (evBop cf ρ .And (e2 :: r)) (evE cf ρ e) := rfl
theorem b_or (e e2 : ME) (r : List ME) : evBop cf ρ .Or (e :: e2 :: r) = oB true (evBop cf ρ .Or (e2 :: r)) (evE cf ρ e) := rfl
theorem c_nil : evCs cf ρ [] = some true := rfl
noncomputable def oI (k k' : Option (Fl × St)) (a : Option D) : Option (Fl × St) := match a with
  | some d => (match truth d with
    | some t => if t = true then k else k'
    | none => none)
  | none => none
theorem x_if (c : ME) (t f r : List MS) (σ : St) : exSs cf (.ite c t f :: r) σ = oI (exSs cf (t ++ r) σ) (exSs cf (f ++ r) σ) (evE cf (vis σ) c) := by
  rw [x_ite]
  unfold oI
  cases evE cf (vis σ) c with
  | none => rfl
  | some d =>
    show (match truth d with | some true => _ | some false => _ | none => _) = _
    cases h : truth d with
    | none => simp [h]
    | some b => cases b <;> simp [h]
end
theorem compM_ok (f : D → Option (Option D)) (Q : D → D → Prop) : ∀ (its : List D), (∀ it ∈ its, ∃ d, Q it d ∧ f it = some (some d)) → ∃ ds, compM f its = some ds ∧ ds.length = its.length ∧ ∀ d ∈ ds, ∃ it ∈ its, Q it d
  | [], _ => ⟨[], rfl, rfl, fun _ h => nomatch h⟩
  | it :: r, h => by
    obtain ⟨d, q, e⟩ := h it (by simp)
    obtain ⟨ds, e2, hl, hq⟩ := compM_ok f Q r fun i hi => h i (by simp [hi])
    refine ⟨d :: ds, by simp [compM, e, e2], by simp [hl], ?_⟩
    intro d' hd
    rcases List.mem_cons.mp hd with rfl | hd
    · exact ⟨it, by simp, q⟩
    · obtain ⟨i, hi, q'⟩ := hq d' hd
      exact ⟨i, by simp [hi], q'⟩
theorem compF_nil {cf : CF} {ρ : List (String × D)} {elt : ME} {x : String} {it d : D} (h : evE cf ((x, it) :: ρ) elt = some d) : compF cf ρ elt x [] it = some (some d) := by
  unfold compF; simp [c_nil, h]
theorem items_rng (n : Nat) : D.items (.rng 0 n) = some ((List.range n).map fun (i : Nat) => D.int (i : Int)) := by
  simp [D.items]
end Mine
namespace Mine
open PySem
/-! rules of the evaluator -/
noncomputable def Run (cf : CF) (ss : List MS) (σ : St) (d : D) (fr : Bool) : Prop := fin (exSs cf ss σ) = some (d, fr)
noncomputable def ME.isVar : ME → Bool
  | .var _ => true
  | _ => false
/-- one step of a run -/
structure Stp (cf : CF) (s : MS) (σ σ' : St) : Prop where
  go : ∀ r, exSs cf (s :: r) σ = exSs cf r σ'
section
variable {cf : CF} {ρ : List (String × D)} {σ σ' : St} {a b c e : ME} {d x y : D} {i j : Int} {fr : Bool} {r t f body : List MS} {z : String}
theorem v_map (h : evE cf ρ e = some d) (hc : isCallE e = none) (hf : frF e d = fr) : evF cf ρ e = some (d, fr) := by
  unfold evF; rw [hc, h]; show some (d, frF e d) = _; rw [hf]
theorem v_call {g : String} {as : List ME} {ds : List D} (h : evEs cf ρ as = some ds) (hc : cf.call g ds = some (d, fr)) : evF cf ρ (.call g as) = some (d, fr) := by
  rw [evF_call, h]; exact hc
theorem v_callE {g : String} {as : List ME} {ds : List D} (h : evEs cf ρ as = some ds) (hc : cf.call g ds = some (d, fr)) : evE cf ρ (.call g as) = some d := by
  rw [e_call, h]; show (cf.call g ds).map _ = _; rw [hc]; rfl
theorem v_cons {es : List ME} {ds : List D} (h : evE cf ρ e = some d) (hs : evEs cf ρ es = some ds) : evEs cf ρ (e :: es) = some (d :: ds) := by
  rw [es_cons, h, hs]; rfl
theorem v_bin {op : Operator} (ha : evE cf ρ a = some x) (hb : evE cf ρ b = some y) (h : binD op x y = some d) : evE cf ρ (.bin op a b) = some d := by
  rw [e_bin, ha, hb]; exact h
theorem b_mul (h : -lim < j ∧ j < lim) : binD .Mult (.int i) (.int j) = some (.int (i * j)) := if_pos (.inr h)
theorem b_mulL (h : -lim < i ∧ i < lim) : binD .Mult (.int i) (.int j) = some (.int (i * j)) := if_pos (.inl h)
theorem b_div (h : 0 < j ∧ j < lim) : binD .FloorDiv (.int i) (.int j) = some (.int (i / j)) := if_pos h
theorem b_mod (h : 0 < j) : binD .Mod (.int i) (.int j) = some (.int (i % j)) := if_pos h
theorem b_pow (h : -powLim < i ∧ i < powLim ∧ 0 ≤ j ∧ j ≤ 100) : binD .Pow (.int i) (.int j) = some (.int (i ^ j.toNat)) := if_pos h
theorem b_add : binD .Add (.int i) (.int j) = some (.int (i + j)) := rfl
theorem b_sb : binD .Sub (.int i) (.int j) = some (.int (i - j)) := rfl
theorem v_cmp {op : CmpOp} (ha : evE cf ρ a = some x) (hb : evE cf ρ b = some y) (h : cmpD op x y = some d) : evE cf ρ (.cmp op a b) = some d := by
  rw [e_cmp, ha, hb]; exact h
theorem v_sub (ha : evE cf ρ a = some x) (hb : evE cf ρ b = some y) (h : subD x y = some d) : evE cf ρ (.sub a b) = some d := by
  rw [e_sub, ha, hb]; exact h
theorem v_sl {l h : ME} {u v : D} (ha : evE cf ρ a = some x) (hl : evE cf ρ l = some u) (hh : evE cf ρ h = some v) (hd : slD x u v = some d) : evE cf ρ (.sl a l h) = some d := by
  rw [e_sl, ha, hl, hh]; exact hd
theorem v_not {k : Bool} (ha : evE cf ρ a = some x) (h : truth x = some k) : evE cf ρ (.not a) = some (.bool (!k)) := by
  rw [e_not, ha]; show (truth x).map _ = _; rw [h]; rfl
theorem v_isi {T : String} {k : Bool} (ha : evE cf ρ a = some x) (h : isiD x T = some k) : evE cf ρ (.isi a T) = some (.bool k) := by
  rw [e_isi, ha]; show (isiD x T).map _ = _; rw [h]; rfl
theorem v_blt {g : String} {as : List ME} {ds : List D} (ha : evEs cf ρ as = some ds) (h : bltD g ds = some d) : evE cf ρ (.blt g as) = some d := by
  rw [e_blt, ha]; exact h
theorem v_tup {as : List ME} {ds : List D} (ha : evEs cf ρ as = some ds) (h : ds.length ≤ big) : evE cf ρ (.tup as) = some (.tup ds) := by
  rw [e_tup, ha]; exact if_pos h
theorem v_lst {as : List ME} {ds : List D} (ha : evEs cf ρ as = some ds) (h : ds.length ≤ big) : evE cf ρ (.lst as) = some (.list ds) := by
  rw [e_lst, ha]; exact if_pos h
theorem v_lcp {ds : List D} (ha : evE cf ρ a = some x) (h : lstD x = some ds) : evE cf ρ (.lcp a) = some (.list ds) := by
  rw [e_lcp, ha]; show (lstD x).map _ = _; rw [h]; rfl
theorem v_comp {elt src : ME} {cs : List ME} {its ds : List D} (ha : evE cf ρ src = some x) (hi : x.items = some its) (hl : its.length ≤ big) (h : compM (compF cf ρ elt z cs) its = some ds) : evE cf ρ (.comp elt z src cs) = some (.list ds) := by
  rw [e_comp, ha]; show (match x.items with | some its => _ | none => _) = _; rw [hi]; show (if its.length ≤ big then _ else _) = _; rw [if_pos hl, h]; rfl

theorem v_and {k l : Bool} {r' : List ME} (ha : evE cf ρ a = some (.bool k)) (hb : k = true → evE cf ρ (.bop .And (b :: r')) = some (.bool l)) : evE cf ρ (.bop .And (a :: b :: r')) = some (.bool (k && l)) := by
  rw [e_bop, b_and, ha, oB_bool]
  cases k with
  | false => rfl
  | true => exact hb rfl
theorem v_or {k l : Bool} {r' : List ME} (ha : evE cf ρ a = some (.bool k)) (hb : k = false → evE cf ρ (.bop .Or (b :: r')) = some (.bool l)) : evE cf ρ (.bop .Or (a :: b :: r')) = some (.bool (k || l)) := by
  rw [e_bop, b_or, ha, oB_bool]
  cases k with
  | true => rfl
  | false => exact hb rfl
theorem v_bop1 {op : BoolOp} (ha : evE cf ρ a = some d) : evE cf ρ (.bop op [a]) = some d := ha
/-! statements -/
theorem p_assign (h : evF cf (vis σ) e = some (d, fr)) : Stp cf (.assign z e) σ (setv (settle d e.names σ) z (fr, d)) := ⟨fun r => by rw [x_assign, h]⟩
theorem p_append {ds : List D} (h : evE cf (vis σ) e = some d) (hl : (settle d e.names σ).lookup z = some (true, .list ds)) (hb : ds.length < big) : Stp cf (.append z e) σ (setv (settle d e.names σ) z (true, .list (ds ++ [d]))) := ⟨fun r => by rw [x_append, h]; simp only [hl, if_pos hb]⟩
theorem p_setk {k : ME} {dk : D} {ks vs : List D} (h : evE cf (vis σ) e = some d) (hk : evE cf (vis σ) k = some dk) (hl : (settle dk k.names (settle d e.names σ)).lookup z = some (true, .dict ks vs)) (hb : (keyOk dk ks && decide (ks.length < big)) = true) :
    Stp cf (.setk z k e) σ (setv (settle dk k.names (settle d e.names σ)) z (true, .dict (dput ks vs dk d).1 (dput ks vs dk d).2)) := ⟨fun r => by rw [x_setk, h, hk]; simp only [hl, hb, if_true]⟩
theorem r_step {s : MS} (h : Stp cf s σ σ') (k : Run cf r σ' d fr) : Run cf (s :: r) σ d fr := by unfold Run; rw [h.go]; exact k
theorem x_ifb {k : Bool} (h : evE cf (vis σ) c = some x) (hx : truth x = some k) : exSs cf (.ite c t f :: r) σ = if k = true then exSs cf (t ++ r) σ else exSs cf (f ++ r) σ := by
  rw [x_if, h]; show (match truth x with | some t => _ | none => _) = _; rw [hx]
theorem r_if {k : Bool} (h : evE cf (vis σ) c = some x) (hx : truth x = some k) (ht : k = true → Run cf (t ++ r) σ d fr) (hf : k = false → Run cf (f ++ r) σ d fr) : Run cf (.ite c t f :: r) σ d fr := by
  unfold Run; rw [x_ifb h hx]
  cases k with
  | true => exact ht rfl
  | false => exact hf rfl
theorem r_ret (h : evF cf (vis σ) e = some (d, fr)) (hv : e.isVar = false) : Run cf (.ret e :: r) σ d fr := by
  unfold Run; rw [x_ret]
  cases e <;> first | (cases hv; done) | (simp only [h]; rfl)
theorem r_retv (h : σ.lookup z = some (fr, d)) : Run cf (.ret (.var z) :: r) σ d fr := by
  unfold Run; rw [x_ret]; simp only [h]; rfl
theorem r_for {src : ME} {its : List D} (hs : evE cf (vis σ) src = some x) (hi : x.items = some its) (h : forD (bodyF cf body z) its (freeze src.names σ) = some (.next, σ')) (k : Run cf r σ' d fr) : Run cf (.for_ z src body :: r) σ d fr := by
  unfold Run; rw [x_for, hs]; simp only [hi, h, thenS_next]; exact k
theorem r_forR {src : ME} {its : List D} (hs : evE cf (vis σ) src = some x) (hi : x.items = some its) (h : forD (bodyF cf body z) its (freeze src.names σ) = some (.ret fr d, σ')) : Run cf (.for_ z src body :: r) σ d fr := by
  unfold Run; rw [x_for, hs]; simp only [hi, h, thenS_ret]; rfl
theorem r_forr {src : ME} {ds : List D} (hs : evE cf (vis σ) src = some (.tup ds)) (h : forD (bodyF cf body z) ds.reverse (freeze src.names σ) = some (.next, σ')) (k : Run cf r σ' d fr) : Run cf (.forr z src body :: r) σ d fr := by
  unfold Run; rw [x_forr _ _ _ _ _ _ hs, h, thenS_next]; exact k
theorem run_call {P : List (String × Fn)} {X : CF} {g : String} {ps : List String} {bd : List MS} {n : Nat} {args : List D} (h : P.lookup g = some ⟨ps, bd⟩) (hl : args.length = ps.length) (k : Run (callN P X n) bd ((ps.zip args).map fun p => (p.1, (false, p.2))) d fr) :
    (callN P X (n + 1)).call g args = some (d, fr) := by rw [call_eq n args h hl]; exact k
theorem no_tf {k : Bool} {α : Prop} (h : k = true) (h' : k = false) : α := by rw [h] at h'; cases h'
theorem bin_ss {u v : Str} (h : u.length + v.length ≤ big) : binD .Add (.str u) (.str v) = some (.str (u ++ v)) := if_pos h
theorem bin_tt {u v : List D} (h : u.length + v.length ≤ big) : binD .Add (.tup u) (.tup v) = some (.tup (u ++ v)) := if_pos h
theorem bin_sm {u : Str} {k : Int} (h : 0 ≤ k ∧ k ≤ 1000 ∧ u.length ≤ 1000) : binD .Mult (.str u) (.int k) = some (.str (Txt.mul u k)) := if_pos h
theorem sub_s {u : Str} {k : Int} (h : 0 ≤ k ∧ k < u.length ∧ u.length ≤ big) : subD (.str u) (.int k) = some (.str (charAt u k.toNat)) := if_pos h
theorem sub_l {u : List D} {k : Nat} (h : k < u.length) (he : u[k]? = some d) : subD (.list u) (.int k) = some d := by
  show (idx k u.length).bind _ = _
  have : idx (k : Int) u.length = some k := by unfold idx; have : (k : Int) < u.length := by omega
                                               simp [this]
  rw [this]; exact he
theorem sub_t {u : List D} {k : Nat} (h : k < u.length) (he : u[k]? = some d) : subD (.tup u) (.int k) = some d := sub_l h he
theorem blt_rng {k : Nat} (h : k ≤ big) : bltD "range" [.int k] = some (.rng 0 k) := by
  show (if _ then _ else _) = _
  exact if_pos (by omega)
theorem len_s {u : Str} (h : u.length ≤ big) : bltD "len" [.str u] = some (.int u.length) := if_pos h
/-! runs that end in one of many answers -/
noncomputable def Rex (cf : CF) (ss : List MS) (σ : St) (Q : D → Bool → Prop) : Prop := ∃ d fr, Q d fr ∧ Run cf ss σ d fr
variable {Q : D → Bool → Prop}
theorem q_step {s : MS} (h : Stp cf s σ σ') (k : Rex cf r σ' Q) : Rex cf (s :: r) σ Q := let ⟨d, fr, q, k⟩ := k; ⟨d, fr, q, r_step h k⟩
theorem q_if {k : Bool} (h : evE cf (vis σ) c = some x) (hx : truth x = some k) (ht : k = true → Rex cf (t ++ r) σ Q) (hf : k = false → Rex cf (f ++ r) σ Q) : Rex cf (.ite c t f :: r) σ Q := by
  cases k with
  | true => obtain ⟨d, fr, q, k⟩ := ht rfl; exact ⟨d, fr, q, r_if h hx (fun _ => k) nofun⟩
  | false => obtain ⟨d, fr, q, k⟩ := hf rfl; exact ⟨d, fr, q, r_if h hx nofun fun _ => k⟩
theorem q_ret (h : evF cf (vis σ) e = some (d, fr)) (hv : e.isVar = false) (q : Q d fr) : Rex cf (.ret e :: r) σ Q := ⟨d, fr, q, r_ret h hv⟩
theorem q_retv (h : σ.lookup z = some (fr, d)) (q : Q d fr) : Rex cf (.ret (.var z) :: r) σ Q := ⟨d, fr, q, r_retv h⟩
theorem rex_call {P : List (String × Fn)} {X : CF} {g : String} {ps : List String} {bd : List MS} {n : Nat} {args : List D} (h : P.lookup g = some ⟨ps, bd⟩) (hl : args.length = ps.length) (k : Rex (callN P X n) bd ((ps.zip args).map fun p => (p.1, (false, p.2))) Q) :
    ∃ d fr, Q d fr ∧ (callN P X (n + 1)).call g args = some (d, fr) := let ⟨d, fr, q, k⟩ := k; ⟨d, fr, q, run_call h hl k⟩
theorem v_rows {elt src : ME} {k : Nat} (hk : k ≤ 1000) (R : D → Prop) (hs : evE cf ρ src = some (.int k)) (h : ∀ i : Nat, i < k → ∃ d, R d ∧ evE cf ((z, .int i) :: ρ) elt = some d) :
    ∃ ds : List D, ds.length = k ∧ (∀ d ∈ ds, R d) ∧ evE cf ρ (.blt "tuple" [.comp elt z (.blt "range" [src]) []]) = some (.tup ds) := by
  obtain ⟨ds, e, hl, hq⟩ := compM_ok (compF cf ρ elt z []) (fun _ d => R d) ((List.range k).map fun (i : Nat) => D.int (i : Int)) (by
    intro it hit
    obtain ⟨i, hi, rfl⟩ := List.mem_map.mp hit
    obtain ⟨d, q, e⟩ := h i (List.mem_range.mp hi)
    exact ⟨d, q, compF_nil e⟩)
  have hb : k ≤ big := Nat.le_trans hk (by decide)
  have hl' : ((List.range k).map fun (i : Nat) => D.int (i : Int)).length = k := by simp
  refine ⟨ds, hl.trans hl', fun d hd => let ⟨_, _, q⟩ := hq d hd; q, ?_⟩
  exact v_blt (v_cons (v_comp (v_blt (v_cons hs (es_nil _ _)) (blt_rng hb)) (items_rng k) (Nat.le_trans (Nat.le_of_eq hl') hb) e) (es_nil _ _)) rfl
/-! a block's outcome -/
noncomputable def Out (cf : CF) (ss : List MS) (σ : St) (R : Fl → St → Prop) : Prop := ∃ fl σ', R fl σ' ∧ exSs cf ss σ = some (fl, σ')
variable {R : Fl → St → Prop}
theorem o_step {s : MS} (h : Stp cf s σ σ') (k : Out cf r σ' R) : Out cf (s :: r) σ R := let ⟨fl, s', q, k⟩ := k; ⟨fl, s', q, (h.go r).trans k⟩
theorem o_if {k : Bool} (h : evE cf (vis σ) c = some x) (hx : truth x = some k) (ht : k = true → Out cf (t ++ r) σ R) (hf : k = false → Out cf (f ++ r) σ R) : Out cf (.ite c t f :: r) σ R := by
  unfold Out; rw [x_ifb h hx]
  cases k with
  | true => exact ht rfl
  | false => exact hf rfl
theorem o_ret (h : evF cf (vis σ) e = some (d, fr)) (hv : e.isVar = false) (q : R (.ret fr d) σ) : Out cf (.ret e :: r) σ R := by
  refine ⟨_, _, q, ?_⟩
  rw [x_ret]
  cases e <;> first | (cases hv; done) | (simp only [h])
theorem o_nil (q : R .next σ) : Out cf [] σ R := ⟨_, _, q, x_nil cf σ⟩
theorem o_norm (h : σ = σ') (k : Out cf r σ' R) : Out cf r σ R := h ▸ k
theorem p_cell (h : evF cf (vis σ) e = some (d, fr)) (hc : d.isCell = true) : Stp cf (.assign z e) σ (setv σ z (fr, d)) := by
  have := p_assign (z := z) h
  unfold settle at this
  rwa [if_pos (by cases d <;> first | rfl | cases hc)] at this
theorem loop_inv (I : List D → St → Prop) : ∀ (its pre : List D) (σ : St), I pre σ → (∀ a it b σ, pre ++ its = a ++ it :: b → I a σ → Out cf body (setv σ z (false, it)) fun fl σ' => fl = .next ∧ I (a ++ [it]) σ') →
    ∃ σ', I (pre ++ its) σ' ∧ forD (bodyF cf body z) its σ = some (.next, σ')
  | [], pre, σ, h, _ => ⟨σ, by simpa using h, rfl⟩
  | it :: r, pre, σ, h, hs => by
    obtain ⟨fl, σ₁, ⟨rfl, i1⟩, e⟩ := hs pre it r σ rfl h
    obtain ⟨σ₂, i2, e2⟩ := loop_inv I r (pre ++ [it]) σ₁ i1 fun a i b s h => hs a i b s (by simpa using h)
    exact ⟨σ₂, by simpa using i2, by rw [forB_cons, e]; exact e2⟩
end

/-! states known by what they hold -/
noncomputable def HasR (ρ : List (String × D)) (x : String) (d : D) : Prop := ρ.lookup x = some d
noncomputable def Has (σ : St) (x : String) (d : D) : Prop := ∃ fr, σ.lookup x = some (fr, d)
noncomputable def OwnV (σ : St) (x : String) (d : D) : Prop := σ.lookup x = some (true, d)
section
variable {cf : CF} {ρ : List (String × D)} {σ : St} {x y : String} {d e : D} {v : Bool × D} {ns : List String} {fr : Bool}
theorem hr_eq : HasR ((x, d) :: ρ) x d := by unfold HasR; rw [List.lookup_cons, beq_self_eq_true]
theorem hr_ne (h : (x == y) = false) (k : HasR ρ x d) : HasR ((y, e) :: ρ) x d := by unfold HasR; rw [List.lookup_cons, h]; exact k
theorem hr_vis (h : Has σ x d) : HasR (vis σ) x d := by obtain ⟨fr, h⟩ := h; unfold HasR; rw [lookup_vis, h]; rfl
theorem h_eq : Has (setv σ x (fr, d)) x d := ⟨fr, by rw [lookup_setv, if_pos rfl]⟩
theorem h_ne (h : (x == y) = false) (k : Has σ x d) : Has (setv σ y v) x d := let ⟨fr, k⟩ := k; ⟨fr, by rw [lookup_setv, if_neg (by rintro rfl; rw [beq_self_eq_true] at h; cases h)]; exact k⟩
theorem h_fr (k : Has σ x d) : Has (freeze ns σ) x d := let ⟨fr, k⟩ := k; ⟨_, by rw [lookup_freeze, k]; rfl⟩
theorem h_st (k : Has σ x d) : Has (settle e ns σ) x d := by unfold settle; split; exact k; exact h_fr k
theorem h_cons : Has ((x, (fr, d)) :: σ) x d := ⟨fr, by rw [List.lookup_cons, beq_self_eq_true]⟩
theorem h_consn (h : (x == y) = false) (k : Has σ x d) : Has ((y, v) :: σ) x d := let ⟨fr, k⟩ := k; ⟨fr, by rw [List.lookup_cons, h]; exact k⟩
theorem h_own (k : OwnV σ x d) : Has σ x d := ⟨true, k⟩
theorem w_eq : OwnV (setv σ x (true, d)) x d := by unfold OwnV; rw [lookup_setv, if_pos rfl]
theorem w_ne (h : (x == y) = false) (k : OwnV σ x d) : OwnV (setv σ y v) x d := by unfold OwnV; rw [lookup_setv, if_neg (by rintro rfl; rw [beq_self_eq_true] at h; cases h)]; exact k
theorem w_fr (h : ns.contains x = false) (k : OwnV σ x d) : OwnV (freeze ns σ) x d := by unfold OwnV; rw [lookup_freeze, k]; show some (true && !ns.contains x, d) = _; rw [h]; rfl
theorem w_st (h : ns.contains x = false) (k : OwnV σ x d) : OwnV (settle e ns σ) x d := by unfold settle; split; exact k; exact w_fr h k
theorem v_neg1 : evE cf ρ (.neg (.int 1)) = some (.int (-1)) := rfl
theorem v_var (h : HasR ρ x d) : evE cf ρ (.var x) = some d := h
end

set_option maxRecDepth 100000
set_option maxHeartbeats 4000000
noncomputable def fn_before : Fn := ⟨["one", "other"], [
    .ite (.cmp .NotEq (.isi (.var "one") "str") (.isi (.var "other") "str")) [.ret (.isi (.var "other") "str")] [],
    .ret (.cmp .Lt (.var "one") (.var "other"))]⟩
noncomputable def fn_law_before : Fn := ⟨["_law_one", "_law_other"], [
    .ite (.bop .And [.isi (.var "_law_one") "str", .isi (.var "_law_other") "str"]) [.ret (.cmp .Lt (.var "_law_one") (.var "_law_other"))] [],
    .ite (.bop .Or [.isi (.var "_law_one") "str", .isi (.var "_law_other") "str"]) [.ret (.isi (.var "_law_other") "str")] [],
    .ret (.cmp .Lt (.var "_law_one") (.var "_law_other"))]⟩
noncomputable def fn_law_alike : Fn := ⟨["_law_one", "_law_other"], [
    .ite (.bop .Or [.isi (.var "_law_one") "str", .isi (.var "_law_other") "str"]) [.ret (.bop .And [.isi (.var "_law_one") "str", .isi (.var "_law_other") "str", .cmp .Eq (.var "_law_one") (.var "_law_other")])] [],
    .ret (.cmp .Eq (.var "_law_one") (.var "_law_other"))]⟩
noncomputable def fn_law_sign_by : Fn := ⟨["_law_cell"], [
    .assign "_law_some" (.str " !\"#$&'()*+,-./0123456789:;<=>?@ABCDEFGHIJKLMNOPQRSTUVWXYZ[\\]^_`"),
    .assign "_law_some" (.bin .Add (.var "_law_some") (.str "abcdefghijklmnopqrstuvwxyz{|}~")),
    .ret (.sub (.var "_law_some") (.bin .Mod (.var "_law_cell") (.int 94)))]⟩
noncomputable def fn_law_cell_at : Fn := ⟨["_law_script", "_law_k"], [
    .ite (.cmp .Lt (.var "_law_k") (.blt "len" [.var "_law_script"])) [.ret (.sub (.var "_law_script") (.var "_law_k"))] [],
    .ret (.int 0)]⟩
noncomputable def fn_law_thing_by : Fn := ⟨["_law_cell"], [
    .assign "_law_way" (.bin .Mod (.var "_law_cell") (.int 9)),
    .assign "_law_rest" (.bin .FloorDiv (.var "_law_cell") (.int 9)),
    .ite (.cmp .Lt (.var "_law_way") (.int 4)) [.ret (.bin .Sub (.bin .Mod (.var "_law_rest") (.int 4)) (.int 1))] [],
    .ite (.cmp .Eq (.var "_law_way") (.int 4)) [.ret (.bin .Sub (.bin .Mod (.var "_law_rest") (.int 2000001)) (.int 1000000))] [],
    .ite (.cmp .Eq (.var "_law_way") (.int 5)) [.ret (.sub (.lst [.str "a", .str "b", .str "1", .str "0", .str "-1", .str "col", .str "is", .str "count"]) (.bin .Mod (.var "_law_rest") (.int 8)))] [],
    .ite (.cmp .Eq (.var "_law_way") (.int 6)) [.ret (.bin .Mult (.call "_law_sign_by" [.var "_law_rest"]) (.bin .Mod (.bin .FloorDiv (.var "_law_rest") (.int 94)) (.int 100)))] [],
    .ite (.cmp .Eq (.var "_law_way") (.int 7)) [.ret (.bin .Add (.bin .Sub (.bin .Mod (.bin .Pow (.bin .Add (.bin .Mod (.var "_law_rest") (.bin .Pow (.int 10) (.int 60))) (.int 3)) (.int 9)) (.bin .Sub (.bin .Mult (.int 2) (.bin .Pow (.int 10) (.int 60))) (.int 1))) (.bin .Pow (.int 10) (.int 60))) (.int 1))] [],
    .assign "_law_word" (.sl (.str "any word") .none (.bin .Mod (.var "_law_rest") (.int 9))),
    .assign "_law_at" (.bin .Mod (.bin .FloorDiv (.var "_law_rest") (.int 9)) (.bin .Add (.blt "len" [.var "_law_word"]) (.int 1))),
    .ret (.bin .Add (.bin .Add (.sl (.var "_law_word") .none (.var "_law_at")) (.call "_law_sign_by" [.bin .FloorDiv (.var "_law_rest") (.int 81)])) (.sl (.var "_law_word") (.var "_law_at") .none))]⟩
noncomputable def fn_law_mixed : Fn := ⟨["_law_cell", "_law_k"], [
    .ret (.bin .Mod (.bin .Pow (.bin .Mod (.bin .Add (.bin .Mult (.var "_law_cell") (.int 48271)) (.bin .Mult (.bin .Add (.var "_law_k") (.int 1)) (.int 1299721))) (.int 2147483647)) (.int 5)) (.int 2147483647))]⟩
structure BG (P : List (String × Fn)) : Prop where
  sign : P.lookup "_law_sign_by" = some fn_law_sign_by
  cell : P.lookup "_law_cell_at" = some fn_law_cell_at
  thing : P.lookup "_law_thing_by" = some fn_law_thing_by
  mixed : P.lookup "_law_mixed" = some fn_law_mixed
structure BC (P : List (String × Fn)) : Prop where
  before : P.lookup "before" = some fn_before
  lalike : P.lookup "_law_alike" = some fn_law_alike
  lbefore : P.lookup "_law_before" = some fn_law_before
noncomputable def signs : Str := Str.ofString " !\"#$&'()*+,-./0123456789:;<=>?@ABCDEFGHIJKLMNOPQRSTUVWXYZ[\\]^_`" ++ Str.ofString "abcdefghijklmnopqrstuvwxyz{|}~"
theorem signs_len : signs.length = 94 := by decide +kernel
theorem emod_nat (c : Int) {k : Nat} (h : 0 < k) : ∃ m : Nat, c % (k : Int) = m ∧ m < k := ⟨(c % k).toNat, (Int.toNat_of_nonneg (Int.emod_nonneg _ (by omega))).symm, by have := Int.emod_nonneg c (b := (k : Int)) (by omega); have := Int.emod_lt_of_pos c (b := (k : Int)) (by omega); omega⟩
section
variable {P : List (String × Fn)} {X : CF}
theorem sign_by (B : BG P) (n : Nat) (c : Int) : ∃ x : Str, x.length = 1 ∧ (callN P X (n + 1)).call "_law_sign_by" [.int c] = some (.str x, false) := by
  have h1 : (Str.ofString " !\"#$&'()*+,-./0123456789:;<=>?@ABCDEFGHIJKLMNOPQRSTUVWXYZ[\\]^_`").length + (Str.ofString "abcdefghijklmnopqrstuvwxyz{|}~").length ≤ big := by decide +kernel
  have h2 : 0 ≤ c % 94 ∧ c % 94 < (signs.length : Int) ∧ signs.length ≤ big := by rw [signs_len]; refine ⟨by omega, by omega, by decide⟩
  refine ⟨charAt signs (c % 94).toNat, rfl, run_call B.sign rfl ?_⟩
  have q : binD .Add (.str (Str.ofString " !\"#$&'()*+,-./0123456789:;<=>?@ABCDEFGHIJKLMNOPQRSTUVWXYZ[\\]^_`")) (.str (Str.ofString "abcdefghijklmnopqrstuvwxyz{|}~")) = some (.str signs) := bin_ss h1
  have q2 := sub_s h2
  (repeat' (first | ((first | apply r_step | apply q_step | apply o_step); (focus ((first | ((with_reducible apply p_cell); (focus ((repeat' (first | (with_reducible (first | assumption | apply e_int | apply e_str | apply e_bool | apply e_none | apply es_nil)) | ((with_reducible apply v_var); (focus ((repeat' (first | (with_reducible (first | assumption | exact h_eq | exact hr_eq | exact w_eq | exact h_cons | apply h_own; assumption)) | ((with_reducible (first | apply h_ne | apply hr_ne | apply w_ne | apply h_consn | apply w_st | apply w_fr)); (focus (exact rfl))) | (with_reducible (first | apply hr_vis | apply h_st | apply h_fr)))); done))) | ((with_reducible apply v_var); exact rfl) | ((with_reducible refine (e_glob _ _ _).trans ?_); (with_reducible assumption)) | (with_reducible (first | exact v_neg1 | apply v_cons | apply v_bin | exact b_add | exact b_sb | apply b_mod | apply b_div)) | ((with_reducible apply b_mulL); (focus decide)) | (with_reducible (first | apply b_mul | apply v_cmp | apply v_sub | apply v_sl | apply v_not | apply v_isi | apply v_blt | apply v_tup | apply v_lst | apply v_lcp | apply v_callE | apply v_call | apply v_bop1)) | ((with_reducible (first | apply v_and | apply v_or)); rotate_left; intro _; rotate_right) | (with_reducible apply v_map) | ((with_reducible (first | show cmpD _ _ _ = _ | show truth _ = _ | show isiD _ _ = _ | show frF _ _ = _ | show isCallE _ = _ | show bltD _ _ = _ | show lstD _ = _ | show subD _ _ = _)); exact rfl) | decide | exact Nat.le_of_ble_eq_true rfl)); done)); (with_reducible assumption)) | ((with_reducible apply p_assign); (repeat' (first | (with_reducible (first | assumption | apply e_int | apply e_str | apply e_bool | apply e_none | apply es_nil)) | ((with_reducible apply v_var); (focus ((repeat' (first | (with_reducible (first | assumption | exact h_eq | exact hr_eq | exact w_eq | exact h_cons | apply h_own; assumption)) | ((with_reducible (first | apply h_ne | apply hr_ne | apply w_ne | apply h_consn | apply w_st | apply w_fr)); (focus (exact rfl))) | (with_reducible (first | apply hr_vis | apply h_st | apply h_fr)))); done))) | ((with_reducible apply v_var); exact rfl) | ((with_reducible refine (e_glob _ _ _).trans ?_); (with_reducible assumption)) | (with_reducible (first | exact v_neg1 | apply v_cons | apply v_bin | exact b_add | exact b_sb | apply b_mod | apply b_div)) | ((with_reducible apply b_mulL); (focus decide)) | (with_reducible (first | apply b_mul | apply v_cmp | apply v_sub | apply v_sl | apply v_not | apply v_isi | apply v_blt | apply v_tup | apply v_lst | apply v_lcp | apply v_callE | apply v_call | apply v_bop1)) | ((with_reducible (first | apply v_and | apply v_or)); rotate_left; intro _; rotate_right) | (with_reducible apply v_map) | ((with_reducible (first | show cmpD _ _ _ = _ | show truth _ = _ | show isiD _ _ = _ | show frF _ _ = _ | show isCallE _ = _ | show bltD _ _ = _ | show lstD _ = _ | show subD _ _ = _)); exact rfl) | decide | exact Nat.le_of_ble_eq_true rfl)); done))))) | ((first | apply r_if | apply q_if | apply o_if); (((focus ((repeat' (first | (with_reducible (first | assumption | apply e_int | apply e_str | apply e_bool | apply e_none | apply es_nil)) | ((with_reducible apply v_var); (focus ((repeat' (first | (with_reducible (first | assumption | exact h_eq | exact hr_eq | exact w_eq | exact h_cons | apply h_own; assumption)) | ((with_reducible (first | apply h_ne | apply hr_ne | apply w_ne | apply h_consn | apply w_st | apply w_fr)); (focus (exact rfl))) | (with_reducible (first | apply hr_vis | apply h_st | apply h_fr)))); done))) | ((with_reducible apply v_var); exact rfl) | ((with_reducible refine (e_glob _ _ _).trans ?_); (with_reducible assumption)) | (with_reducible (first | exact v_neg1 | apply v_cons | apply v_bin | exact b_add | exact b_sb | apply b_mod | apply b_div)) | ((with_reducible apply b_mulL); (focus decide)) | (with_reducible (first | apply b_mul | apply v_cmp | apply v_sub | apply v_sl | apply v_not | apply v_isi | apply v_blt | apply v_tup | apply v_lst | apply v_lcp | apply v_callE | apply v_call | apply v_bop1)) | ((with_reducible (first | apply v_and | apply v_or)); rotate_left; intro _; rotate_right) | (with_reducible apply v_map) | ((with_reducible (first | show cmpD _ _ _ = _ | show truth _ = _ | show isiD _ _ = _ | show frF _ _ = _ | show isCallE _ = _ | show bltD _ _ = _ | show lstD _ = _ | show subD _ _ = _)); exact rfl) | decide | exact Nat.le_of_ble_eq_true rfl)); done)); (focus (exact rfl)); (focus (intro hh; first | exact no_tf hh (by assumption) | exact absurd hh (by decide) | skip)); rotate_left; (focus (intro hh; first | exact no_tf (by assumption) hh | exact absurd hh (by decide) | skip))))) | ((first | apply r_retv | apply q_retv); (focus (exact rfl))) | ((first | apply r_ret | apply q_ret | apply o_ret); (focus ((repeat' (first | (with_reducible (first | assumption | apply e_int | apply e_str | apply e_bool | apply e_none | apply es_nil)) | ((with_reducible apply v_var); (focus ((repeat' (first | (with_reducible (first | assumption | exact h_eq | exact hr_eq | exact w_eq | exact h_cons | apply h_own; assumption)) | ((with_reducible (first | apply h_ne | apply hr_ne | apply w_ne | apply h_consn | apply w_st | apply w_fr)); (focus (exact rfl))) | (with_reducible (first | apply hr_vis | apply h_st | apply h_fr)))); done))) | ((with_reducible apply v_var); exact rfl) | ((with_reducible refine (e_glob _ _ _).trans ?_); (with_reducible assumption)) | (with_reducible (first | exact v_neg1 | apply v_cons | apply v_bin | exact b_add | exact b_sb | apply b_mod | apply b_div)) | ((with_reducible apply b_mulL); (focus decide)) | (with_reducible (first | apply b_mul | apply v_cmp | apply v_sub | apply v_sl | apply v_not | apply v_isi | apply v_blt | apply v_tup | apply v_lst | apply v_lcp | apply v_callE | apply v_call | apply v_bop1)) | ((with_reducible (first | apply v_and | apply v_or)); rotate_left; intro _; rotate_right) | (with_reducible apply v_map) | ((with_reducible (first | show cmpD _ _ _ = _ | show truth _ = _ | show isiD _ _ = _ | show frF _ _ = _ | show isCallE _ = _ | show bltD _ _ = _ | show lstD _ = _ | show subD _ _ = _)); exact rfl) | decide | exact Nat.le_of_ble_eq_true rfl)); done)); (focus (exact rfl))) | apply o_nil))
noncomputable def alikeV (a b : D) : Bool := cellEq a b
noncomputable def beforeV (a b : D) : Bool := match a with
  | .int i => (match b with | .int j => decide (i < j) | _ => true)
  | .str x => (match b with | .str y => decide (x.cps.toList < y.cps.toList) | _ => false)
  | _ => false
theorem lalike_eq (B : BC P) (n : Nat) (a b : D) (ha : a.isCell = true) (hb : b.isCell = true) : (callN P X (n + 1)).call "_law_alike" [a, b] = some (.bool (alikeV a b), false) := by
  refine run_call B.lalike rfl ?_
  cases a <;> first | (cases ha; done) | (cases b <;> first | (cases hb; done) | rfl)
theorem lbefore_eq (B : BC P) (n : Nat) (a b : D) (ha : a.isCell = true) (hb : b.isCell = true) : (callN P X (n + 1)).call "_law_before" [a, b] = some (.bool (beforeV a b), false) := by
  refine run_call B.lbefore rfl ?_
  cases a <;> first | (cases ha; done) | (cases b <;> first | (cases hb; done) | rfl)
theorem cell_at (B : BG P) (n : Nat) (ns : List Int) (k : Nat) : (callN P X (n + 1)).call "_law_cell_at" [.list (ns.map .int), .int k] = some (.int (ns.getD k 0), false) := by
  have hl : (ns.map D.int).length = ns.length := List.length_map ..
  refine run_call B.cell rfl ?_
  by_cases h : k < ns.length
  · have h1 : decide ((k : Int) < (ns.map D.int).length) = true := decide_eq_true (by omega)
    have h2 : subD (.list (ns.map .int)) (.int k) = some (.int (ns.getD k 0)) := sub_l (by omega) (by simp [h])
    (repeat' (first | ((first | apply r_step | apply q_step | apply o_step); (focus ((first | ((with_reducible apply p_cell); (focus ((repeat' (first | (with_reducible (first | assumption | apply e_int | apply e_str | apply e_bool | apply e_none | apply es_nil)) | ((with_reducible apply v_var); (focus ((repeat' (first | (with_reducible (first | assumption | exact h_eq | exact hr_eq | exact w_eq | exact h_cons | apply h_own; assumption)) | ((with_reducible (first | apply h_ne | apply hr_ne | apply w_ne | apply h_consn | apply w_st | apply w_fr)); (focus (exact rfl))) | (with_reducible (first | apply hr_vis | apply h_st | apply h_fr)))); done))) | ((with_reducible apply v_var); exact rfl) | ((with_reducible refine (e_glob _ _ _).trans ?_); (with_reducible assumption)) | (with_reducible (first | exact v_neg1 | apply v_cons | apply v_bin | exact b_add | exact b_sb | apply b_mod | apply b_div)) | ((with_reducible apply b_mulL); (focus decide)) | (with_reducible (first | apply b_mul | apply v_cmp | apply v_sub | apply v_sl | apply v_not | apply v_isi | apply v_blt | apply v_tup | apply v_lst | apply v_lcp | apply v_callE | apply v_call | apply v_bop1)) | ((with_reducible (first | apply v_and | apply v_or)); rotate_left; intro _; rotate_right) | (with_reducible apply v_map) | ((with_reducible (first | show cmpD _ _ _ = _ | show truth _ = _ | show isiD _ _ = _ | show frF _ _ = _ | show isCallE _ = _ | show bltD _ _ = _ | show lstD _ = _ | show subD _ _ = _)); exact rfl) | decide | exact Nat.le_of_ble_eq_true rfl)); done)); (with_reducible assumption)) | ((with_reducible apply p_assign); (repeat' (first | (with_reducible (first | assumption | apply e_int | apply e_str | apply e_bool | apply e_none | apply es_nil)) | ((with_reducible apply v_var); (focus ((repeat' (first | (with_reducible (first | assumption | exact h_eq | exact hr_eq | exact w_eq | exact h_cons | apply h_own; assumption)) | ((with_reducible (first | apply h_ne | apply hr_ne | apply w_ne | apply h_consn | apply w_st | apply w_fr)); (focus (exact rfl))) | (with_reducible (first | apply hr_vis | apply h_st | apply h_fr)))); done))) | ((with_reducible apply v_var); exact rfl) | ((with_reducible refine (e_glob _ _ _).trans ?_); (with_reducible assumption)) | (with_reducible (first | exact v_neg1 | apply v_cons | apply v_bin | exact b_add | exact b_sb | apply b_mod | apply b_div)) | ((with_reducible apply b_mulL); (focus decide)) | (with_reducible (first | apply b_mul | apply v_cmp | apply v_sub | apply v_sl | apply v_not | apply v_isi | apply v_blt | apply v_tup | apply v_lst | apply v_lcp | apply v_callE | apply v_call | apply v_bop1)) | ((with_reducible (first | apply v_and | apply v_or)); rotate_left; intro _; rotate_right) | (with_reducible apply v_map) | ((with_reducible (first | show cmpD _ _ _ = _ | show truth _ = _ | show isiD _ _ = _ | show frF _ _ = _ | show isCallE _ = _ | show bltD _ _ = _ | show lstD _ = _ | show subD _ _ = _)); exact rfl) | decide | exact Nat.le_of_ble_eq_true rfl)); done))))) | ((first | apply r_if | apply q_if | apply o_if); (((focus ((repeat' (first | (with_reducible (first | assumption | apply e_int | apply e_str | apply e_bool | apply e_none | apply es_nil)) | ((with_reducible apply v_var); (focus ((repeat' (first | (with_reducible (first | assumption | exact h_eq | exact hr_eq | exact w_eq | exact h_cons | apply h_own; assumption)) | ((with_reducible (first | apply h_ne | apply hr_ne | apply w_ne | apply h_consn | apply w_st | apply w_fr)); (focus (exact rfl))) | (with_reducible (first | apply hr_vis | apply h_st | apply h_fr)))); done))) | ((with_reducible apply v_var); exact rfl) | ((with_reducible refine (e_glob _ _ _).trans ?_); (with_reducible assumption)) | (with_reducible (first | exact v_neg1 | apply v_cons | apply v_bin | exact b_add | exact b_sb | apply b_mod | apply b_div)) | ((with_reducible apply b_mulL); (focus decide)) | (with_reducible (first | apply b_mul | apply v_cmp | apply v_sub | apply v_sl | apply v_not | apply v_isi | apply v_blt | apply v_tup | apply v_lst | apply v_lcp | apply v_callE | apply v_call | apply v_bop1)) | ((with_reducible (first | apply v_and | apply v_or)); rotate_left; intro _; rotate_right) | (with_reducible apply v_map) | ((with_reducible (first | show cmpD _ _ _ = _ | show truth _ = _ | show isiD _ _ = _ | show frF _ _ = _ | show isCallE _ = _ | show bltD _ _ = _ | show lstD _ = _ | show subD _ _ = _)); exact rfl) | decide | exact Nat.le_of_ble_eq_true rfl)); done)); (focus (exact rfl)); (focus (intro hh; first | exact no_tf hh (by assumption) | exact absurd hh (by decide) | skip)); rotate_left; (focus (intro hh; first | exact no_tf (by assumption) hh | exact absurd hh (by decide) | skip))))) | ((first | apply r_retv | apply q_retv); (focus (exact rfl))) | ((first | apply r_ret | apply q_ret | apply o_ret); (focus ((repeat' (first | (with_reducible (first | assumption | apply e_int | apply e_str | apply e_bool | apply e_none | apply es_nil)) | ((with_reducible apply v_var); (focus ((repeat' (first | (with_reducible (first | assumption | exact h_eq | exact hr_eq | exact w_eq | exact h_cons | apply h_own; assumption)) | ((with_reducible (first | apply h_ne | apply hr_ne | apply w_ne | apply h_consn | apply w_st | apply w_fr)); (focus (exact rfl))) | (with_reducible (first | apply hr_vis | apply h_st | apply h_fr)))); done))) | ((with_reducible apply v_var); exact rfl) | ((with_reducible refine (e_glob _ _ _).trans ?_); (with_reducible assumption)) | (with_reducible (first | exact v_neg1 | apply v_cons | apply v_bin | exact b_add | exact b_sb | apply b_mod | apply b_div)) | ((with_reducible apply b_mulL); (focus decide)) | (with_reducible (first | apply b_mul | apply v_cmp | apply v_sub | apply v_sl | apply v_not | apply v_isi | apply v_blt | apply v_tup | apply v_lst | apply v_lcp | apply v_callE | apply v_call | apply v_bop1)) | ((with_reducible (first | apply v_and | apply v_or)); rotate_left; intro _; rotate_right) | (with_reducible apply v_map) | ((with_reducible (first | show cmpD _ _ _ = _ | show truth _ = _ | show isiD _ _ = _ | show frF _ _ = _ | show isCallE _ = _ | show bltD _ _ = _ | show lstD _ = _ | show subD _ _ = _)); exact rfl) | decide | exact Nat.le_of_ble_eq_true rfl)); done)); (focus (exact rfl))) | apply o_nil))
  · have h1 : decide ((k : Int) < (ns.map D.int).length) = false := decide_eq_false (by omega)
    have h2 : ns.getD k 0 = 0 := by simp [h]
    rw [h2]
    (repeat' (first | ((first | apply r_step | apply q_step | apply o_step); (focus ((first | ((with_reducible apply p_cell); (focus ((repeat' (first | (with_reducible (first | assumption | apply e_int | apply e_str | apply e_bool | apply e_none | apply es_nil)) | ((with_reducible apply v_var); (focus ((repeat' (first | (with_reducible (first | assumption | exact h_eq | exact hr_eq | exact w_eq | exact h_cons | apply h_own; assumption)) | ((with_reducible (first | apply h_ne | apply hr_ne | apply w_ne | apply h_consn | apply w_st | apply w_fr)); (focus (exact rfl))) | (with_reducible (first | apply hr_vis | apply h_st | apply h_fr)))); done))) | ((with_reducible apply v_var); exact rfl) | ((with_reducible refine (e_glob _ _ _).trans ?_); (with_reducible assumption)) | (with_reducible (first | exact v_neg1 | apply v_cons | apply v_bin | exact b_add | exact b_sb | apply b_mod | apply b_div)) | ((with_reducible apply b_mulL); (focus decide)) | (with_reducible (first | apply b_mul | apply v_cmp | apply v_sub | apply v_sl | apply v_not | apply v_isi | apply v_blt | apply v_tup | apply v_lst | apply v_lcp | apply v_callE | apply v_call | apply v_bop1)) | ((with_reducible (first | apply v_and | apply v_or)); rotate_left; intro _; rotate_right) | (with_reducible apply v_map) | ((with_reducible (first | show cmpD _ _ _ = _ | show truth _ = _ | show isiD _ _ = _ | show frF _ _ = _ | show isCallE _ = _ | show bltD _ _ = _ | show lstD _ = _ | show subD _ _ = _)); exact rfl) | decide | exact Nat.le_of_ble_eq_true rfl)); done)); (with_reducible assumption)) | ((with_reducible apply p_assign); (repeat' (first | (with_reducible (first | assumption | apply e_int | apply e_str | apply e_bool | apply e_none | apply es_nil)) | ((with_reducible apply v_var); (focus ((repeat' (first | (with_reducible (first | assumption | exact h_eq | exact hr_eq | exact w_eq | exact h_cons | apply h_own; assumption)) | ((with_reducible (first | apply h_ne | apply hr_ne | apply w_ne | apply h_consn | apply w_st | apply w_fr)); (focus (exact rfl))) | (with_reducible (first | apply hr_vis | apply h_st | apply h_fr)))); done))) | ((with_reducible apply v_var); exact rfl) | ((with_reducible refine (e_glob _ _ _).trans ?_); (with_reducible assumption)) | (with_reducible (first | exact v_neg1 | apply v_cons | apply v_bin | exact b_add | exact b_sb | apply b_mod | apply b_div)) | ((with_reducible apply b_mulL); (focus decide)) | (with_reducible (first | apply b_mul | apply v_cmp | apply v_sub | apply v_sl | apply v_not | apply v_isi | apply v_blt | apply v_tup | apply v_lst | apply v_lcp | apply v_callE | apply v_call | apply v_bop1)) | ((with_reducible (first | apply v_and | apply v_or)); rotate_left; intro _; rotate_right) | (with_reducible apply v_map) | ((with_reducible (first | show cmpD _ _ _ = _ | show truth _ = _ | show isiD _ _ = _ | show frF _ _ = _ | show isCallE _ = _ | show bltD _ _ = _ | show lstD _ = _ | show subD _ _ = _)); exact rfl) | decide | exact Nat.le_of_ble_eq_true rfl)); done))))) | ((first | apply r_if | apply q_if | apply o_if); (((focus ((repeat' (first | (with_reducible (first | assumption | apply e_int | apply e_str | apply e_bool | apply e_none | apply es_nil)) | ((with_reducible apply v_var); (focus ((repeat' (first | (with_reducible (first | assumption | exact h_eq | exact hr_eq | exact w_eq | exact h_cons | apply h_own; assumption)) | ((with_reducible (first | apply h_ne | apply hr_ne | apply w_ne | apply h_consn | apply w_st | apply w_fr)); (focus (exact rfl))) | (with_reducible (first | apply hr_vis | apply h_st | apply h_fr)))); done))) | ((with_reducible apply v_var); exact rfl) | ((with_reducible refine (e_glob _ _ _).trans ?_); (with_reducible assumption)) | (with_reducible (first | exact v_neg1 | apply v_cons | apply v_bin | exact b_add | exact b_sb | apply b_mod | apply b_div)) | ((with_reducible apply b_mulL); (focus decide)) | (with_reducible (first | apply b_mul | apply v_cmp | apply v_sub | apply v_sl | apply v_not | apply v_isi | apply v_blt | apply v_tup | apply v_lst | apply v_lcp | apply v_callE | apply v_call | apply v_bop1)) | ((with_reducible (first | apply v_and | apply v_or)); rotate_left; intro _; rotate_right) | (with_reducible apply v_map) | ((with_reducible (first | show cmpD _ _ _ = _ | show truth _ = _ | show isiD _ _ = _ | show frF _ _ = _ | show isCallE _ = _ | show bltD _ _ = _ | show lstD _ = _ | show subD _ _ = _)); exact rfl) | decide | exact Nat.le_of_ble_eq_true rfl)); done)); (focus (exact rfl)); (focus (intro hh; first | exact no_tf hh (by assumption) | exact absurd hh (by decide) | skip)); rotate_left; (focus (intro hh; first | exact no_tf (by assumption) hh | exact absurd hh (by decide) | skip))))) | ((first | apply r_retv | apply q_retv); (focus (exact rfl))) | ((first | apply r_ret | apply q_ret | apply o_ret); (focus ((repeat' (first | (with_reducible (first | assumption | apply e_int | apply e_str | apply e_bool | apply e_none | apply es_nil)) | ((with_reducible apply v_var); (focus ((repeat' (first | (with_reducible (first | assumption | exact h_eq | exact hr_eq | exact w_eq | exact h_cons | apply h_own; assumption)) | ((with_reducible (first | apply h_ne | apply hr_ne | apply w_ne | apply h_consn | apply w_st | apply w_fr)); (focus (exact rfl))) | (with_reducible (first | apply hr_vis | apply h_st | apply h_fr)))); done))) | ((with_reducible apply v_var); exact rfl) | ((with_reducible refine (e_glob _ _ _).trans ?_); (with_reducible assumption)) | (with_reducible (first | exact v_neg1 | apply v_cons | apply v_bin | exact b_add | exact b_sb | apply b_mod | apply b_div)) | ((with_reducible apply b_mulL); (focus decide)) | (with_reducible (first | apply b_mul | apply v_cmp | apply v_sub | apply v_sl | apply v_not | apply v_isi | apply v_blt | apply v_tup | apply v_lst | apply v_lcp | apply v_callE | apply v_call | apply v_bop1)) | ((with_reducible (first | apply v_and | apply v_or)); rotate_left; intro _; rotate_right) | (with_reducible apply v_map) | ((with_reducible (first | show cmpD _ _ _ = _ | show truth _ = _ | show isiD _ _ = _ | show frF _ _ = _ | show isCallE _ = _ | show bltD _ _ = _ | show lstD _ = _ | show subD _ _ = _)); exact rfl) | decide | exact Nat.le_of_ble_eq_true rfl)); done)); (focus (exact rfl))) | apply o_nil))
theorem mixed (B : BG P) (n : Nat) (c k : Int) : ∃ r : Int, 0 ≤ r ∧ (callN P X (n + 1)).call "_law_mixed" [.int c, .int k] = some (.int r, false) := by
  have hp : -powLim < (c * 48271 + (k + 1) * 1299721) % 2147483647 ∧ (c * 48271 + (k + 1) * 1299721) % 2147483647 < powLim ∧ (0 : Int) ≤ 5 ∧ (5 : Int) ≤ 100 := by
    have h1 : (2147483647 : Int) < powLim := by decide +kernel
    generalize powLim = pl at *
    generalize c * 48271 + (k + 1) * 1299721 = z
    omega
  have q := b_pow hp
  refine ⟨((c * 48271 + (k + 1) * 1299721) % 2147483647) ^ (5 : Int).toNat % 2147483647, Int.emod_nonneg _ (by decide), run_call B.mixed rfl ?_⟩
  (repeat' (first | ((first | apply r_step | apply q_step | apply o_step); (focus ((first | ((with_reducible apply p_cell); (focus ((repeat' (first | (with_reducible (first | assumption | apply e_int | apply e_str | apply e_bool | apply e_none | apply es_nil)) | ((with_reducible apply v_var); (focus ((repeat' (first | (with_reducible (first | assumption | exact h_eq | exact hr_eq | exact w_eq | exact h_cons | apply h_own; assumption)) | ((with_reducible (first | apply h_ne | apply hr_ne | apply w_ne | apply h_consn | apply w_st | apply w_fr)); (focus (exact rfl))) | (with_reducible (first | apply hr_vis | apply h_st | apply h_fr)))); done))) | ((with_reducible apply v_var); exact rfl) | ((with_reducible refine (e_glob _ _ _).trans ?_); (with_reducible assumption)) | (with_reducible (first | exact v_neg1 | apply v_cons | apply v_bin | exact b_add | exact b_sb | apply b_mod | apply b_div)) | ((with_reducible apply b_mulL); (focus decide)) | (with_reducible (first | apply b_mul | apply v_cmp | apply v_sub | apply v_sl | apply v_not | apply v_isi | apply v_blt | apply v_tup | apply v_lst | apply v_lcp | apply v_callE | apply v_call | apply v_bop1)) | ((with_reducible (first | apply v_and | apply v_or)); rotate_left; intro _; rotate_right) | (with_reducible apply v_map) | ((with_reducible (first | show cmpD _ _ _ = _ | show truth _ = _ | show isiD _ _ = _ | show frF _ _ = _ | show isCallE _ = _ | show bltD _ _ = _ | show lstD _ = _ | show subD _ _ = _)); exact rfl) | decide | exact Nat.le_of_ble_eq_true rfl)); done)); (with_reducible assumption)) | ((with_reducible apply p_assign); (repeat' (first | (with_reducible (first | assumption | apply e_int | apply e_str | apply e_bool | apply e_none | apply es_nil)) | ((with_reducible apply v_var); (focus ((repeat' (first | (with_reducible (first | assumption | exact h_eq | exact hr_eq | exact w_eq | exact h_cons | apply h_own; assumption)) | ((with_reducible (first | apply h_ne | apply hr_ne | apply w_ne | apply h_consn | apply w_st | apply w_fr)); (focus (exact rfl))) | (with_reducible (first | apply hr_vis | apply h_st | apply h_fr)))); done))) | ((with_reducible apply v_var); exact rfl) | ((with_reducible refine (e_glob _ _ _).trans ?_); (with_reducible assumption)) | (with_reducible (first | exact v_neg1 | apply v_cons | apply v_bin | exact b_add | exact b_sb | apply b_mod | apply b_div)) | ((with_reducible apply b_mulL); (focus decide)) | (with_reducible (first | apply b_mul | apply v_cmp | apply v_sub | apply v_sl | apply v_not | apply v_isi | apply v_blt | apply v_tup | apply v_lst | apply v_lcp | apply v_callE | apply v_call | apply v_bop1)) | ((with_reducible (first | apply v_and | apply v_or)); rotate_left; intro _; rotate_right) | (with_reducible apply v_map) | ((with_reducible (first | show cmpD _ _ _ = _ | show truth _ = _ | show isiD _ _ = _ | show frF _ _ = _ | show isCallE _ = _ | show bltD _ _ = _ | show lstD _ = _ | show subD _ _ = _)); exact rfl) | decide | exact Nat.le_of_ble_eq_true rfl)); done))))) | ((first | apply r_if | apply q_if | apply o_if); (((focus ((repeat' (first | (with_reducible (first | assumption | apply e_int | apply e_str | apply e_bool | apply e_none | apply es_nil)) | ((with_reducible apply v_var); (focus ((repeat' (first | (with_reducible (first | assumption | exact h_eq | exact hr_eq | exact w_eq | exact h_cons | apply h_own; assumption)) | ((with_reducible (first | apply h_ne | apply hr_ne | apply w_ne | apply h_consn | apply w_st | apply w_fr)); (focus (exact rfl))) | (with_reducible (first | apply hr_vis | apply h_st | apply h_fr)))); done))) | ((with_reducible apply v_var); exact rfl) | ((with_reducible refine (e_glob _ _ _).trans ?_); (with_reducible assumption)) | (with_reducible (first | exact v_neg1 | apply v_cons | apply v_bin | exact b_add | exact b_sb | apply b_mod | apply b_div)) | ((with_reducible apply b_mulL); (focus decide)) | (with_reducible (first | apply b_mul | apply v_cmp | apply v_sub | apply v_sl | apply v_not | apply v_isi | apply v_blt | apply v_tup | apply v_lst | apply v_lcp | apply v_callE | apply v_call | apply v_bop1)) | ((with_reducible (first | apply v_and | apply v_or)); rotate_left; intro _; rotate_right) | (with_reducible apply v_map) | ((with_reducible (first | show cmpD _ _ _ = _ | show truth _ = _ | show isiD _ _ = _ | show frF _ _ = _ | show isCallE _ = _ | show bltD _ _ = _ | show lstD _ = _ | show subD _ _ = _)); exact rfl) | decide | exact Nat.le_of_ble_eq_true rfl)); done)); (focus (exact rfl)); (focus (intro hh; first | exact no_tf hh (by assumption) | exact absurd hh (by decide) | skip)); rotate_left; (focus (intro hh; first | exact no_tf (by assumption) hh | exact absurd hh (by decide) | skip))))) | ((first | apply r_retv | apply q_retv); (focus (exact rfl))) | ((first | apply r_ret | apply q_ret | apply o_ret); (focus ((repeat' (first | (with_reducible (first | assumption | apply e_int | apply e_str | apply e_bool | apply e_none | apply es_nil)) | ((with_reducible apply v_var); (focus ((repeat' (first | (with_reducible (first | assumption | exact h_eq | exact hr_eq | exact w_eq | exact h_cons | apply h_own; assumption)) | ((with_reducible (first | apply h_ne | apply hr_ne | apply w_ne | apply h_consn | apply w_st | apply w_fr)); (focus (exact rfl))) | (with_reducible (first | apply hr_vis | apply h_st | apply h_fr)))); done))) | ((with_reducible apply v_var); exact rfl) | ((with_reducible refine (e_glob _ _ _).trans ?_); (with_reducible assumption)) | (with_reducible (first | exact v_neg1 | apply v_cons | apply v_bin | exact b_add | exact b_sb | apply b_mod | apply b_div)) | ((with_reducible apply b_mulL); (focus decide)) | (with_reducible (first | apply b_mul | apply v_cmp | apply v_sub | apply v_sl | apply v_not | apply v_isi | apply v_blt | apply v_tup | apply v_lst | apply v_lcp | apply v_callE | apply v_call | apply v_bop1)) | ((with_reducible (first | apply v_and | apply v_or)); rotate_left; intro _; rotate_right) | (with_reducible apply v_map) | ((with_reducible (first | show cmpD _ _ _ = _ | show truth _ = _ | show isiD _ _ = _ | show frF _ _ = _ | show isCallE _ = _ | show bltD _ _ = _ | show lstD _ = _ | show subD _ _ = _)); exact rfl) | decide | exact Nat.le_of_ble_eq_true rfl)); done)); (focus (exact rfl))) | apply o_nil))
end
noncomputable def Good (d : D) : Prop := (∃ i : Int, d = .int i ∧ -(10 ^ 61) < i ∧ i < 10 ^ 61) ∨ ∃ x : Str, d = .str x ∧ x.length ≤ 200
theorem Good.cell {d : D} (h : Good d) : d.isCell = true := by rcases h with ⟨i, rfl, _⟩ | ⟨x, rfl, _⟩ <;> rfl

theorem len_append (x y : Str) : (x ++ y).length = x.length + y.length := by
  show (x.cps ++ y.cps).size = _
  simp [Str.length]
theorem mul_len {x : Str} (hx : x.length = 1) {n : Int} (h0 : 0 ≤ n) (h1 : n ≤ 100) : (Txt.mul x n).length ≤ 100 := by
  unfold Txt.mul
  split
  · decide
  · split
    · omega
    · show ((List.replicate n.toNat x.cps).foldl (· ++ ·) #[]).size ≤ 100
      have : ∀ (k : Nat) (a : Array Nat), ((List.replicate k x.cps).foldl (· ++ ·) a).size = a.size + k := by
        intro k
        induction k with
        | zero => intro a; simp
        | succ k ih =>
          intro a
          rw [List.replicate_succ, List.foldl_cons, ih]
          have : x.cps.size = 1 := hx
          simp; omega
      rw [this]; simp; omega

theorem slD_hi (x : Str) (j : Int) (h : x.length ≤ big) : ∃ W : Str, W.length ≤ x.length ∧ slD (.str x) .none (.int j) = some (.str W) := ⟨_, Txt.slice_le _ _ _, if_pos h⟩
theorem slD_lo (x : Str) (j : Int) (h : x.length ≤ big) : ∃ W : Str, W.length ≤ x.length ∧ slD (.str x) (.int j) .none = some (.str W) := ⟨_, Txt.slice_le _ _ _, if_pos h⟩
noncomputable def T60 : Int := 10 ^ 60
theorem list_pick {l : List D} (hn : 0 < l.length) (c : Int) {R : D → Prop} (h : ∀ d ∈ l, R d) : ∃ d, R d ∧ subD (.list l) (.int (c % (l.length : Int))) = some d := by
  obtain ⟨m, e, hm⟩ := emod_nat c hn
  rw [e]
  exact ⟨l[m], h _ (List.getElem_mem hm), sub_l hm (List.getElem?_eq_getElem hm)⟩
theorem thing_by {P : List (String × Fn)} {X : CF} (B : BG P) (n : Nat) (c : Int) : ∃ d, Good d ∧ (callN P X (n + 2)).call "_law_thing_by" [.int c] = some (d, false) := by
  obtain ⟨x, hx, hs⟩ := sign_by (X := X) B n (c / 9)
  obtain ⟨x', hx', hs'⟩ := sign_by (X := X) B n (c / 9 / 81)
  obtain ⟨y, ⟨y', rfl, hy⟩, q5⟩ := list_pick (l := [.str (Str.ofString "a"), .str (Str.ofString "b"), .str (Str.ofString "1"), .str (Str.ofString "0"), .str (Str.ofString "-1"), .str (Str.ofString "col"), .str (Str.ofString "is"), .str (Str.ofString "count")]) (by decide) (c / 9) (R := fun d => ∃ x : Str, d = .str x ∧ x.length ≤ 200) (by
    intro d hd
    simp only [List.mem_cons, List.not_mem_nil, or_false] at hd
    rcases hd with rfl | rfl | rfl | rfl | rfl | rfl | rfl | rfl <;> exact ⟨_, rfl, by decide +kernel⟩)
  have q5' : subD (.list [.str (Str.ofString "a"), .str (Str.ofString "b"), .str (Str.ofString "1"), .str (Str.ofString "0"), .str (Str.ofString "-1"), .str (Str.ofString "col"), .str (Str.ofString "is"), .str (Str.ofString "count")]) (.int (c / 9 % 8)) = some (.str y') := q5
  have hm : 0 ≤ c / 9 / 94 % 100 ∧ c / 9 / 94 % 100 ≤ 100 := by omega
  have q6 := bin_sm (u := x) (k := c / 9 / 94 % 100) ⟨hm.1, Int.le_trans hm.2 (by decide), by rw [hx]; decide⟩
  have p1 : binD .Pow (.int 10) (.int 60) = some (.int T60) := b_pow (i := 10) (j := 60) (by decide +kernel)
  have t0 : 0 < T60 := by decide +kernel
  have hz : 0 ≤ c / 9 % T60 ∧ c / 9 % T60 < T60 := ⟨Int.emod_nonneg _ (by decide +kernel), Int.emod_lt_of_pos _ t0⟩
  have p2 : binD .Pow (.int (c / 9 % T60 + 3)) (.int 9) = some (.int ((c / 9 % T60 + 3) ^ (9 : Int).toNat)) := b_pow (by
    have h2 : T60 + 3 < powLim := by decide +kernel
    generalize powLim = pl at *
    omega)
  have p3 : binD .Mult (.int 2) (.int T60) = some (.int (2 * T60)) := b_mulL (by decide)
  have t1 : 0 < 2 * T60 - 1 := by omega
  obtain ⟨W, hW, w1⟩ := slD_hi (Str.ofString "any word") (c / 9 % 9) (by decide +kernel)
  have hW8 : W.length ≤ 8 := Nat.le_trans hW (by decide +kernel)
  have hWb : W.length ≤ big := Nat.le_trans hW8 (by decide)
  have w2 := len_s hWb
  have w3 : (0 : Int) < (W.length : Int) + 1 := by omega
  obtain ⟨U, hU, w4⟩ := slD_hi W (c / 9 / 9 % ((W.length : Int) + 1)) hWb
  obtain ⟨V, hV, w5⟩ := slD_lo W (c / 9 / 9 % ((W.length : Int) + 1)) hWb
  have hb0 : (16 : Nat) + 1 ≤ big := by decide
  have w6 := bin_ss (u := U) (v := x') (by omega)
  have w7 := bin_ss (u := U ++ x') (v := V) (by rw [len_append]; omega)
  have g1 : -(10 : Int) ^ 61 < c / 9 % 4 - 1 ∧ c / 9 % 4 - 1 < 10 ^ 61 := by omega
  have g2 : -(10 : Int) ^ 61 < c / 9 % 2000001 - 1000000 ∧ c / 9 % 2000001 - 1000000 < 10 ^ 61 := by omega
  have g3 : -(10 : Int) ^ 61 < (c / 9 % T60 + 3) ^ (9 : Int).toNat % (2 * T60 - 1) - T60 + 1 ∧ (c / 9 % T60 + 3) ^ (9 : Int).toNat % (2 * T60 - 1) - T60 + 1 < 10 ^ 61 := by
    have h1 := Int.emod_nonneg ((c / 9 % T60 + 3) ^ (9 : Int).toNat) (b := 2 * T60 - 1) (by omega)
    have h2 := Int.emod_lt_of_pos ((c / 9 % T60 + 3) ^ (9 : Int).toNat) t1
    generalize (c / 9 % T60 + 3) ^ (9 : Int).toNat % (2 * T60 - 1) = v at *
    have e2 : (10 : Int) ^ 61 = 10 * T60 := by decide +kernel
    rw [e2]
    generalize T60 = tt at *
    omega
  have g4 : (U ++ x' ++ V).length ≤ 200 := by rw [len_append, len_append]; omega
  have g5 := Nat.le_trans (mul_len hx hm.1 hm.2) (show 100 ≤ 200 by decide)
  have key : Rex (callN P X (n + 1)) fn_law_thing_by.body [("_law_cell", (false, .int c))] fun d fr => Good d ∧ fr = false := by
    clear hm hz hW hW8 hWb hU hV hb0 hx hx' q5
    (repeat' (first | ((first | apply r_step | apply q_step | apply o_step); (focus ((first | ((with_reducible apply p_cell); (focus ((repeat' (first | (with_reducible (first | assumption | apply e_int | apply e_str | apply e_bool | apply e_none | apply es_nil)) | ((with_reducible apply v_var); (focus ((repeat' (first | (with_reducible (first | assumption | exact h_eq | exact hr_eq | exact w_eq | exact h_cons | apply h_own; assumption)) | ((with_reducible (first | apply h_ne | apply hr_ne | apply w_ne | apply h_consn | apply w_st | apply w_fr)); (focus (exact rfl))) | (with_reducible (first | apply hr_vis | apply h_st | apply h_fr)))); done))) | ((with_reducible apply v_var); exact rfl) | ((with_reducible refine (e_glob _ _ _).trans ?_); (with_reducible assumption)) | (with_reducible (first | exact v_neg1 | apply v_cons | apply v_bin | exact b_add | exact b_sb | apply b_mod | apply b_div)) | ((with_reducible apply b_mulL); (focus decide)) | (with_reducible (first | apply b_mul | apply v_cmp | apply v_sub | apply v_sl | apply v_not | apply v_isi | apply v_blt | apply v_tup | apply v_lst | apply v_lcp | apply v_callE | apply v_call | apply v_bop1)) | ((with_reducible (first | apply v_and | apply v_or)); rotate_left; intro _; rotate_right) | (with_reducible apply v_map) | ((with_reducible (first | show cmpD _ _ _ = _ | show truth _ = _ | show isiD _ _ = _ | show frF _ _ = _ | show isCallE _ = _ | show bltD _ _ = _ | show lstD _ = _ | show subD _ _ = _)); exact rfl) | decide | exact Nat.le_of_ble_eq_true rfl)); done)); (with_reducible assumption)) | ((with_reducible apply p_assign); (repeat' (first | (with_reducible (first | assumption | apply e_int | apply e_str | apply e_bool | apply e_none | apply es_nil)) | ((with_reducible apply v_var); (focus ((repeat' (first | (with_reducible (first | assumption | exact h_eq | exact hr_eq | exact w_eq | exact h_cons | apply h_own; assumption)) | ((with_reducible (first | apply h_ne | apply hr_ne | apply w_ne | apply h_consn | apply w_st | apply w_fr)); (focus (exact rfl))) | (with_reducible (first | apply hr_vis | apply h_st | apply h_fr)))); done))) | ((with_reducible apply v_var); exact rfl) | ((with_reducible refine (e_glob _ _ _).trans ?_); (with_reducible assumption)) | (with_reducible (first | exact v_neg1 | apply v_cons | apply v_bin | exact b_add | exact b_sb | apply b_mod | apply b_div)) | ((with_reducible apply b_mulL); (focus decide)) | (with_reducible (first | apply b_mul | apply v_cmp | apply v_sub | apply v_sl | apply v_not | apply v_isi | apply v_blt | apply v_tup | apply v_lst | apply v_lcp | apply v_callE | apply v_call | apply v_bop1)) | ((with_reducible (first | apply v_and | apply v_or)); rotate_left; intro _; rotate_right) | (with_reducible apply v_map) | ((with_reducible (first | show cmpD _ _ _ = _ | show truth _ = _ | show isiD _ _ = _ | show frF _ _ = _ | show isCallE _ = _ | show bltD _ _ = _ | show lstD _ = _ | show subD _ _ = _)); exact rfl) | decide | exact Nat.le_of_ble_eq_true rfl)); done))))) | ((first | apply r_if | apply q_if | apply o_if); (((focus ((repeat' (first | (with_reducible (first | assumption | apply e_int | apply e_str | apply e_bool | apply e_none | apply es_nil)) | ((with_reducible apply v_var); (focus ((repeat' (first | (with_reducible (first | assumption | exact h_eq | exact hr_eq | exact w_eq | exact h_cons | apply h_own; assumption)) | ((with_reducible (first | apply h_ne | apply hr_ne | apply w_ne | apply h_consn | apply w_st | apply w_fr)); (focus (exact rfl))) | (with_reducible (first | apply hr_vis | apply h_st | apply h_fr)))); done))) | ((with_reducible apply v_var); exact rfl) | ((with_reducible refine (e_glob _ _ _).trans ?_); (with_reducible assumption)) | (with_reducible (first | exact v_neg1 | apply v_cons | apply v_bin | exact b_add | exact b_sb | apply b_mod | apply b_div)) | ((with_reducible apply b_mulL); (focus decide)) | (with_reducible (first | apply b_mul | apply v_cmp | apply v_sub | apply v_sl | apply v_not | apply v_isi | apply v_blt | apply v_tup | apply v_lst | apply v_lcp | apply v_callE | apply v_call | apply v_bop1)) | ((with_reducible (first | apply v_and | apply v_or)); rotate_left; intro _; rotate_right) | (with_reducible apply v_map) | ((with_reducible (first | show cmpD _ _ _ = _ | show truth _ = _ | show isiD _ _ = _ | show frF _ _ = _ | show isCallE _ = _ | show bltD _ _ = _ | show lstD _ = _ | show subD _ _ = _)); exact rfl) | decide | exact Nat.le_of_ble_eq_true rfl)); done)); (focus (exact rfl)); (focus (intro hh; first | exact no_tf hh (by assumption) | exact absurd hh (by decide) | skip)); rotate_left; (focus (intro hh; first | exact no_tf (by assumption) hh | exact absurd hh (by decide) | skip))))) | ((first | apply r_retv | apply q_retv); (focus (exact rfl))) | ((first | apply r_ret | apply q_ret | apply o_ret); (focus ((repeat' (first | (with_reducible (first | assumption | apply e_int | apply e_str | apply e_bool | apply e_none | apply es_nil)) | ((with_reducible apply v_var); (focus ((repeat' (first | (with_reducible (first | assumption | exact h_eq | exact hr_eq | exact w_eq | exact h_cons | apply h_own; assumption)) | ((with_reducible (first | apply h_ne | apply hr_ne | apply w_ne | apply h_consn | apply w_st | apply w_fr)); (focus (exact rfl))) | (with_reducible (first | apply hr_vis | apply h_st | apply h_fr)))); done))) | ((with_reducible apply v_var); exact rfl) | ((with_reducible refine (e_glob _ _ _).trans ?_); (with_reducible assumption)) | (with_reducible (first | exact v_neg1 | apply v_cons | apply v_bin | exact b_add | exact b_sb | apply b_mod | apply b_div)) | ((with_reducible apply b_mulL); (focus decide)) | (with_reducible (first | apply b_mul | apply v_cmp | apply v_sub | apply v_sl | apply v_not | apply v_isi | apply v_blt | apply v_tup | apply v_lst | apply v_lcp | apply v_callE | apply v_call | apply v_bop1)) | ((with_reducible (first | apply v_and | apply v_or)); rotate_left; intro _; rotate_right) | (with_reducible apply v_map) | ((with_reducible (first | show cmpD _ _ _ = _ | show truth _ = _ | show isiD _ _ = _ | show frF _ _ = _ | show isCallE _ = _ | show bltD _ _ = _ | show lstD _ = _ | show subD _ _ = _)); exact rfl) | decide | exact Nat.le_of_ble_eq_true rfl)); done)); (focus (exact rfl))) | apply o_nil))
    all_goals first
      | exact ⟨.inl ⟨_, rfl, g1⟩, rfl⟩
      | exact ⟨.inl ⟨_, rfl, g2⟩, rfl⟩
      | exact ⟨.inr ⟨_, rfl, hy⟩, rfl⟩
      | exact ⟨.inr ⟨_, rfl, g5⟩, rfl⟩
      | exact ⟨.inl ⟨_, rfl, g3⟩, rfl⟩
      | exact ⟨.inr ⟨_, rfl, g4⟩, rfl⟩
  obtain ⟨d, fr, ⟨hd, rfl⟩, hr⟩ := rex_call (X := X) (n := n + 1) (args := [.int c]) B.thing rfl key
  exact ⟨d, hd, hr⟩
theorem r_norm {cf : CF} {r : List MS} {σ σ' : St} {d : D} {fr : Bool} (h : σ = σ') (k : Run cf r σ' d fr) : Run cf r σ d fr := h ▸ k
theorem getD_at {row : List D} {p : Nat} (h : p < row.length) : subD (.tup row) (.int p) = some (row.getD p .none) := sub_t h (by rw [List.getD_eq_getElem?_getD, List.getElem?_eq_getElem h]; rfl)

set_option maxRecDepth 100000
set_option maxHeartbeats 400000
noncomputable def fn_rank : Fn := ⟨["cell"], [
    .ret (.tup [.isi (.var "cell") "str", .var "cell"])]⟩
noncomputable def fn_ordered : Fn := ⟨["rows", "keys"], [
    .assign "found" (.lcp (.var "rows")),
    .forr "one" (.var "keys") [.assign "place" (.sub (.var "one") (.int 0)), .ite (.sub (.var "one") (.int 1)) [.assign "found" (.srt (.var "found") "rank" "row" "place" true)] [.assign "found" (.srt (.var "found") "rank" "row" "place" false)]],
    .ret (.var "found")]⟩
noncomputable def fn_law_cell_is : Fn := ⟨["_law_found", "_law_due"], [
    .ite (.bop .Or [.isi (.var "_law_due") "str", .isi (.var "_law_found") "bool"]) [.ret (.bop .And [.isi (.var "_law_found") "str", .isi (.var "_law_due") "str", .cmp .Eq (.var "_law_found") (.var "_law_due")])] [],
    .ret (.bop .And [.isi (.var "_law_found") "int", .cmp .Eq (.var "_law_found") (.var "_law_due")])]⟩
noncomputable def fn_stepped : Fn := ⟨["query", "rows"], [
    .assign "word" (.sub (.var "query") (.int 0)),
    .ite (.cmp .Eq (.var "word") (.str "sieve")) [.bad] [],
    .ite (.cmp .Eq (.var "word") (.str "pick")) [.bad] [],
    .ite (.cmp .Eq (.var "word") (.str "group")) [.bad] [],
    .ite (.cmp .Eq (.var "word") (.str "order")) [.ret (.call "ordered" [.var "rows", .sub (.var "query") (.int 1)])] [],
    .ite (.cmp .Eq (.var "word") (.str "once")) [.bad] [],
    .ret (.sl (.var "rows") .none (.sub (.var "query") (.int 1)))]⟩
noncomputable def fn_law_rows_by : Fn := ⟨["_law_cell", "_law_wide", "_law_many"], [
    .assign "_law_rows" (.lst []),
    .for_ "_law_at" (.blt "range" [.var "_law_many"]) [.assign "_law_like" (.bin .Sub (.var "_law_at") (.bin .FloorDiv (.bin .Mod (.var "_law_at") (.int 3)) (.int 2))), .ite (.cmp .Eq (.bin .Mod (.var "_law_at") (.int 5)) (.int 4)) [.assign "_law_like" (.int 0)] [], .append "_law_rows" (.blt "tuple" [.comp (.call "_law_thing_by" [.call "_law_mixed" [.var "_law_cell", .bin .Add (.bin .Mult (.int 13) (.var "_law_like")) (.var "_law_k")]]) "_law_k" (.blt "range" [.var "_law_wide"]) []])],
    .ret (.var "_law_rows")]⟩
noncomputable def fn_law_rows_of : Fn := ⟨["_law_cell"], [
    .ret (.sub (.lst [.int 5, .int 7, .int 4, .int 8, .int 6, .int 2, .int 0]) (.bin .Mod (.bin .FloorDiv (.var "_law_cell") (.int 5)) (.int 7)))]⟩
noncomputable def fn_law_stand : Fn := ⟨["_law_one", "_law_other", "_law_keys"], [
    .for_ "_law_key" (.var "_law_keys") [.ite (.not (.call "_law_alike" [.sub (.var "_law_one") (.sub (.var "_law_key") (.int 0)), .sub (.var "_law_other") (.sub (.var "_law_key") (.int 0))])) [.assign "_law_first" (.call "_law_before" [.sub (.var "_law_one") (.sub (.var "_law_key") (.int 0)), .sub (.var "_law_other") (.sub (.var "_law_key") (.int 0))]), .ret (.bin .Sub (.int 1) (.bin .Mult (.int 2) (.blt "int" [.cmp .Eq (.var "_law_first") (.sub (.var "_law_key") (.int 1))])))] []],
    .ret (.int 0)]⟩
noncomputable def fn_law_row_is : Fn := ⟨["_law_found", "_law_due"], [
    .ite (.bop .Or [.not (.isi (.var "_law_found") "tuple"), .cmp .NotEq (.blt "len" [.var "_law_found"]) (.blt "len" [.var "_law_due"])]) [.ret (.bool false)] [],
    .ret (.not (.comp (.var "_law_k") "_law_k" (.blt "range" [.blt "len" [.var "_law_due"]]) [.not (.call "_law_cell_is" [.sub (.var "_law_found") (.var "_law_k"), .sub (.var "_law_due") (.var "_law_k")])]))]⟩
noncomputable def fn_law_rows_are : Fn := ⟨["_law_found", "_law_due"], [
    .ite (.bop .Or [.not (.isi (.var "_law_found") "list"), .cmp .NotEq (.blt "len" [.var "_law_found"]) (.blt "len" [.var "_law_due"])]) [.ret (.bool false)] [],
    .ret (.not (.comp (.var "_law_k") "_law_k" (.blt "range" [.blt "len" [.var "_law_due"]]) [.not (.call "_law_row_is" [.sub (.var "_law_found") (.var "_law_k"), .sub (.var "_law_due") (.var "_law_k")])]))]⟩
noncomputable def fn_answer : Fn := ⟨["query", "tables"], [
    .assign "word" (.sub (.var "query") (.int 0)),
    .ite (.cmp .NotIn (.var "word") (.glob "STEPS")) [.bad] [],
    .ite (.cmp .Eq (.var "word") (.str "table")) [.ite (.cmp .NotIn (.sub (.var "query") (.int 1)) (.var "tables")) [.bad] [], .ret (.lcp (.sub (.var "tables") (.sub (.var "query") (.int 1))))] [],
    .ite (.cmp .Eq (.var "word") (.str "join")) [.assign "first" (.call "answer" [.sub (.var "query") (.int 1), .var "tables"]), .bad] [],
    .ite (.cmp .Eq (.var "word") (.str "both")) [.assign "first" (.call "answer" [.sub (.var "query") (.int 1), .var "tables"]), .ret (.bin .Add (.var "first") (.call "answer" [.sub (.var "query") (.int 2), .var "tables"]))] [],
    .ret (.call "stepped" [.var "query", .call "answer" [.sub (.var "query") (.neg (.int 1)), .var "tables"]])]⟩
noncomputable def fn_law_table_by : Fn := ⟨["_law_script", "_law_k"], [
    .assign "_law_cell" (.call "_law_cell_at" [.var "_law_script", .var "_law_k"]),
    .assign "_law_many" (.call "_law_rows_of" [.var "_law_cell"]),
    .ite (.cmp .Eq (.bin .Mod (.bin .FloorDiv (.var "_law_cell") (.int 35)) (.int 6)) (.int 1)) [.assign "_law_many" (.bin .Mod (.bin .FloorDiv (.var "_law_cell") (.int 210)) (.int 70))] [],
    .ret (.call "_law_rows_by" [.call "_law_cell_at" [.var "_law_script", .bin .Add (.var "_law_k") (.int 1)], .call "_law_wide_by" [.var "_law_cell"], .var "_law_many"])]⟩
noncomputable def fn_law_wide_by : Fn := ⟨["_law_cell"], [
    .ite (.cmp .Eq (.bin .Mod (.bin .FloorDiv (.var "_law_cell") (.int 35)) (.int 6)) (.int 2)) [.ret (.bin .Mod (.bin .FloorDiv (.var "_law_cell") (.int 210)) (.int 13))] [],
    .ret (.sub (.lst [.int 2, .int 1, .int 3, .int 2, .int 0]) (.bin .Mod (.var "_law_cell") (.int 5)))]⟩
noncomputable def fn_law : Fn := ⟨["_law_script"], [
    .assign "_law_wide" (.call "_law_wide_by" [.call "_law_cell_at" [.var "_law_script", .int 0]]),
    .assign "_law_table" (.call "_law_table_by" [.var "_law_script", .int 0]),
    .assign "_law_rows" (.comp (.bin .Add (.sub (.var "_law_table") (.var "_law_k")) (.tup [.var "_law_k"])) "_law_k" (.blt "range" [.blt "len" [.var "_law_table"]]) []),
    .assign "_law_cell" (.call "_law_cell_at" [.var "_law_script", .int 2]),
    .assign "_law_many" (.bin .Add (.bin .Mod (.var "_law_cell") (.int 5)) (.bin .Mult (.bin .FloorDiv (.bin .Mod (.bin .FloorDiv (.var "_law_cell") (.int 15)) (.int 9)) (.int 8)) (.int 8))),
    .assign "_law_keys" (.comp (.tup [.bin .Mod (.call "_law_mixed" [.var "_law_cell", .var "_law_k"]) (.bin .Add (.var "_law_wide") (.int 1)), .cmp .Eq (.bin .Mod (.call "_law_mixed" [.var "_law_cell", .bin .Add (.int 9) (.var "_law_k")]) (.int 2)) (.int 1)]) "_law_k" (.blt "range" [.var "_law_many"]) []),
    .ite (.cmp .Eq (.bin .Mod (.bin .FloorDiv (.var "_law_cell") (.int 5)) (.int 3)) (.int 1)) [.assign "_law_keys" (.comp (.var "_law_key") "_law_key" (.var "_law_keys") [.cmp .Lt (.sub (.var "_law_key") (.int 0)) (.var "_law_wide")])] [],
    .assign "_law_handed" (.dct [.str "t"] [.lcp (.var "_law_rows")]),
    .assign "_law_found" (.call "answer" [.tup [.str "order", .blt "tuple" [.var "_law_keys"], .tup [.str "table", .str "t"]], .var "_law_handed"]),
    .ite (.not (.call "_law_rows_are" [.sub (.var "_law_handed") (.str "t"), .var "_law_rows"])) [.ret (.bool false)] [],
    .ite (.bop .Or [.not (.isi (.var "_law_found") "list"), .cmp .NotEq (.blt "len" [.var "_law_found"]) (.blt "len" [.var "_law_rows"])]) [.ret (.bool false)] [],
    .assign "_law_seen" (.dct [] []),
    .for_ "_law_row" (.var "_law_found") [.ite (.bop .Or [.not (.isi (.var "_law_row") "tuple"), .cmp .NotEq (.blt "len" [.var "_law_row"]) (.bin .Add (.var "_law_wide") (.int 1))]) [.ret (.bool false)] [], .assign "_law_at" (.sub (.var "_law_row") (.var "_law_wide")), .ite (.bop .Or [.not (.isi (.var "_law_at") "int"), .isi (.var "_law_at") "bool", .cmp .Lt (.var "_law_at") (.int 0), .cmp .GtE (.var "_law_at") (.blt "len" [.var "_law_rows"]), .cmp .In (.var "_law_at") (.var "_law_seen")]) [.ret (.bool false)] [], .ite (.not (.call "_law_row_is" [.var "_law_row", .sub (.var "_law_rows") (.var "_law_at")])) [.ret (.bool false)] [], .setk "_law_seen" (.var "_law_at") (.bool true)],
    .for_ "_law_k" (.blt "range" [.bin .Sub (.blt "len" [.var "_law_found"]) (.int 1)]) [.assign "_law_stand_here" (.call "_law_stand" [.sub (.var "_law_found") (.var "_law_k"), .sub (.var "_law_found") (.bin .Add (.var "_law_k") (.int 1)), .var "_law_keys"]), .ite (.bop .Or [.cmp .Lt (.var "_law_stand_here") (.int 0), .bop .And [.cmp .Eq (.var "_law_stand_here") (.int 0), .cmp .Gt (.sub (.sub (.var "_law_found") (.var "_law_k")) (.var "_law_wide")) (.sub (.sub (.var "_law_found") (.bin .Add (.var "_law_k") (.int 1))) (.var "_law_wide"))]]) [.ret (.bool false)] []],
    .ret (.bool true)]⟩
noncomputable def PP : List (String × Fn) := [("before", fn_before), ("rank", fn_rank), ("_law_sign_by", fn_law_sign_by), ("ordered", fn_ordered), ("_law_thing_by", fn_law_thing_by), ("_law_before", fn_law_before), ("_law_alike", fn_law_alike), ("_law_cell_is", fn_law_cell_is), ("stepped", fn_stepped), ("_law_rows_by", fn_law_rows_by), ("_law_rows_of", fn_law_rows_of), ("_law_stand", fn_law_stand), ("_law_row_is", fn_law_row_is), ("_law_rows_are", fn_law_rows_are), ("answer", fn_answer), ("_law_mixed", fn_law_mixed), ("_law_table_by", fn_law_table_by), ("_law_cell_at", fn_law_cell_at), ("_law_wide_by", fn_law_wide_by), ("law", fn_law)]
noncomputable def steps : List D := [.str (Str.ofString "table"), .str (Str.ofString "sieve"), .str (Str.ofString "pick"), .str (Str.ofString "join"), .str (Str.ofString "group"), .str (Str.ofString "order"), .str (Str.ofString "both"), .str (Str.ofString "once"), .str (Str.ofString "first")]
noncomputable def X7 : CF := ⟨fun _ _ => none, fun x => if x = "STEPS" then some (.tup steps) else none⟩
theorem bg : BG PP := ⟨rfl, rfl, rfl, rfl⟩
theorem bc : BC PP := ⟨rfl, rfl, rfl⟩
theorem compM_filter (f : D → Option (Option D)) (p : D → Bool) : ∀ (its : List D), (∀ it ∈ its, f it = some (if p it = true then some it else none)) → compM f its = some (its.filter p)
  | [], _ => rfl
  | it :: r, h => by
    rw [compM, h it (.head _)]
    show (match compM f r with | none => none | some ds => _) = _
    rw [compM_filter f p r fun i hi => h i (.tail _ hi)]
    cases hp : p it <;> simp [hp]
theorem compF_one {cf : CF} {ρ : List (String × D)} {elt c : ME} {x : String} {it y d : D} {k : Bool} (hc : evE cf ((x, it) :: ρ) c = some d) (ht : truth d = some k) (he : k = true → evE cf ((x, it) :: ρ) elt = some y) : compF cf ρ elt x [c] it = some (if k = true then some y else none) := by
  have e : evCs cf ((x, it) :: ρ) [c] = some k := by
    show (match evE cf ((x, it) :: ρ) c with | some d => (match truth d with | some t => if t then some true else some false | none => none) | none => none) = _
    rw [hc]; show (match truth d with | some t => _ | none => _) = _; rw [ht]; cases k <;> rfl
  unfold compF; rw [e]
  cases k with
  | true => show (match evE cf ((x, it) :: ρ) elt with | some y => _ | none => _) = _; rw [he rfl]; rfl
  | false => rfl
/-- rows of m cells -/
noncomputable def Row (m : Nat) (r : D) : Prop := ∃ cs, r = .tup cs ∧ cs.length = m ∧ ∀ d ∈ cs, Good d
noncomputable def Rows (m : Nat) (rows : List D) : Prop := ∀ r ∈ rows, Row m r
noncomputable def wideV (c : Int) : Nat := if (c / 35 % 6 == 2) = true then (c / 210 % 13).toNat else [2, 1, 3, 2, 0].getD (c % 5).toNat 0
theorem wide_le (c : Int) : wideV c ≤ 12 := by
  unfold wideV
  split
  · omega
  · obtain ⟨m, e, hm⟩ := emod_nat c (k := 5) (by decide)
    have e : c % 5 = m := e
    rw [e, Int.toNat_natCast]
    exact (by decide : ∀ m < 5, [2, 1, 3, 2, 0].getD m 0 ≤ 12) m hm
section
variable {X : CF}
theorem wide_by (n : Nat) (c : Int) : (callN PP X (n + 1)).call "_law_wide_by" [.int c] = some (.int (wideV c), false) := by
  refine run_call (by rfl : PP.lookup "_law_wide_by" = some fn_law_wide_by) rfl ?_
  unfold wideV
  cases h : (c / 35 % 6 == 2) with
  | true =>
    rw [if_pos rfl]
    have e : ((c / 210 % 13).toNat : Int) = c / 210 % 13 := by omega
    rw [e]
    (repeat' (first | ((first | apply r_step | apply q_step | apply o_step); (focus ((first | ((with_reducible apply p_cell); (focus ((repeat' (first | (with_reducible (first | assumption | apply e_int | apply e_str | apply e_bool | apply e_none | apply es_nil)) | ((with_reducible apply v_var); (focus ((repeat' (first | (with_reducible (first | assumption | exact h_eq | exact hr_eq | exact w_eq | exact h_cons | apply h_own; assumption)) | ((with_reducible (first | apply h_ne | apply hr_ne | apply w_ne | apply h_consn | apply w_st | apply w_fr)); (focus (exact rfl))) | (with_reducible (first | apply hr_vis | apply h_st | apply h_fr)))); done))) | ((with_reducible apply v_var); exact rfl) | ((with_reducible refine (e_glob _ _ _).trans ?_); (with_reducible assumption)) | (with_reducible (first | exact v_neg1 | apply v_cons | apply v_bin | exact b_add | exact b_sb | apply b_mod | apply b_div)) | ((with_reducible apply b_mulL); (focus decide)) | (with_reducible (first | apply b_mul | apply v_cmp | apply v_sub | apply v_sl | apply v_not | apply v_isi | apply v_blt | apply v_tup | apply v_lst | apply v_lcp | apply v_callE | apply v_call | apply v_bop1)) | ((with_reducible (first | apply v_and | apply v_or)); rotate_left; intro _; rotate_right) | (with_reducible apply v_map) | ((with_reducible (first | show cmpD _ _ _ = _ | show truth _ = _ | show isiD _ _ = _ | show frF _ _ = _ | show isCallE _ = _ | show bltD _ _ = _ | show lstD _ = _ | show subD _ _ = _)); exact rfl) | decide | exact Nat.le_of_ble_eq_true rfl)); done)); (with_reducible assumption)) | ((with_reducible apply p_assign); (repeat' (first | (with_reducible (first | assumption | apply e_int | apply e_str | apply e_bool | apply e_none | apply es_nil)) | ((with_reducible apply v_var); (focus ((repeat' (first | (with_reducible (first | assumption | exact h_eq | exact hr_eq | exact w_eq | exact h_cons | apply h_own; assumption)) | ((with_reducible (first | apply h_ne | apply hr_ne | apply w_ne | apply h_consn | apply w_st | apply w_fr)); (focus (exact rfl))) | (with_reducible (first | apply hr_vis | apply h_st | apply h_fr)))); done))) | ((with_reducible apply v_var); exact rfl) | ((with_reducible refine (e_glob _ _ _).trans ?_); (with_reducible assumption)) | (with_reducible (first | exact v_neg1 | apply v_cons | apply v_bin | exact b_add | exact b_sb | apply b_mod | apply b_div)) | ((with_reducible apply b_mulL); (focus decide)) | (with_reducible (first | apply b_mul | apply v_cmp | apply v_sub | apply v_sl | apply v_not | apply v_isi | apply v_blt | apply v_tup | apply v_lst | apply v_lcp | apply v_callE | apply v_call | apply v_bop1)) | ((with_reducible (first | apply v_and | apply v_or)); rotate_left; intro _; rotate_right) | (with_reducible apply v_map) | ((with_reducible (first | show cmpD _ _ _ = _ | show truth _ = _ | show isiD _ _ = _ | show frF _ _ = _ | show isCallE _ = _ | show bltD _ _ = _ | show lstD _ = _ | show subD _ _ = _)); exact rfl) | decide | exact Nat.le_of_ble_eq_true rfl)); done))))) | ((first | apply r_if | apply q_if | apply o_if); (((focus ((repeat' (first | (with_reducible (first | assumption | apply e_int | apply e_str | apply e_bool | apply e_none | apply es_nil)) | ((with_reducible apply v_var); (focus ((repeat' (first | (with_reducible (first | assumption | exact h_eq | exact hr_eq | exact w_eq | exact h_cons | apply h_own; assumption)) | ((with_reducible (first | apply h_ne | apply hr_ne | apply w_ne | apply h_consn | apply w_st | apply w_fr)); (focus (exact rfl))) | (with_reducible (first | apply hr_vis | apply h_st | apply h_fr)))); done))) | ((with_reducible apply v_var); exact rfl) | ((with_reducible refine (e_glob _ _ _).trans ?_); (with_reducible assumption)) | (with_reducible (first | exact v_neg1 | apply v_cons | apply v_bin | exact b_add | exact b_sb | apply b_mod | apply b_div)) | ((with_reducible apply b_mulL); (focus decide)) | (with_reducible (first | apply b_mul | apply v_cmp | apply v_sub | apply v_sl | apply v_not | apply v_isi | apply v_blt | apply v_tup | apply v_lst | apply v_lcp | apply v_callE | apply v_call | apply v_bop1)) | ((with_reducible (first | apply v_and | apply v_or)); rotate_left; intro _; rotate_right) | (with_reducible apply v_map) | ((with_reducible (first | show cmpD _ _ _ = _ | show truth _ = _ | show isiD _ _ = _ | show frF _ _ = _ | show isCallE _ = _ | show bltD _ _ = _ | show lstD _ = _ | show subD _ _ = _)); exact rfl) | decide | exact Nat.le_of_ble_eq_true rfl)); done)); (focus (exact rfl)); (focus (intro hh; first | exact no_tf hh (by assumption) | exact absurd hh (by decide) | skip)); rotate_left; (focus (intro hh; first | exact no_tf (by assumption) hh | exact absurd hh (by decide) | skip))))) | ((first | apply r_retv | apply q_retv); (focus (exact rfl))) | ((first | apply r_ret | apply q_ret | apply o_ret); (focus ((repeat' (first | (with_reducible (first | assumption | apply e_int | apply e_str | apply e_bool | apply e_none | apply es_nil)) | ((with_reducible apply v_var); (focus ((repeat' (first | (with_reducible (first | assumption | exact h_eq | exact hr_eq | exact w_eq | exact h_cons | apply h_own; assumption)) | ((with_reducible (first | apply h_ne | apply hr_ne | apply w_ne | apply h_consn | apply w_st | apply w_fr)); (focus (exact rfl))) | (with_reducible (first | apply hr_vis | apply h_st | apply h_fr)))); done))) | ((with_reducible apply v_var); exact rfl) | ((with_reducible refine (e_glob _ _ _).trans ?_); (with_reducible assumption)) | (with_reducible (first | exact v_neg1 | apply v_cons | apply v_bin | exact b_add | exact b_sb | apply b_mod | apply b_div)) | ((with_reducible apply b_mulL); (focus decide)) | (with_reducible (first | apply b_mul | apply v_cmp | apply v_sub | apply v_sl | apply v_not | apply v_isi | apply v_blt | apply v_tup | apply v_lst | apply v_lcp | apply v_callE | apply v_call | apply v_bop1)) | ((with_reducible (first | apply v_and | apply v_or)); rotate_left; intro _; rotate_right) | (with_reducible apply v_map) | ((with_reducible (first | show cmpD _ _ _ = _ | show truth _ = _ | show isiD _ _ = _ | show frF _ _ = _ | show isCallE _ = _ | show bltD _ _ = _ | show lstD _ = _ | show subD _ _ = _)); exact rfl) | decide | exact Nat.le_of_ble_eq_true rfl)); done)); (focus (exact rfl))) | apply o_nil))
  | false =>
    rw [if_neg Bool.false_ne_true]
    obtain ⟨m, e, hm⟩ := emod_nat c (k := 5) (by decide)
    have e : c % 5 = m := e
    have q : subD (.list [.int 2, .int 1, .int 3, .int 2, .int 0]) (.int (c % 5)) = some (.int ([2, 1, 3, 2, 0].getD (c % 5).toNat 0 : Nat)) := by
      rw [e, Int.toNat_natCast]
      refine sub_l (by simpa using hm) ?_
      match m, hm with
      | 0, _ => rfl
      | 1, _ => rfl
      | 2, _ => rfl
      | 3, _ => rfl
      | 4, _ => rfl
    (repeat' (first | ((first | apply r_step | apply q_step | apply o_step); (focus ((first | ((with_reducible apply p_cell); (focus ((repeat' (first | (with_reducible (first | assumption | apply e_int | apply e_str | apply e_bool | apply e_none | apply es_nil)) | ((with_reducible apply v_var); (focus ((repeat' (first | (with_reducible (first | assumption | exact h_eq | exact hr_eq | exact w_eq | exact h_cons | apply h_own; assumption)) | ((with_reducible (first | apply h_ne | apply hr_ne | apply w_ne | apply h_consn | apply w_st | apply w_fr)); (focus (exact rfl))) | (with_reducible (first | apply hr_vis | apply h_st | apply h_fr)))); done))) | ((with_reducible apply v_var); exact rfl) | ((with_reducible refine (e_glob _ _ _).trans ?_); (with_reducible assumption)) | (with_reducible (first | exact v_neg1 | apply v_cons | apply v_bin | exact b_add | exact b_sb | apply b_mod | apply b_div)) | ((with_reducible apply b_mulL); (focus decide)) | (with_reducible (first | apply b_mul | apply v_cmp | apply v_sub | apply v_sl | apply v_not | apply v_isi | apply v_blt | apply v_tup | apply v_lst | apply v_lcp | apply v_callE | apply v_call | apply v_bop1)) | ((with_reducible (first | apply v_and | apply v_or)); rotate_left; intro _; rotate_right) | (with_reducible apply v_map) | ((with_reducible (first | show cmpD _ _ _ = _ | show truth _ = _ | show isiD _ _ = _ | show frF _ _ = _ | show isCallE _ = _ | show bltD _ _ = _ | show lstD _ = _ | show subD _ _ = _)); exact rfl) | decide | exact Nat.le_of_ble_eq_true rfl)); done)); (with_reducible assumption)) | ((with_reducible apply p_assign); (repeat' (first | (with_reducible (first | assumption | apply e_int | apply e_str | apply e_bool | apply e_none | apply es_nil)) | ((with_reducible apply v_var); (focus ((repeat' (first | (with_reducible (first | assumption | exact h_eq | exact hr_eq | exact w_eq | exact h_cons | apply h_own; assumption)) | ((with_reducible (first | apply h_ne | apply hr_ne | apply w_ne | apply h_consn | apply w_st | apply w_fr)); (focus (exact rfl))) | (with_reducible (first | apply hr_vis | apply h_st | apply h_fr)))); done))) | ((with_reducible apply v_var); exact rfl) | ((with_reducible refine (e_glob _ _ _).trans ?_); (with_reducible assumption)) | (with_reducible (first | exact v_neg1 | apply v_cons | apply v_bin | exact b_add | exact b_sb | apply b_mod | apply b_div)) | ((with_reducible apply b_mulL); (focus decide)) | (with_reducible (first | apply b_mul | apply v_cmp | apply v_sub | apply v_sl | apply v_not | apply v_isi | apply v_blt | apply v_tup | apply v_lst | apply v_lcp | apply v_callE | apply v_call | apply v_bop1)) | ((with_reducible (first | apply v_and | apply v_or)); rotate_left; intro _; rotate_right) | (with_reducible apply v_map) | ((with_reducible (first | show cmpD _ _ _ = _ | show truth _ = _ | show isiD _ _ = _ | show frF _ _ = _ | show isCallE _ = _ | show bltD _ _ = _ | show lstD _ = _ | show subD _ _ = _)); exact rfl) | decide | exact Nat.le_of_ble_eq_true rfl)); done))))) | ((first | apply r_if | apply q_if | apply o_if); (((focus ((repeat' (first | (with_reducible (first | assumption | apply e_int | apply e_str | apply e_bool | apply e_none | apply es_nil)) | ((with_reducible apply v_var); (focus ((repeat' (first | (with_reducible (first | assumption | exact h_eq | exact hr_eq | exact w_eq | exact h_cons | apply h_own; assumption)) | ((with_reducible (first | apply h_ne | apply hr_ne | apply w_ne | apply h_consn | apply w_st | apply w_fr)); (focus (exact rfl))) | (with_reducible (first | apply hr_vis | apply h_st | apply h_fr)))); done))) | ((with_reducible apply v_var); exact rfl) | ((with_reducible refine (e_glob _ _ _).trans ?_); (with_reducible assumption)) | (with_reducible (first | exact v_neg1 | apply v_cons | apply v_bin | exact b_add | exact b_sb | apply b_mod | apply b_div)) | ((with_reducible apply b_mulL); (focus decide)) | (with_reducible (first | apply b_mul | apply v_cmp | apply v_sub | apply v_sl | apply v_not | apply v_isi | apply v_blt | apply v_tup | apply v_lst | apply v_lcp | apply v_callE | apply v_call | apply v_bop1)) | ((with_reducible (first | apply v_and | apply v_or)); rotate_left; intro _; rotate_right) | (with_reducible apply v_map) | ((with_reducible (first | show cmpD _ _ _ = _ | show truth _ = _ | show isiD _ _ = _ | show frF _ _ = _ | show isCallE _ = _ | show bltD _ _ = _ | show lstD _ = _ | show subD _ _ = _)); exact rfl) | decide | exact Nat.le_of_ble_eq_true rfl)); done)); (focus (exact rfl)); (focus (intro hh; first | exact no_tf hh (by assumption) | exact absurd hh (by decide) | skip)); rotate_left; (focus (intro hh; first | exact no_tf (by assumption) hh | exact absurd hh (by decide) | skip))))) | ((first | apply r_retv | apply q_retv); (focus (exact rfl))) | ((first | apply r_ret | apply q_ret | apply o_ret); (focus ((repeat' (first | (with_reducible (first | assumption | apply e_int | apply e_str | apply e_bool | apply e_none | apply es_nil)) | ((with_reducible apply v_var); (focus ((repeat' (first | (with_reducible (first | assumption | exact h_eq | exact hr_eq | exact w_eq | exact h_cons | apply h_own; assumption)) | ((with_reducible (first | apply h_ne | apply hr_ne | apply w_ne | apply h_consn | apply w_st | apply w_fr)); (focus (exact rfl))) | (with_reducible (first | apply hr_vis | apply h_st | apply h_fr)))); done))) | ((with_reducible apply v_var); exact rfl) | ((with_reducible refine (e_glob _ _ _).trans ?_); (with_reducible assumption)) | (with_reducible (first | exact v_neg1 | apply v_cons | apply v_bin | exact b_add | exact b_sb | apply b_mod | apply b_div)) | ((with_reducible apply b_mulL); (focus decide)) | (with_reducible (first | apply b_mul | apply v_cmp | apply v_sub | apply v_sl | apply v_not | apply v_isi | apply v_blt | apply v_tup | apply v_lst | apply v_lcp | apply v_callE | apply v_call | apply v_bop1)) | ((with_reducible (first | apply v_and | apply v_or)); rotate_left; intro _; rotate_right) | (with_reducible apply v_map) | ((with_reducible (first | show cmpD _ _ _ = _ | show truth _ = _ | show isiD _ _ = _ | show frF _ _ = _ | show isCallE _ = _ | show bltD _ _ = _ | show lstD _ = _ | show subD _ _ = _)); exact rfl) | decide | exact Nat.le_of_ble_eq_true rfl)); done)); (focus (exact rfl))) | apply o_nil))
theorem rows_of (n : Nat) (c : Int) : ∃ m : Nat, m ≤ 8 ∧ (callN PP X (n + 1)).call "_law_rows_of" [.int c] = some (.int m, false) := by
  obtain ⟨d, ⟨m, rfl, hm⟩, q⟩ := list_pick (l := [.int 5, .int 7, .int 4, .int 8, .int 6, .int 2, .int 0]) (by decide) (c / 5) (R := fun d => ∃ m : Nat, d = .int m ∧ m ≤ 8) (by
    intro d hd
    simp only [List.mem_cons, List.not_mem_nil, or_false] at hd
    rcases hd with rfl | rfl | rfl | rfl | rfl | rfl | rfl <;> first | exact ⟨5, rfl, by decide⟩ | exact ⟨7, rfl, by decide⟩ | exact ⟨4, rfl, by decide⟩ | exact ⟨8, rfl, by decide⟩ | exact ⟨6, rfl, by decide⟩ | exact ⟨2, rfl, by decide⟩ | exact ⟨0, rfl, by decide⟩)
  have q : subD (.list [.int 5, .int 7, .int 4, .int 8, .int 6, .int 2, .int 0]) (.int (c / 5 % 7)) = some (.int m) := q
  refine ⟨m, hm, run_call (by rfl : PP.lookup "_law_rows_of" = some fn_law_rows_of) rfl ?_⟩
  (repeat' (first | ((first | apply r_step | apply q_step | apply o_step); (focus ((first | ((with_reducible apply p_cell); (focus ((repeat' (first | (with_reducible (first | assumption | apply e_int | apply e_str | apply e_bool | apply e_none | apply es_nil)) | ((with_reducible apply v_var); (focus ((repeat' (first | (with_reducible (first | assumption | exact h_eq | exact hr_eq | exact w_eq | exact h_cons | apply h_own; assumption)) | ((with_reducible (first | apply h_ne | apply hr_ne | apply w_ne | apply h_consn | apply w_st | apply w_fr)); (focus (exact rfl))) | (with_reducible (first | apply hr_vis | apply h_st | apply h_fr)))); done))) | ((with_reducible apply v_var); exact rfl) | ((with_reducible refine (e_glob _ _ _).trans ?_); (with_reducible assumption)) | (with_reducible (first | exact v_neg1 | apply v_cons | apply v_bin | exact b_add | exact b_sb | apply b_mod | apply b_div)) | ((with_reducible apply b_mulL); (focus decide)) | (with_reducible (first | apply b_mul | apply v_cmp | apply v_sub | apply v_sl | apply v_not | apply v_isi | apply v_blt | apply v_tup | apply v_lst | apply v_lcp | apply v_callE | apply v_call | apply v_bop1)) | ((with_reducible (first | apply v_and | apply v_or)); rotate_left; intro _; rotate_right) | (with_reducible apply v_map) | ((with_reducible (first | show cmpD _ _ _ = _ | show truth _ = _ | show isiD _ _ = _ | show frF _ _ = _ | show isCallE _ = _ | show bltD _ _ = _ | show lstD _ = _ | show subD _ _ = _)); exact rfl) | decide | exact Nat.le_of_ble_eq_true rfl)); done)); (with_reducible assumption)) | ((with_reducible apply p_assign); (repeat' (first | (with_reducible (first | assumption | apply e_int | apply e_str | apply e_bool | apply e_none | apply es_nil)) | ((with_reducible apply v_var); (focus ((repeat' (first | (with_reducible (first | assumption | exact h_eq | exact hr_eq | exact w_eq | exact h_cons | apply h_own; assumption)) | ((with_reducible (first | apply h_ne | apply hr_ne | apply w_ne | apply h_consn | apply w_st | apply w_fr)); (focus (exact rfl))) | (with_reducible (first | apply hr_vis | apply h_st | apply h_fr)))); done))) | ((with_reducible apply v_var); exact rfl) | ((with_reducible refine (e_glob _ _ _).trans ?_); (with_reducible assumption)) | (with_reducible (first | exact v_neg1 | apply v_cons | apply v_bin | exact b_add | exact b_sb | apply b_mod | apply b_div)) | ((with_reducible apply b_mulL); (focus decide)) | (with_reducible (first | apply b_mul | apply v_cmp | apply v_sub | apply v_sl | apply v_not | apply v_isi | apply v_blt | apply v_tup | apply v_lst | apply v_lcp | apply v_callE | apply v_call | apply v_bop1)) | ((with_reducible (first | apply v_and | apply v_or)); rotate_left; intro _; rotate_right) | (with_reducible apply v_map) | ((with_reducible (first | show cmpD _ _ _ = _ | show truth _ = _ | show isiD _ _ = _ | show frF _ _ = _ | show isCallE _ = _ | show bltD _ _ = _ | show lstD _ = _ | show subD _ _ = _)); exact rfl) | decide | exact Nat.le_of_ble_eq_true rfl)); done))))) | ((first | apply r_if | apply q_if | apply o_if); (((focus ((repeat' (first | (with_reducible (first | assumption | apply e_int | apply e_str | apply e_bool | apply e_none | apply es_nil)) | ((with_reducible apply v_var); (focus ((repeat' (first | (with_reducible (first | assumption | exact h_eq | exact hr_eq | exact w_eq | exact h_cons | apply h_own; assumption)) | ((with_reducible (first | apply h_ne | apply hr_ne | apply w_ne | apply h_consn | apply w_st | apply w_fr)); (focus (exact rfl))) | (with_reducible (first | apply hr_vis | apply h_st | apply h_fr)))); done))) | ((with_reducible apply v_var); exact rfl) | ((with_reducible refine (e_glob _ _ _).trans ?_); (with_reducible assumption)) | (with_reducible (first | exact v_neg1 | apply v_cons | apply v_bin | exact b_add | exact b_sb | apply b_mod | apply b_div)) | ((with_reducible apply b_mulL); (focus decide)) | (with_reducible (first | apply b_mul | apply v_cmp | apply v_sub | apply v_sl | apply v_not | apply v_isi | apply v_blt | apply v_tup | apply v_lst | apply v_lcp | apply v_callE | apply v_call | apply v_bop1)) | ((with_reducible (first | apply v_and | apply v_or)); rotate_left; intro _; rotate_right) | (with_reducible apply v_map) | ((with_reducible (first | show cmpD _ _ _ = _ | show truth _ = _ | show isiD _ _ = _ | show frF _ _ = _ | show isCallE _ = _ | show bltD _ _ = _ | show lstD _ = _ | show subD _ _ = _)); exact rfl) | decide | exact Nat.le_of_ble_eq_true rfl)); done)); (focus (exact rfl)); (focus (intro hh; first | exact no_tf hh (by assumption) | exact absurd hh (by decide) | skip)); rotate_left; (focus (intro hh; first | exact no_tf (by assumption) hh | exact absurd hh (by decide) | skip))))) | ((first | apply r_retv | apply q_retv); (focus (exact rfl))) | ((first | apply r_ret | apply q_ret | apply o_ret); (focus ((repeat' (first | (with_reducible (first | assumption | apply e_int | apply e_str | apply e_bool | apply e_none | apply es_nil)) | ((with_reducible apply v_var); (focus ((repeat' (first | (with_reducible (first | assumption | exact h_eq | exact hr_eq | exact w_eq | exact h_cons | apply h_own; assumption)) | ((with_reducible (first | apply h_ne | apply hr_ne | apply w_ne | apply h_consn | apply w_st | apply w_fr)); (focus (exact rfl))) | (with_reducible (first | apply hr_vis | apply h_st | apply h_fr)))); done))) | ((with_reducible apply v_var); exact rfl) | ((with_reducible refine (e_glob _ _ _).trans ?_); (with_reducible assumption)) | (with_reducible (first | exact v_neg1 | apply v_cons | apply v_bin | exact b_add | exact b_sb | apply b_mod | apply b_div)) | ((with_reducible apply b_mulL); (focus decide)) | (with_reducible (first | apply b_mul | apply v_cmp | apply v_sub | apply v_sl | apply v_not | apply v_isi | apply v_blt | apply v_tup | apply v_lst | apply v_lcp | apply v_callE | apply v_call | apply v_bop1)) | ((with_reducible (first | apply v_and | apply v_or)); rotate_left; intro _; rotate_right) | (with_reducible apply v_map) | ((with_reducible (first | show cmpD _ _ _ = _ | show truth _ = _ | show isiD _ _ = _ | show frF _ _ = _ | show isCallE _ = _ | show bltD _ _ = _ | show lstD _ = _ | show subD _ _ = _)); exact rfl) | decide | exact Nat.le_of_ble_eq_true rfl)); done)); (focus (exact rfl))) | apply o_nil))
theorem rows_by (n : Nat) (c : Int) (m k : Nat) (hm : m ≤ 12) (hk : k ≤ 70) : ∃ rows, Rows m rows ∧ rows.length ≤ 70 ∧ (callN PP X (n + 3)).call "_law_rows_by" [.int c, .int m, .int k] = some (.list rows, true) := by
  have hk' : k ≤ big := Nat.le_trans hk (by decide)
  obtain ⟨σ', ⟨rows, l, h1, h2, rfl⟩, h3⟩ := loop_inv (cf := callN PP X (n + 2)) (body := [.assign "_law_like" (.bin .Sub (.var "_law_at") (.bin .FloorDiv (.bin .Mod (.var "_law_at") (.int 3)) (.int 2))), .ite (.cmp .Eq (.bin .Mod (.var "_law_at") (.int 5)) (.int 4)) [.assign "_law_like" (.int 0)] [], .append "_law_rows" (.blt "tuple" [.comp (.call "_law_thing_by" [.call "_law_mixed" [.var "_law_cell", .bin .Add (.bin .Mult (.int 13) (.var "_law_like")) (.var "_law_k")]]) "_law_k" (.blt "range" [.var "_law_wide"]) []])]) (z := "_law_at")
    (fun a σ => ∃ rows l, Rows m rows ∧ rows.length = a.length ∧ σ = ("_law_cell", (false, .int c)) :: ("_law_wide", (false, .int m)) :: ("_law_many", (false, .int k)) :: ("_law_rows", (true, .list rows)) :: l) ((List.range k).map fun (i : Nat) => D.int (i : Int)) [] [("_law_cell", (false, .int c)), ("_law_wide", (false, .int m)), ("_law_many", (false, .int k)), ("_law_rows", (true, .list []))] ⟨[], [], (fun _ h => nomatch h), rfl, rfl⟩ (by
    rintro a it b σ hab ⟨rows, l, h1, h2, rfl⟩
    have hla : rows.length < big := by
      have := congrArg List.length hab
      simp at this
      have : rows.length < k := by omega
      omega
    obtain ⟨i, _, rfl⟩ : ∃ i : Nat, i ∈ List.range k ∧ D.int (i : Int) = it := List.mem_map.mp (by rw [List.nil_append] at hab; rw [hab]; simp)
    have tail : ∀ (L : Int) l, Out (callN PP X (n + 2)) [.append "_law_rows" (.blt "tuple" [.comp (.call "_law_thing_by" [.call "_law_mixed" [.var "_law_cell", .bin .Add (.bin .Mult (.int 13) (.var "_law_like")) (.var "_law_k")]]) "_law_k" (.blt "range" [.var "_law_wide"]) []])]
        (("_law_cell", (false, .int c)) :: ("_law_wide", (false, .int m)) :: ("_law_many", (false, .int k)) :: ("_law_rows", (true, .list rows)) :: setv l "_law_like" (false, .int L)) fun fl σ' => fl = .next ∧ ∃ rows l, Rows m rows ∧ rows.length = (a ++ [D.int (i : Int)]).length ∧ σ' = ("_law_cell", (false, .int c)) :: ("_law_wide", (false, .int m)) :: ("_law_many", (false, .int k)) :: ("_law_rows", (true, .list rows)) :: l := by
      intro L l
      have hv : ∀ (i : Nat), evE (callN PP X (n + 2)) (("_law_k", .int i) :: vis (("_law_cell", (false, .int c)) :: ("_law_wide", (false, .int m)) :: ("_law_many", (false, .int k)) :: ("_law_rows", (true, .list rows)) :: setv l "_law_like" (false, .int L))) (.var "_law_like") = some (.int L) := by
        intro i; rw [e_var]; show (vis (setv l "_law_like" (false, .int L))).lookup "_law_like" = _; rw [lookup_vis, lookup_setv]; rfl
      obtain ⟨cs, q1, q2, q3⟩ := v_rows (cf := callN PP X (n + 2)) (ρ := vis (("_law_cell", (false, .int c)) :: ("_law_wide", (false, .int m)) :: ("_law_many", (false, .int k)) :: ("_law_rows", (true, .list rows)) :: setv l "_law_like" (false, .int L))) (elt := .call "_law_thing_by" [.call "_law_mixed" [.var "_law_cell", .bin .Add (.bin .Mult (.int 13) (.var "_law_like")) (.var "_law_k")]]) (z := "_law_k") (src := .var "_law_wide") (k := m) (Nat.le_trans hm (by decide)) Good rfl (by
        intro i _
        have hv' := hv i
        obtain ⟨r, _, hr⟩ := mixed (X := X) bg (n + 1) c (13 * L + i)
        obtain ⟨d, gd, hd⟩ := thing_by (X := X) bg n r
        exact ⟨d, gd, by (repeat' (first | (with_reducible (first | assumption | apply e_int | apply e_str | apply e_bool | apply e_none | apply es_nil)) | ((with_reducible apply v_var); (focus ((repeat' (first | (with_reducible (first | assumption | exact h_eq | exact hr_eq | exact w_eq | exact h_cons | apply h_own; assumption)) | ((with_reducible (first | apply h_ne | apply hr_ne | apply w_ne | apply h_consn | apply w_st | apply w_fr)); (focus (exact rfl))) | (with_reducible (first | apply hr_vis | apply h_st | apply h_fr)))); done))) | ((with_reducible apply v_var); exact rfl) | ((with_reducible refine (e_glob _ _ _).trans ?_); (with_reducible assumption)) | (with_reducible (first | exact v_neg1 | apply v_cons | apply v_bin | exact b_add | exact b_sb | apply b_mod | apply b_div)) | ((with_reducible apply b_mulL); (focus decide)) | (with_reducible (first | apply b_mul | apply v_cmp | apply v_sub | apply v_sl | apply v_not | apply v_isi | apply v_blt | apply v_tup | apply v_lst | apply v_lcp | apply v_callE | apply v_call | apply v_bop1)) | ((with_reducible (first | apply v_and | apply v_or)); rotate_left; intro _; rotate_right) | (with_reducible apply v_map) | ((with_reducible (first | show cmpD _ _ _ = _ | show truth _ = _ | show isiD _ _ = _ | show frF _ _ = _ | show isCallE _ = _ | show bltD _ _ = _ | show lstD _ = _ | show subD _ _ = _)); exact rfl) | decide | exact Nat.le_of_ble_eq_true rfl))⟩)
      refine o_step (p_append q3 rfl hla) (o_nil ⟨rfl, rows ++ [.tup cs], _, ?_, ?_, rfl⟩)
      · intro r hr
        rcases List.mem_append.mp hr with hr | hr
        · exact h1 r hr
        · exact ⟨cs, List.mem_singleton.mp hr, q1, q2⟩
      · simp [h2]
    have hv : evE (callN PP X (n + 2)) (vis (("_law_cell", (false, .int c)) :: ("_law_wide", (false, .int m)) :: ("_law_many", (false, .int k)) :: ("_law_rows", (true, .list rows)) :: setv l "_law_at" (false, .int i))) (.var "_law_at") = some (.int i) := by
      rw [e_var]; show (vis (setv l "_law_at" (false, .int i))).lookup "_law_at" = _; rw [lookup_vis, lookup_setv]; rfl
    refine o_norm (σ' := ("_law_cell", (false, .int c)) :: ("_law_wide", (false, .int m)) :: ("_law_many", (false, .int k)) :: ("_law_rows", (true, .list rows)) :: setv l "_law_at" (false, .int i)) rfl ?_
    refine o_step (p_assign (d := .int (i - i % 3 / 2)) (fr := false) (by (repeat' (first | (with_reducible (first | assumption | apply e_int | apply e_str | apply e_bool | apply e_none | apply es_nil)) | ((with_reducible apply v_var); (focus ((repeat' (first | (with_reducible (first | assumption | exact h_eq | exact hr_eq | exact w_eq | exact h_cons | apply h_own; assumption)) | ((with_reducible (first | apply h_ne | apply hr_ne | apply w_ne | apply h_consn | apply w_st | apply w_fr)); (focus (exact rfl))) | (with_reducible (first | apply hr_vis | apply h_st | apply h_fr)))); done))) | ((with_reducible apply v_var); exact rfl) | ((with_reducible refine (e_glob _ _ _).trans ?_); (with_reducible assumption)) | (with_reducible (first | exact v_neg1 | apply v_cons | apply v_bin | exact b_add | exact b_sb | apply b_mod | apply b_div)) | ((with_reducible apply b_mulL); (focus decide)) | (with_reducible (first | apply b_mul | apply v_cmp | apply v_sub | apply v_sl | apply v_not | apply v_isi | apply v_blt | apply v_tup | apply v_lst | apply v_lcp | apply v_callE | apply v_call | apply v_bop1)) | ((with_reducible (first | apply v_and | apply v_or)); rotate_left; intro _; rotate_right) | (with_reducible apply v_map) | ((with_reducible (first | show cmpD _ _ _ = _ | show truth _ = _ | show isiD _ _ = _ | show frF _ _ = _ | show isCallE _ = _ | show bltD _ _ = _ | show lstD _ = _ | show subD _ _ = _)); exact rfl) | decide | exact Nat.le_of_ble_eq_true rfl)))) ?_
    have hv2 : evE (callN PP X (n + 2)) (vis (setv (settle (.int ((i : Int) - i % 3 / 2)) (ME.names (.bin .Sub (.var "_law_at") (.bin .FloorDiv (.bin .Mod (.var "_law_at") (.int 3)) (.int 2)))) (("_law_cell", (false, .int c)) :: ("_law_wide", (false, .int m)) :: ("_law_many", (false, .int k)) :: ("_law_rows", (true, .list rows)) :: setv l "_law_at" (false, .int i))) "_law_like" (false, .int (i - i % 3 / 2)))) (.var "_law_at") = some (.int i) := by
      rw [e_var]; show (vis (setv (setv l "_law_at" (false, .int i)) "_law_like" (false, .int (i - i % 3 / 2)))).lookup "_law_at" = _; rw [lookup_vis, lookup_setv, lookup_setv]; rfl
    refine o_if (k := (i : Int) % 5 == 4) (by (repeat' (first | (with_reducible (first | assumption | apply e_int | apply e_str | apply e_bool | apply e_none | apply es_nil)) | ((with_reducible apply v_var); (focus ((repeat' (first | (with_reducible (first | assumption | exact h_eq | exact hr_eq | exact w_eq | exact h_cons | apply h_own; assumption)) | ((with_reducible (first | apply h_ne | apply hr_ne | apply w_ne | apply h_consn | apply w_st | apply w_fr)); (focus (exact rfl))) | (with_reducible (first | apply hr_vis | apply h_st | apply h_fr)))); done))) | ((with_reducible apply v_var); exact rfl) | ((with_reducible refine (e_glob _ _ _).trans ?_); (with_reducible assumption)) | (with_reducible (first | exact v_neg1 | apply v_cons | apply v_bin | exact b_add | exact b_sb | apply b_mod | apply b_div)) | ((with_reducible apply b_mulL); (focus decide)) | (with_reducible (first | apply b_mul | apply v_cmp | apply v_sub | apply v_sl | apply v_not | apply v_isi | apply v_blt | apply v_tup | apply v_lst | apply v_lcp | apply v_callE | apply v_call | apply v_bop1)) | ((with_reducible (first | apply v_and | apply v_or)); rotate_left; intro _; rotate_right) | (with_reducible apply v_map) | ((with_reducible (first | show cmpD _ _ _ = _ | show truth _ = _ | show isiD _ _ = _ | show frF _ _ = _ | show isCallE _ = _ | show bltD _ _ = _ | show lstD _ = _ | show subD _ _ = _)); exact rfl) | decide | exact Nat.le_of_ble_eq_true rfl))) rfl (fun _ => ?_) fun _ => tail _ _
    exact o_step (p_assign (e_int _ _ _ |> fun h => v_map h rfl rfl)) (tail 0 _))
  refine ⟨rows, h1, by rw [h2]; simp; exact hk, run_call (by rfl : PP.lookup "_law_rows_by" = some fn_law_rows_by) rfl ?_⟩
  refine r_step (p_assign (v_map (v_lst (es_nil _ _) (Nat.zero_le _)) rfl rfl)) ?_
  refine r_for (x := .rng 0 k) (v_blt (v_cons (d := .int k) rfl (es_nil _ _)) (blt_rng hk')) (items_rng k) h3 ?_
  exact r_retv rfl
theorem table_by (n : Nat) (ns : List Int) : ∃ rows, Rows (wideV (ns.getD 0 0)) rows ∧ rows.length ≤ 70 ∧ (callN PP X (n + 4)).call "_law_table_by" [.list (ns.map .int), .int 0] = some (.list rows, true) := by
  have c0 := cell_at (X := X) bg (n + 2) ns 0
  have c1 : (callN PP X (n + 3)).call "_law_cell_at" [.list (ns.map .int), .int (0 + 1)] = some (.int (ns.getD 1 0), false) := cell_at (X := X) bg (n + 2) ns 1
  have w0 := wide_by (X := X) (n + 2) (ns.getD 0 0)
  have hw := wide_le (ns.getD 0 0)
  have c0 : (callN PP X (n + 3)).call "_law_cell_at" [.list (ns.map .int), .int 0] = some (.int (ns.getD 0 0), false) := c0
  obtain ⟨m, hm, r0⟩ := rows_of (X := X) (n + 2) (ns.getD 0 0)
  obtain ⟨m2, e2, hm2⟩ := emod_nat (ns.getD 0 0 / 210) (k := 70) (by decide)
  have e2 : ns.getD 0 0 / 210 % 70 = m2 := e2
  obtain ⟨rows1, a1, a2, a3⟩ := rows_by (X := X) n (ns.getD 1 0) (wideV (ns.getD 0 0)) m hw (Nat.le_trans hm (by decide))
  obtain ⟨rows2, b1, b2, b3⟩ := rows_by (X := X) n (ns.getD 1 0) (wideV (ns.getD 0 0)) m2 hw (Nat.le_of_lt hm2)
  rw [← e2] at b3
  generalize wideV (ns.getD 0 0) = wd at *
  generalize ns.getD 0 0 = z0 at *
  generalize ns.getD 1 0 = z1 at *
  generalize D.list (ns.map .int) = S at *
  have key : Rex (callN PP X (n + 3)) fn_law_table_by.body [("_law_script", (false, S)), ("_law_k", (false, .int 0))] fun d fr => ∃ rows, Rows wd rows ∧ rows.length ≤ 70 ∧ d = .list rows ∧ fr = true := by
    (repeat' (first | ((first | apply r_step | apply q_step | apply o_step); (focus ((first | ((with_reducible apply p_cell); (focus ((repeat' (first | (with_reducible (first | assumption | apply e_int | apply e_str | apply e_bool | apply e_none | apply es_nil)) | ((with_reducible apply v_var); (focus ((repeat' (first | (with_reducible (first | assumption | exact h_eq | exact hr_eq | exact w_eq | exact h_cons | apply h_own; assumption)) | ((with_reducible (first | apply h_ne | apply hr_ne | apply w_ne | apply h_consn | apply w_st | apply w_fr)); (focus (exact rfl))) | (with_reducible (first | apply hr_vis | apply h_st | apply h_fr)))); done))) | ((with_reducible apply v_var); exact rfl) | ((with_reducible refine (e_glob _ _ _).trans ?_); (with_reducible assumption)) | (with_reducible (first | exact v_neg1 | apply v_cons | apply v_bin | exact b_add | exact b_sb | apply b_mod | apply b_div)) | ((with_reducible apply b_mulL); (focus decide)) | (with_reducible (first | apply b_mul | apply v_cmp | apply v_sub | apply v_sl | apply v_not | apply v_isi | apply v_blt | apply v_tup | apply v_lst | apply v_lcp | apply v_callE | apply v_call | apply v_bop1)) | ((with_reducible (first | apply v_and | apply v_or)); rotate_left; intro _; rotate_right) | (with_reducible apply v_map) | ((with_reducible (first | show cmpD _ _ _ = _ | show truth _ = _ | show isiD _ _ = _ | show frF _ _ = _ | show isCallE _ = _ | show bltD _ _ = _ | show lstD _ = _ | show subD _ _ = _)); exact rfl) | decide | exact Nat.le_of_ble_eq_true rfl)); done)); (with_reducible assumption)) | ((with_reducible apply p_assign); (repeat' (first | (with_reducible (first | assumption | apply e_int | apply e_str | apply e_bool | apply e_none | apply es_nil)) | ((with_reducible apply v_var); (focus ((repeat' (first | (with_reducible (first | assumption | exact h_eq | exact hr_eq | exact w_eq | exact h_cons | apply h_own; assumption)) | ((with_reducible (first | apply h_ne | apply hr_ne | apply w_ne | apply h_consn | apply w_st | apply w_fr)); (focus (exact rfl))) | (with_reducible (first | apply hr_vis | apply h_st | apply h_fr)))); done))) | ((with_reducible apply v_var); exact rfl) | ((with_reducible refine (e_glob _ _ _).trans ?_); (with_reducible assumption)) | (with_reducible (first | exact v_neg1 | apply v_cons | apply v_bin | exact b_add | exact b_sb | apply b_mod | apply b_div)) | ((with_reducible apply b_mulL); (focus decide)) | (with_reducible (first | apply b_mul | apply v_cmp | apply v_sub | apply v_sl | apply v_not | apply v_isi | apply v_blt | apply v_tup | apply v_lst | apply v_lcp | apply v_callE | apply v_call | apply v_bop1)) | ((with_reducible (first | apply v_and | apply v_or)); rotate_left; intro _; rotate_right) | (with_reducible apply v_map) | ((with_reducible (first | show cmpD _ _ _ = _ | show truth _ = _ | show isiD _ _ = _ | show frF _ _ = _ | show isCallE _ = _ | show bltD _ _ = _ | show lstD _ = _ | show subD _ _ = _)); exact rfl) | decide | exact Nat.le_of_ble_eq_true rfl)); done))))) | ((first | apply r_if | apply q_if | apply o_if); (((focus ((repeat' (first | (with_reducible (first | assumption | apply e_int | apply e_str | apply e_bool | apply e_none | apply es_nil)) | ((with_reducible apply v_var); (focus ((repeat' (first | (with_reducible (first | assumption | exact h_eq | exact hr_eq | exact w_eq | exact h_cons | apply h_own; assumption)) | ((with_reducible (first | apply h_ne | apply hr_ne | apply w_ne | apply h_consn | apply w_st | apply w_fr)); (focus (exact rfl))) | (with_reducible (first | apply hr_vis | apply h_st | apply h_fr)))); done))) | ((with_reducible apply v_var); exact rfl) | ((with_reducible refine (e_glob _ _ _).trans ?_); (with_reducible assumption)) | (with_reducible (first | exact v_neg1 | apply v_cons | apply v_bin | exact b_add | exact b_sb | apply b_mod | apply b_div)) | ((with_reducible apply b_mulL); (focus decide)) | (with_reducible (first | apply b_mul | apply v_cmp | apply v_sub | apply v_sl | apply v_not | apply v_isi | apply v_blt | apply v_tup | apply v_lst | apply v_lcp | apply v_callE | apply v_call | apply v_bop1)) | ((with_reducible (first | apply v_and | apply v_or)); rotate_left; intro _; rotate_right) | (with_reducible apply v_map) | ((with_reducible (first | show cmpD _ _ _ = _ | show truth _ = _ | show isiD _ _ = _ | show frF _ _ = _ | show isCallE _ = _ | show bltD _ _ = _ | show lstD _ = _ | show subD _ _ = _)); exact rfl) | decide | exact Nat.le_of_ble_eq_true rfl)); done)); (focus (exact rfl)); (focus (intro hh; first | exact no_tf hh (by assumption) | exact absurd hh (by decide) | skip)); rotate_left; (focus (intro hh; first | exact no_tf (by assumption) hh | exact absurd hh (by decide) | skip))))) | ((first | apply r_retv | apply q_retv); (focus (exact rfl))) | ((first | apply r_ret | apply q_ret | apply o_ret); (focus ((repeat' (first | (with_reducible (first | assumption | apply e_int | apply e_str | apply e_bool | apply e_none | apply es_nil)) | ((with_reducible apply v_var); (focus ((repeat' (first | (with_reducible (first | assumption | exact h_eq | exact hr_eq | exact w_eq | exact h_cons | apply h_own; assumption)) | ((with_reducible (first | apply h_ne | apply hr_ne | apply w_ne | apply h_consn | apply w_st | apply w_fr)); (focus (exact rfl))) | (with_reducible (first | apply hr_vis | apply h_st | apply h_fr)))); done))) | ((with_reducible apply v_var); exact rfl) | ((with_reducible refine (e_glob _ _ _).trans ?_); (with_reducible assumption)) | (with_reducible (first | exact v_neg1 | apply v_cons | apply v_bin | exact b_add | exact b_sb | apply b_mod | apply b_div)) | ((with_reducible apply b_mulL); (focus decide)) | (with_reducible (first | apply b_mul | apply v_cmp | apply v_sub | apply v_sl | apply v_not | apply v_isi | apply v_blt | apply v_tup | apply v_lst | apply v_lcp | apply v_callE | apply v_call | apply v_bop1)) | ((with_reducible (first | apply v_and | apply v_or)); rotate_left; intro _; rotate_right) | (with_reducible apply v_map) | ((with_reducible (first | show cmpD _ _ _ = _ | show truth _ = _ | show isiD _ _ = _ | show frF _ _ = _ | show isCallE _ = _ | show bltD _ _ = _ | show lstD _ = _ | show subD _ _ = _)); exact rfl) | decide | exact Nat.le_of_ble_eq_true rfl)); done)); (focus (exact rfl))) | apply o_nil))
    all_goals first | exact ⟨rows1, a1, a2, rfl, rfl⟩ | exact ⟨rows2, b1, b2, rfl, rfl⟩
  obtain ⟨d, fr, ⟨rows, q1, q2, rfl, rfl⟩, hr⟩ := rex_call (X := X) (n := n + 3) (args := [S, .int 0]) (by rfl : PP.lookup "_law_table_by" = some fn_law_table_by) rfl key
  exact ⟨rows, q1, q2, hr⟩
end

set_option maxRecDepth 100000
/-! what the keys' sorts, the last key first, make of rows whose last cell is their number -/
noncomputable def colV (p : Nat) (r : D) : D := match r with
  | .tup cs => cs.getD p .none
  | _ => .none
noncomputable def idxV (m : Nat) (r : D) : Int := match colV m r with
  | .int i => i
  | _ => 0
/-- rows of m cells and a number -/
noncomputable def RowK (m : Nat) (r : D) : Prop := ∃ cs i, r = .tup cs ∧ cs.length = m + 1 ∧ (∀ d ∈ cs, d.isCell = true) ∧ cs[m]? = some (.int i)
noncomputable def ltV (desc : Bool) (x y : D) : Bool := if desc then cellLt y x else cellLt x y
noncomputable def LexR (m : Nat) : List (Nat × Bool) → D → D → Prop
  | [], a, b => idxV m a < idxV m b
  | (p, desc) :: ks, a, b => ltV desc (colV p a) (colV p b) = true ∨ (colV p a = colV p b ∧ LexR m ks a b)
theorem RowK.col {m : Nat} {r : D} (h : RowK m r) {p : Nat} (hp : p ≤ m) : (colV p r).isCell = true := by
  obtain ⟨cs, i, rfl, hl, hc, _⟩ := h
  show (cs.getD p .none).isCell = true
  rw [List.getD_eq_getElem?_getD, List.getElem?_eq_getElem (by omega)]
  exact hc _ (List.getElem_mem _)
theorem cell_tri {a b : D} (ha : a.isCell = true) (hb : b.isCell = true) (h1 : cellLt a b = false) (h2 : cellLt b a = false) : a = b := by
  cases a <;> first | (cases ha; done) | skip
  all_goals (cases b <;> first | (cases hb; done) | (cases h1; done) | (cases h2; done) | skip)
  · rename_i i j
    have h1 := of_decide_eq_false h1
    have h2 := of_decide_eq_false h2
    exact congrArg D.int (by omega)
  · rename_i x y
    have h1 := of_decide_eq_false h1
    have h2 := of_decide_eq_false h2
    have e : x.cps.toList = y.cps.toList := List.le_antisymm (List.not_lt.mp h2) (List.not_lt.mp h1)
    obtain ⟨⟨x⟩⟩ := x
    obtain ⟨⟨y⟩⟩ := y
    exact congrArg D.str (by rw [show x = y from e])
noncomputable def srtV (p : Nat) (desc : Bool) (ds : List D) : List D := (srtIx (ds.map (colV p)) desc).map fun j => ds.getD j .none
theorem keyOf_map {p : Nat} {ds : List D} {j : Nat} (hj : j < ds.length) : keyOf (ds.map (colV p)) j = colV p (ds.getD j .none) := by
  unfold keyOf
  rw [List.getD_eq_getElem?_getD, List.getElem?_map, List.getElem?_eq_getElem hj, List.getD_eq_getElem?_getD, List.getElem?_eq_getElem hj]
  rfl
theorem srtV_ok {m p : Nat} {desc : Bool} {ks : List (Nat × Bool)} {ds : List D} (hp : p ≤ m) (hr : ∀ r ∈ ds, RowK m r) (hs : ds.Pairwise (LexR m ks)) :
    (srtV p desc ds).Perm ds ∧ (srtV p desc ds).Pairwise (LexR m ((p, desc) :: ks)) := by
  have hc : ∀ d ∈ ds.map (colV p), d.isCell = true := fun d hd => by
    obtain ⟨r, h1, rfl⟩ := List.mem_map.mp hd
    exact (hr r h1).col hp
  obtain ⟨h1, h2⟩ := sortIx_srtIx hc desc
  rw [List.length_map] at h1
  have hall : (List.range ds.length).map (fun j => ds.getD j .none) = ds := by
    apply List.ext_getElem
    · simp
    · intro i h3 h4
      simp [h4]
  have hpm : (srtV p desc ds).Perm ((List.range ds.length).map (fun j => ds.getD j .none)) := h1.map _
  rw [hall] at hpm
  refine ⟨hpm, ?_⟩
  unfold srtV
  rw [List.pairwise_map]
  refine h2.imp_of_mem fun {a b} ha hb hk => ?_
  have ha := List.mem_range.mp (h1.mem_iff.mp ha)
  have hb := List.mem_range.mp (h1.mem_iff.mp hb)
  have ca := (hr _ (List.getElem_mem ha)).col hp
  have cb := (hr _ (List.getElem_mem hb)).col hp
  have ea : ds.getD a .none = ds[a] := by rw [List.getD_eq_getElem?_getD, List.getElem?_eq_getElem ha]; rfl
  have eb : ds.getD b .none = ds[b] := by rw [List.getD_eq_getElem?_getD, List.getElem?_eq_getElem hb]; rfl
  have kl : ∀ a b, a < ds.length → b < ds.length → klOf (ds.map (colV p)) desc a b = ltV desc (colV p (ds.getD a .none)) (colV p (ds.getD b .none)) := fun a b ha hb => by
    unfold klOf ltV; rw [keyOf_map ha, keyOf_map hb]
  unfold Rk at hk
  rw [kl a b ha hb, kl b a hb ha] at hk
  rcases hk with hk | ⟨hk, hlt⟩
  · exact .inl hk
  · cases hk2 : ltV desc (colV p (ds.getD a .none)) (colV p (ds.getD b .none)) with
    | true => exact .inl hk2
    | false =>
      refine .inr ⟨?_, ?_⟩
      · rw [ea, eb] at *
        unfold ltV at hk hk2
        cases desc with
        | true => exact cell_tri ca cb hk hk2
        | false => exact cell_tri ca cb hk2 hk
      · rw [ea, eb]
        exact List.pairwise_iff_getElem.mp hs a b ha hb hlt
/-- all keys, the last first -/
noncomputable def ordV (keys : List (Nat × Bool)) (ds : List D) : List D := keys.foldr (fun k l => srtV k.1 k.2 l) ds
theorem ordV_ok {m : Nat} {ds : List D} (hr : ∀ r ∈ ds, RowK m r) (hs : ds.Pairwise (LexR m [])) : ∀ (keys : List (Nat × Bool)), (∀ k ∈ keys, k.1 ≤ m) → (ordV keys ds).Perm ds ∧ (ordV keys ds).Pairwise (LexR m keys)
  | [], _ => ⟨.refl _, hs⟩
  | (p, desc) :: keys, hk => by
    obtain ⟨h1, h2⟩ := ordV_ok hr hs keys fun k h => hk k (.tail _ h)
    obtain ⟨h3, h4⟩ := srtV_ok (desc := desc) (hk _ (.head _)) (fun r h => hr r (h1.mem_iff.mp h)) h2
    exact ⟨h3.trans h1, h4⟩

set_option maxRecDepth 100000
set_option maxHeartbeats 400000
theorem v_srt {cf : CF} {ρ : List (String × D)} {a : ME} {f x p : String} {rev : Bool} {ds ks : List D} {i : D} (ha : evE cf ρ a = some (.list ds)) (hp : HasR ρ p i) (hz : ds.length < 128)
    (hk : keysD (rowKey cf f i) ds = some ks) : evE cf ρ (.srt a f x p rev) = some (.list ((srtIx ks rev).map fun j => ds.getD j .none)) := by
  rw [ev_srt, ha]
  dsimp only
  rw [show ρ.lookup p = some i from hp]
  show (if ds.length < 128 then _ else _) = _
  rw [if_pos hz, hk]; rfl
section
variable {X : CF}
theorem rank_eq (n : Nat) {c : D} (hc : c.isCell = true) : (callN PP X (n + 1)).call "rank" [c] = some (.tup [.bool (isStrD c), c], false) := by
  refine run_call (by rfl : PP.lookup "rank" = some fn_rank) rfl ?_
  cases c <;> first | (cases hc; done) | rfl
theorem col_e {m : Nat} {r : D} (h : RowK m r) {p : Nat} (hp : p ≤ m) : subD r (.int p) = some (colV p r) := by
  obtain ⟨cs, i, rfl, hl, _, _⟩ := h
  exact getD_at (by omega)
theorem keys_rows (n : Nat) {m p : Nat} (hp : p ≤ m) : ∀ {ds : List D}, (∀ r ∈ ds, RowK m r) → keysD (rowKey (callN PP X (n + 1)) "rank" (.int p)) ds = some (ds.map (colV p))
  | [], _ => rfl
  | d :: r, h => by
    have hc := (h d (.head _)).col hp
    have hk : rowKey (callN PP X (n + 1)) "rank" (.int p) d = some (.tup [.bool (isStrD (colV p d)), colV p d]) := by
      unfold rowKey
      rw [col_e (h d (.head _)) hp]
      dsimp only
      rw [rank_eq n hc]; rfl
    rw [keysD, hk]
    dsimp only
    have : keyD (.tup [.bool (isStrD (colV p d)), colV p d]) = some (colV p d) := by
      show (if (colV p d).isCell && isStrD (colV p d) == isStrD (colV p d) then _ else _) = _
      rw [hc, beq_self_eq_true]; rfl
    rw [this]
    dsimp only
    rw [keys_rows n hp fun x hx => h x (.tail _ hx)]
    rfl
noncomputable def keyT (k : Nat × Bool) : D := .tup [.int k.1, .bool k.2]
theorem keyT_inj : ∀ (l l' : List (Nat × Bool)), l.map keyT = l'.map keyT → l = l'
  | [], [], _ => rfl
  | [], _ :: _, h => by cases h
  | _ :: _, [], h => by cases h
  | (x1, x2) :: l, (y1, y2) :: l', h => by
    rw [List.map_cons, List.map_cons, List.cons.injEq] at h
    have h1 := h.1
    simp only [keyT, D.tup.injEq, List.cons.injEq, D.int.injEq, D.bool.injEq, and_true] at h1
    rw [keyT_inj l l' h.2, show x1 = y1 from by omega, h1.2]
noncomputable def ordBody : List MS := [.assign "place" (.sub (.var "one") (.int 0)), .ite (.sub (.var "one") (.int 1)) [.assign "found" (.srt (.var "found") "rank" "row" "place" true)] [.assign "found" (.srt (.var "found") "rank" "row" "place" false)]]
theorem ord_turn (n : Nat) {m : Nat} {k : Nat × Bool} (hk : k.1 ≤ m) {ds : List D} (hr : ∀ r ∈ ds, RowK m r) (hl : ds.length < 128) {σ : St} (h1 : Has σ "found" (.list ds)) (h2 : Has σ "one" (keyT k)) :
    Out (callN PP X (n + 1)) ordBody σ fun fl σ' => fl = .next ∧ Has σ' "found" (.list (srtV k.1 k.2 ds)) := by
  obtain ⟨p, b⟩ := k
  have e1 : evE (callN PP X (n + 1)) (vis σ) (.sub (.var "one") (.int 0)) = some (.int p) := v_sub (v_var (hr_vis h2)) (e_int _ _ _) rfl
  refine o_step (p_assign (v_map e1 rfl rfl)) ?_
  have h2' : Has (setv (settle (.int p) (ME.names (.sub (.var "one") (.int 0))) σ) "place" (frF (.sub (.var "one") (.int 0)) (.int p), .int p)) "one" (keyT (p, b)) := h_ne rfl (h_st h2)
  have h1' : Has (setv (settle (.int p) (ME.names (.sub (.var "one") (.int 0))) σ) "place" (frF (.sub (.var "one") (.int 0)) (.int p), .int p)) "found" (.list ds) := h_ne rfl (h_st h1)
  have h3' : Has (setv (settle (.int p) (ME.names (.sub (.var "one") (.int 0))) σ) "place" (frF (.sub (.var "one") (.int 0)) (.int p), .int p)) "place" (.int p) := h_eq
  refine o_if (k := b) (v_sub (v_var (hr_vis h2')) (e_int _ _ _) rfl) rfl (fun hb => ?_) fun hb => ?_
  · subst hb
    exact o_step (p_assign (v_map (v_srt (v_var (hr_vis h1')) (hr_vis h3') hl (keys_rows n hk hr)) rfl rfl)) (o_nil ⟨rfl, h_eq⟩)
  · subst hb
    exact o_step (p_assign (v_map (v_srt (v_var (hr_vis h1')) (hr_vis h3') hl (keys_rows n hk hr)) rfl rfl)) (o_nil ⟨rfl, h_eq⟩)
theorem ordered_eq (n : Nat) {m : Nat} {keys : List (Nat × Bool)} (hk : ∀ k ∈ keys, k.1 ≤ m) {rows : List D} (hr : ∀ r ∈ rows, RowK m r) (hl : rows.length < 128) (hs : rows.Pairwise (LexR m [])) :
    ∃ fr, (callN PP X (n + 2)).call "ordered" [.list rows, .tup (keys.map keyT)] = some (.list (ordV keys rows), fr) := by
  obtain ⟨σ', ⟨ks, h1, h2⟩, h3⟩ := loop_inv (cf := callN PP X (n + 1)) (body := ordBody) (z := "one")
    (fun a σ => ∃ ks : List (Nat × Bool), a.reverse = ks.map keyT ∧ Has σ "found" (.list (ordV ks rows))) ((keys.map keyT).reverse) [] (freeze ["keys"] (setv (settle (.list rows) ["rows"] [("rows", (false, .list rows)), ("keys", (false, .tup (keys.map keyT)))]) "found" (true, .list rows)))
    ⟨[], rfl, h_fr h_eq⟩ (by
      rintro a it b σ hab ⟨ks, h1, h2⟩
      rw [List.nil_append] at hab
      have e : keys.map keyT = b.reverse ++ it :: a.reverse := by
        have := congrArg List.reverse hab
        simpa using this
      rw [h1] at e
      obtain ⟨k1, k2, e1, e2, e3⟩ := List.map_eq_append_iff.mp e
      obtain ⟨k, k3, e4, e5, e6⟩ := List.map_eq_cons_iff.mp e3
      have hinj : k3 = ks := by
        exact keyT_inj _ _ e6
      subst hinj
      subst e5
      have hsub : ∀ x ∈ k :: k3, x ∈ keys := fun x hx => by rw [e1, e4]; exact List.mem_append_right _ hx
      obtain ⟨g1, g2⟩ := ordV_ok hr hs k3 fun x hx => hk x (hsub x (.tail _ hx))
      obtain ⟨fl, σ', ⟨rfl, q⟩, q2⟩ := ord_turn (X := X) n (hk k (hsub k (.head _))) (fun r h => hr r (g1.mem_iff.mp h)) (by rw [g1.length_eq]; exact hl) (σ := setv σ "one" (false, keyT k)) (h_ne rfl h2) h_eq
      refine ⟨.next, σ', ⟨rfl, k :: k3, ?_, q⟩, q2⟩
      rw [List.reverse_append, h1]; rfl)
  have hks : ks = keys := by
    rw [List.nil_append, List.reverse_reverse] at h1
    exact (keyT_inj _ _ h1).symm
  obtain ⟨fr, h2⟩ := h2
  refine ⟨fr, run_call (by rfl : PP.lookup "ordered" = some fn_ordered) rfl ?_⟩
  refine r_step (p_assign (d := .list rows) (fr := true) (v_map (v_lcp (x := .list rows) rfl rfl) rfl rfl)) ?_
  exact r_forr (ds := keys.map keyT) rfl h3 (r_retv (hks ▸ h2))
end

set_option maxRecDepth 100000
set_option maxHeartbeats 400000
theorem cellEq_iff {a b : D} (ha : a.isCell = true) (h : cellEq a b = true) : a = b := by
  cases a <;> first | (cases ha; done) | (cases b <;> first | (cases h; done) | skip)
  · exact congrArg D.int (eq_of_beq h)
  · exact congrArg D.str (eq_of_beq h)
theorem cellEq_self {a : D} (ha : a.isCell = true) : cellEq a a = true := by
  cases a <;> first | (cases ha; done) | exact beq_self_eq_true _
section
variable {X : CF}
theorem cell_is (n : Nat) {a b : D} (ha : a.isCell = true) (hb : b.isCell = true) : (callN PP X (n + 1)).call "_law_cell_is" [a, b] = some (.bool (cellEq a b), false) := by
  refine run_call (by rfl : PP.lookup "_law_cell_is" = some fn_law_cell_is) rfl ?_
  cases a <;> first | (cases ha; done) | (cases b <;> first | (cases hb; done) | rfl)
theorem compM_none (f : D → Option (Option D)) : ∀ (its : List D), (∀ it ∈ its, f it = some none) → compM f its = some []
  | [], _ => rfl
  | it :: r, h => by rw [compM, h it (.head _)]; show (match compM f r with | none => none | some ds => _) = _; rw [compM_none f r fun i hi => h i (.tail _ hi)]
theorem neq_self (i : Int) : cmpD .NotEq (.int i) (.int i) = some (.bool false) := by show some (D.bool (!(i == i))) = _; rw [beq_self_eq_true]; rfl
/-- a comprehension over range(n) that finds nothing -/
theorem v_nothing {cf : CF} {ρ : List (String × D)} {src elt c : ME} {z : String} {k : Nat} (hk : k ≤ 1000) (hs : evE cf ρ src = some (.int k)) (h : ∀ i : Nat, i < k → evE cf ((z, .int i) :: ρ) c = some (.bool true)) :
    evE cf ρ (.not (.comp elt z (.blt "range" [src]) [.not c])) = some (.bool true) := by
  have hb : k ≤ big := Nat.le_trans hk (by decide)
  have hlen : ((List.range k).map fun (i : Nat) => D.int (i : Int)).length = k := by simp
  refine v_not (k := false) (v_comp (ds := []) (v_blt (v_cons (d := .int k) hs (es_nil _ _)) (blt_rng hb)) (items_rng k) (Nat.le_trans (Nat.le_of_eq hlen) hb) (compM_none _ _ ?_)) rfl
  intro it hit
  obtain ⟨i, hi, rfl⟩ := List.mem_map.mp hit
  exact compF_one (k := false) (y := .none) (v_not (h i (List.mem_range.mp hi)) rfl) rfl nofun
noncomputable def Flat (cs : List D) : Prop := cs.length ≤ 1000 ∧ ∀ d ∈ cs, d.isCell = true
/-- a row of found cells and the same cells, as a row or a list -/
theorem row_is (n : Nat) {cs : List D} (hf : Flat cs) {due : D} (hd : due = .tup cs ∨ due = .list cs) : (callN PP X (n + 2)).call "_law_row_is" [.tup cs, due] = some (.bool true, false) := by
  obtain ⟨hl, hc⟩ := hf
  have hcell := fun i (h : i < cs.length) => cell_is (X := X) n (hc _ (List.getElem_mem h)) (hc _ (List.getElem_mem h))
  have e := neq_self cs.length
  refine run_call (by rfl : PP.lookup "_law_row_is" = some fn_law_row_is) rfl ?_
  have hlen : bltD "len" [due] = some (.int cs.length) := by rcases hd with rfl | rfl <;> rfl
  have hsub : ∀ i (h : i < cs.length), subD due (.int i) = some cs[i] := by
    intro i h
    rcases hd with rfl | rfl
    · exact sub_t h (List.getElem?_eq_getElem h)
    · exact sub_l h (List.getElem?_eq_getElem h)
  refine r_if (k := false) (x := .bool (false || false)) (v_or (l := false) rfl fun _ => v_bop1 (v_cmp rfl (v_blt (v_cons (d := due) rfl (es_nil _ _)) hlen) e)) rfl nofun fun _ => ?_
  refine r_ret (v_map (v_nothing hl (v_blt (v_cons (d := due) rfl (es_nil _ _)) hlen) fun i hi => ?_) rfl rfl) rfl
  have q := hcell i hi
  rw [cellEq_self (hc _ (List.getElem_mem hi))] at q
  have q2 : subD (.tup cs) (.int i) = some cs[i] := sub_t hi (List.getElem?_eq_getElem hi)
  have q3 := hsub i hi
  (repeat' (first | (with_reducible (first | assumption | apply e_int | apply e_str | apply e_bool | apply e_none | apply es_nil)) | ((with_reducible apply v_var); (focus ((repeat' (first | (with_reducible (first | assumption | exact h_eq | exact hr_eq | exact w_eq | exact h_cons | apply h_own; assumption)) | ((with_reducible (first | apply h_ne | apply hr_ne | apply w_ne | apply h_consn | apply w_st | apply w_fr)); (focus (exact rfl))) | (with_reducible (first | apply hr_vis | apply h_st | apply h_fr)))); done))) | ((with_reducible apply v_var); exact rfl) | ((with_reducible refine (e_glob _ _ _).trans ?_); (with_reducible assumption)) | (with_reducible (first | exact v_neg1 | apply v_cons | apply v_bin | exact b_add | exact b_sb | apply b_mod | apply b_div)) | ((with_reducible apply b_mulL); (focus decide)) | (with_reducible (first | apply b_mul | apply v_cmp | apply v_sub | apply v_sl | apply v_not | apply v_isi | apply v_blt | apply v_tup | apply v_lst | apply v_lcp | apply v_callE | apply v_call | apply v_bop1)) | ((with_reducible (first | apply v_and | apply v_or)); rotate_left; intro _; rotate_right) | (with_reducible apply v_map) | ((with_reducible (first | show cmpD _ _ _ = _ | show truth _ = _ | show isiD _ _ = _ | show frF _ _ = _ | show isCallE _ = _ | show bltD _ _ = _ | show lstD _ = _ | show subD _ _ = _)); exact rfl) | decide | exact Nat.le_of_ble_eq_true rfl))
theorem rows_are (n : Nat) {rows : List D} (hl : rows.length ≤ 1000) (hr : ∀ r ∈ rows, ∃ cs, r = .tup cs ∧ Flat cs) : (callN PP X (n + 3)).call "_law_rows_are" [.list rows, .list rows] = some (.bool true, false) := by
  have hrow : ∀ i (h : i < rows.length), (callN PP X (n + 2)).call "_law_row_is" [rows[i], rows[i]] = some (.bool true, false) := by
    intro i h
    obtain ⟨cs, e, hf⟩ := hr _ (List.getElem_mem h)
    rw [e]; exact row_is n hf (.inl rfl)
  refine run_call (by rfl : PP.lookup "_law_rows_are" = some fn_law_rows_are) rfl ?_
  have e := neq_self rows.length
  refine r_if (k := false) (x := .bool (false || false)) (v_or (l := false) rfl fun _ => v_bop1 (v_cmp rfl rfl e)) rfl nofun fun _ => ?_
  refine r_ret (v_map (v_nothing hl rfl fun i hi => ?_) rfl rfl) rfl
  have q := hrow i hi
  have q2 : subD (.list rows) (.int i) = some rows[i] := sub_l hi (List.getElem?_eq_getElem hi)
  (repeat' (first | (with_reducible (first | assumption | apply e_int | apply e_str | apply e_bool | apply e_none | apply es_nil)) | ((with_reducible apply v_var); (focus ((repeat' (first | (with_reducible (first | assumption | exact h_eq | exact hr_eq | exact w_eq | exact h_cons | apply h_own; assumption)) | ((with_reducible (first | apply h_ne | apply hr_ne | apply w_ne | apply h_consn | apply w_st | apply w_fr)); (focus (exact rfl))) | (with_reducible (first | apply hr_vis | apply h_st | apply h_fr)))); done))) | ((with_reducible apply v_var); exact rfl) | ((with_reducible refine (e_glob _ _ _).trans ?_); (with_reducible assumption)) | (with_reducible (first | exact v_neg1 | apply v_cons | apply v_bin | exact b_add | exact b_sb | apply b_mod | apply b_div)) | ((with_reducible apply b_mulL); (focus decide)) | (with_reducible (first | apply b_mul | apply v_cmp | apply v_sub | apply v_sl | apply v_not | apply v_isi | apply v_blt | apply v_tup | apply v_lst | apply v_lcp | apply v_callE | apply v_call | apply v_bop1)) | ((with_reducible (first | apply v_and | apply v_or)); rotate_left; intro _; rotate_right) | (with_reducible apply v_map) | ((with_reducible (first | show cmpD _ _ _ = _ | show truth _ = _ | show isiD _ _ = _ | show frF _ _ = _ | show isCallE _ = _ | show bltD _ _ = _ | show lstD _ = _ | show subD _ _ = _)); exact rfl) | decide | exact Nat.le_of_ble_eq_true rfl))
end
theorem steps_at (n : Nat) : (callN PP X7 n).glob "STEPS" = some (.tup steps) := glob_x PP X7 n "STEPS"
noncomputable def q0 : D := .tup [.str (Str.ofString "table"), .str (Str.ofString "t")]
noncomputable def tabs (rows : List D) : D := .dict [.str (Str.ofString "t")] [.list rows]
section
variable {X : CF} {m : Nat} {rows : List D} {keys : List (Nat × Bool)}
theorem ans_table (n : Nat) : (callN PP X7 (n + 1)).call "answer" [q0, tabs rows] = some (.list rows, true) := by
  have hg := steps_at n
  have h1 : cmpD .NotIn (.str (Str.ofString "t")) (tabs rows) = some (.bool false) := rfl
  have h2 : subD (tabs rows) (.str (Str.ofString "t")) = some (.list rows) := rfl
  refine run_call (by rfl : PP.lookup "answer" = some fn_answer) rfl ?_
  generalize callN PP X7 n = cf at *
  unfold q0
  generalize tabs rows = T at *
  (repeat' (first | ((first | apply r_step | apply q_step | apply o_step); (focus ((first | ((with_reducible apply p_cell); (focus ((repeat' (first | (with_reducible (first | assumption | apply e_int | apply e_str | apply e_bool | apply e_none | apply es_nil)) | ((with_reducible apply v_var); (focus ((repeat' (first | (with_reducible (first | assumption | exact h_eq | exact hr_eq | exact w_eq | exact h_cons | apply h_own; assumption)) | ((with_reducible (first | apply h_ne | apply hr_ne | apply w_ne | apply h_consn | apply w_st | apply w_fr)); (focus (exact rfl))) | (with_reducible (first | apply hr_vis | apply h_st | apply h_fr)))); done))) | ((with_reducible apply v_var); exact rfl) | ((with_reducible refine (e_glob _ _ _).trans ?_); (with_reducible assumption)) | (with_reducible (first | exact v_neg1 | apply v_cons | apply v_bin | exact b_add | exact b_sb | apply b_mod | apply b_div)) | ((with_reducible apply b_mulL); (focus decide)) | (with_reducible (first | apply b_mul | apply v_cmp | apply v_sub | apply v_sl | apply v_not | apply v_isi | apply v_blt | apply v_tup | apply v_lst | apply v_lcp | apply v_callE | apply v_call | apply v_bop1)) | ((with_reducible (first | apply v_and | apply v_or)); rotate_left; intro _; rotate_right) | (with_reducible apply v_map) | ((with_reducible (first | show cmpD _ _ _ = _ | show truth _ = _ | show isiD _ _ = _ | show frF _ _ = _ | show isCallE _ = _ | show bltD _ _ = _ | show lstD _ = _ | show subD _ _ = _)); exact rfl) | decide | exact Nat.le_of_ble_eq_true rfl)); done)); (with_reducible assumption)) | ((with_reducible apply p_assign); (repeat' (first | (with_reducible (first | assumption | apply e_int | apply e_str | apply e_bool | apply e_none | apply es_nil)) | ((with_reducible apply v_var); (focus ((repeat' (first | (with_reducible (first | assumption | exact h_eq | exact hr_eq | exact w_eq | exact h_cons | apply h_own; assumption)) | ((with_reducible (first | apply h_ne | apply hr_ne | apply w_ne | apply h_consn | apply w_st | apply w_fr)); (focus (exact rfl))) | (with_reducible (first | apply hr_vis | apply h_st | apply h_fr)))); done))) | ((with_reducible apply v_var); exact rfl) | ((with_reducible refine (e_glob _ _ _).trans ?_); (with_reducible assumption)) | (with_reducible (first | exact v_neg1 | apply v_cons | apply v_bin | exact b_add | exact b_sb | apply b_mod | apply b_div)) | ((with_reducible apply b_mulL); (focus decide)) | (with_reducible (first | apply b_mul | apply v_cmp | apply v_sub | apply v_sl | apply v_not | apply v_isi | apply v_blt | apply v_tup | apply v_lst | apply v_lcp | apply v_callE | apply v_call | apply v_bop1)) | ((with_reducible (first | apply v_and | apply v_or)); rotate_left; intro _; rotate_right) | (with_reducible apply v_map) | ((with_reducible (first | show cmpD _ _ _ = _ | show truth _ = _ | show isiD _ _ = _ | show frF _ _ = _ | show isCallE _ = _ | show bltD _ _ = _ | show lstD _ = _ | show subD _ _ = _)); exact rfl) | decide | exact Nat.le_of_ble_eq_true rfl)); done))))) | ((first | apply r_if | apply q_if | apply o_if); (((focus ((repeat' (first | (with_reducible (first | assumption | apply e_int | apply e_str | apply e_bool | apply e_none | apply es_nil)) | ((with_reducible apply v_var); (focus ((repeat' (first | (with_reducible (first | assumption | exact h_eq | exact hr_eq | exact w_eq | exact h_cons | apply h_own; assumption)) | ((with_reducible (first | apply h_ne | apply hr_ne | apply w_ne | apply h_consn | apply w_st | apply w_fr)); (focus (exact rfl))) | (with_reducible (first | apply hr_vis | apply h_st | apply h_fr)))); done))) | ((with_reducible apply v_var); exact rfl) | ((with_reducible refine (e_glob _ _ _).trans ?_); (with_reducible assumption)) | (with_reducible (first | exact v_neg1 | apply v_cons | apply v_bin | exact b_add | exact b_sb | apply b_mod | apply b_div)) | ((with_reducible apply b_mulL); (focus decide)) | (with_reducible (first | apply b_mul | apply v_cmp | apply v_sub | apply v_sl | apply v_not | apply v_isi | apply v_blt | apply v_tup | apply v_lst | apply v_lcp | apply v_callE | apply v_call | apply v_bop1)) | ((with_reducible (first | apply v_and | apply v_or)); rotate_left; intro _; rotate_right) | (with_reducible apply v_map) | ((with_reducible (first | show cmpD _ _ _ = _ | show truth _ = _ | show isiD _ _ = _ | show frF _ _ = _ | show isCallE _ = _ | show bltD _ _ = _ | show lstD _ = _ | show subD _ _ = _)); exact rfl) | decide | exact Nat.le_of_ble_eq_true rfl)); done)); (focus (exact rfl)); (focus (intro hh; first | exact no_tf hh (by assumption) | exact absurd hh (by decide) | skip)); rotate_left; (focus (intro hh; first | exact no_tf (by assumption) hh | exact absurd hh (by decide) | skip))))) | ((first | apply r_retv | apply q_retv); (focus (exact rfl))) | ((first | apply r_ret | apply q_ret | apply o_ret); (focus ((repeat' (first | (with_reducible (first | assumption | apply e_int | apply e_str | apply e_bool | apply e_none | apply es_nil)) | ((with_reducible apply v_var); (focus ((repeat' (first | (with_reducible (first | assumption | exact h_eq | exact hr_eq | exact w_eq | exact h_cons | apply h_own; assumption)) | ((with_reducible (first | apply h_ne | apply hr_ne | apply w_ne | apply h_consn | apply w_st | apply w_fr)); (focus (exact rfl))) | (with_reducible (first | apply hr_vis | apply h_st | apply h_fr)))); done))) | ((with_reducible apply v_var); exact rfl) | ((with_reducible refine (e_glob _ _ _).trans ?_); (with_reducible assumption)) | (with_reducible (first | exact v_neg1 | apply v_cons | apply v_bin | exact b_add | exact b_sb | apply b_mod | apply b_div)) | ((with_reducible apply b_mulL); (focus decide)) | (with_reducible (first | apply b_mul | apply v_cmp | apply v_sub | apply v_sl | apply v_not | apply v_isi | apply v_blt | apply v_tup | apply v_lst | apply v_lcp | apply v_callE | apply v_call | apply v_bop1)) | ((with_reducible (first | apply v_and | apply v_or)); rotate_left; intro _; rotate_right) | (with_reducible apply v_map) | ((with_reducible (first | show cmpD _ _ _ = _ | show truth _ = _ | show isiD _ _ = _ | show frF _ _ = _ | show isCallE _ = _ | show bltD _ _ = _ | show lstD _ = _ | show subD _ _ = _)); exact rfl) | decide | exact Nat.le_of_ble_eq_true rfl)); done)); (focus (exact rfl))) | apply o_nil))
theorem stepped_o (n : Nat) {K R F : D} {fr : Bool} (h : (callN PP X7 (n + 1)).call "ordered" [R, K] = some (F, fr)) :
    (callN PP X7 (n + 2)).call "stepped" [.tup [.str (Str.ofString "order"), K, q0], R] = some (F, fr) := by
  refine run_call (by rfl : PP.lookup "stepped" = some fn_stepped) rfl ?_
  generalize callN PP X7 (n + 1) = cf at *
  (repeat' (first | ((first | apply r_step | apply q_step | apply o_step); (focus ((first | ((with_reducible apply p_cell); (focus ((repeat' (first | (with_reducible (first | assumption | apply e_int | apply e_str | apply e_bool | apply e_none | apply es_nil)) | ((with_reducible apply v_var); (focus ((repeat' (first | (with_reducible (first | assumption | exact h_eq | exact hr_eq | exact w_eq | exact h_cons | apply h_own; assumption)) | ((with_reducible (first | apply h_ne | apply hr_ne | apply w_ne | apply h_consn | apply w_st | apply w_fr)); (focus (exact rfl))) | (with_reducible (first | apply hr_vis | apply h_st | apply h_fr)))); done))) | ((with_reducible apply v_var); exact rfl) | ((with_reducible refine (e_glob _ _ _).trans ?_); (with_reducible assumption)) | (with_reducible (first | exact v_neg1 | apply v_cons | apply v_bin | exact b_add | exact b_sb | apply b_mod | apply b_div)) | ((with_reducible apply b_mulL); (focus decide)) | (with_reducible (first | apply b_mul | apply v_cmp | apply v_sub | apply v_sl | apply v_not | apply v_isi | apply v_blt | apply v_tup | apply v_lst | apply v_lcp | apply v_callE | apply v_call | apply v_bop1)) | ((with_reducible (first | apply v_and | apply v_or)); rotate_left; intro _; rotate_right) | (with_reducible apply v_map) | ((with_reducible (first | show cmpD _ _ _ = _ | show truth _ = _ | show isiD _ _ = _ | show frF _ _ = _ | show isCallE _ = _ | show bltD _ _ = _ | show lstD _ = _ | show subD _ _ = _)); exact rfl) | decide | exact Nat.le_of_ble_eq_true rfl)); done)); (with_reducible assumption)) | ((with_reducible apply p_assign); (repeat' (first | (with_reducible (first | assumption | apply e_int | apply e_str | apply e_bool | apply e_none | apply es_nil)) | ((with_reducible apply v_var); (focus ((repeat' (first | (with_reducible (first | assumption | exact h_eq | exact hr_eq | exact w_eq | exact h_cons | apply h_own; assumption)) | ((with_reducible (first | apply h_ne | apply hr_ne | apply w_ne | apply h_consn | apply w_st | apply w_fr)); (focus (exact rfl))) | (with_reducible (first | apply hr_vis | apply h_st | apply h_fr)))); done))) | ((with_reducible apply v_var); exact rfl) | ((with_reducible refine (e_glob _ _ _).trans ?_); (with_reducible assumption)) | (with_reducible (first | exact v_neg1 | apply v_cons | apply v_bin | exact b_add | exact b_sb | apply b_mod | apply b_div)) | ((with_reducible apply b_mulL); (focus decide)) | (with_reducible (first | apply b_mul | apply v_cmp | apply v_sub | apply v_sl | apply v_not | apply v_isi | apply v_blt | apply v_tup | apply v_lst | apply v_lcp | apply v_callE | apply v_call | apply v_bop1)) | ((with_reducible (first | apply v_and | apply v_or)); rotate_left; intro _; rotate_right) | (with_reducible apply v_map) | ((with_reducible (first | show cmpD _ _ _ = _ | show truth _ = _ | show isiD _ _ = _ | show frF _ _ = _ | show isCallE _ = _ | show bltD _ _ = _ | show lstD _ = _ | show subD _ _ = _)); exact rfl) | decide | exact Nat.le_of_ble_eq_true rfl)); done))))) | ((first | apply r_if | apply q_if | apply o_if); (((focus ((repeat' (first | (with_reducible (first | assumption | apply e_int | apply e_str | apply e_bool | apply e_none | apply es_nil)) | ((with_reducible apply v_var); (focus ((repeat' (first | (with_reducible (first | assumption | exact h_eq | exact hr_eq | exact w_eq | exact h_cons | apply h_own; assumption)) | ((with_reducible (first | apply h_ne | apply hr_ne | apply w_ne | apply h_consn | apply w_st | apply w_fr)); (focus (exact rfl))) | (with_reducible (first | apply hr_vis | apply h_st | apply h_fr)))); done))) | ((with_reducible apply v_var); exact rfl) | ((with_reducible refine (e_glob _ _ _).trans ?_); (with_reducible assumption)) | (with_reducible (first | exact v_neg1 | apply v_cons | apply v_bin | exact b_add | exact b_sb | apply b_mod | apply b_div)) | ((with_reducible apply b_mulL); (focus decide)) | (with_reducible (first | apply b_mul | apply v_cmp | apply v_sub | apply v_sl | apply v_not | apply v_isi | apply v_blt | apply v_tup | apply v_lst | apply v_lcp | apply v_callE | apply v_call | apply v_bop1)) | ((with_reducible (first | apply v_and | apply v_or)); rotate_left; intro _; rotate_right) | (with_reducible apply v_map) | ((with_reducible (first | show cmpD _ _ _ = _ | show truth _ = _ | show isiD _ _ = _ | show frF _ _ = _ | show isCallE _ = _ | show bltD _ _ = _ | show lstD _ = _ | show subD _ _ = _)); exact rfl) | decide | exact Nat.le_of_ble_eq_true rfl)); done)); (focus (exact rfl)); (focus (intro hh; first | exact no_tf hh (by assumption) | exact absurd hh (by decide) | skip)); rotate_left; (focus (intro hh; first | exact no_tf (by assumption) hh | exact absurd hh (by decide) | skip))))) | ((first | apply r_retv | apply q_retv); (focus (exact rfl))) | ((first | apply r_ret | apply q_ret | apply o_ret); (focus ((repeat' (first | (with_reducible (first | assumption | apply e_int | apply e_str | apply e_bool | apply e_none | apply es_nil)) | ((with_reducible apply v_var); (focus ((repeat' (first | (with_reducible (first | assumption | exact h_eq | exact hr_eq | exact w_eq | exact h_cons | apply h_own; assumption)) | ((with_reducible (first | apply h_ne | apply hr_ne | apply w_ne | apply h_consn | apply w_st | apply w_fr)); (focus (exact rfl))) | (with_reducible (first | apply hr_vis | apply h_st | apply h_fr)))); done))) | ((with_reducible apply v_var); exact rfl) | ((with_reducible refine (e_glob _ _ _).trans ?_); (with_reducible assumption)) | (with_reducible (first | exact v_neg1 | apply v_cons | apply v_bin | exact b_add | exact b_sb | apply b_mod | apply b_div)) | ((with_reducible apply b_mulL); (focus decide)) | (with_reducible (first | apply b_mul | apply v_cmp | apply v_sub | apply v_sl | apply v_not | apply v_isi | apply v_blt | apply v_tup | apply v_lst | apply v_lcp | apply v_callE | apply v_call | apply v_bop1)) | ((with_reducible (first | apply v_and | apply v_or)); rotate_left; intro _; rotate_right) | (with_reducible apply v_map) | ((with_reducible (first | show cmpD _ _ _ = _ | show truth _ = _ | show isiD _ _ = _ | show frF _ _ = _ | show isCallE _ = _ | show bltD _ _ = _ | show lstD _ = _ | show subD _ _ = _)); exact rfl) | decide | exact Nat.le_of_ble_eq_true rfl)); done)); (focus (exact rfl))) | apply o_nil))
theorem ans_order (n : Nat) {K F : D} {fr : Bool} (h : (callN PP X7 (n + 1)).call "ordered" [.list rows, K] = some (F, fr)) :
    (callN PP X7 (n + 3)).call "answer" [.tup [.str (Str.ofString "order"), K, q0], tabs rows] = some (F, fr) := by
  have hg := steps_at (n + 2)
  have h1 := ans_table (rows := rows) (n + 1)
  have h2 := stepped_o n h
  refine run_call (by rfl : PP.lookup "answer" = some fn_answer) rfl ?_
  generalize callN PP X7 (n + 2) = cf at *
  generalize tabs rows = T at *
  (repeat' (first | ((first | apply r_step | apply q_step | apply o_step); (focus ((first | ((with_reducible apply p_cell); (focus ((repeat' (first | (with_reducible (first | assumption | apply e_int | apply e_str | apply e_bool | apply e_none | apply es_nil)) | ((with_reducible apply v_var); (focus ((repeat' (first | (with_reducible (first | assumption | exact h_eq | exact hr_eq | exact w_eq | exact h_cons | apply h_own; assumption)) | ((with_reducible (first | apply h_ne | apply hr_ne | apply w_ne | apply h_consn | apply w_st | apply w_fr)); (focus (exact rfl))) | (with_reducible (first | apply hr_vis | apply h_st | apply h_fr)))); done))) | ((with_reducible apply v_var); exact rfl) | ((with_reducible refine (e_glob _ _ _).trans ?_); (with_reducible assumption)) | (with_reducible (first | exact v_neg1 | apply v_cons | apply v_bin | exact b_add | exact b_sb | apply b_mod | apply b_div)) | ((with_reducible apply b_mulL); (focus decide)) | (with_reducible (first | apply b_mul | apply v_cmp | apply v_sub | apply v_sl | apply v_not | apply v_isi | apply v_blt | apply v_tup | apply v_lst | apply v_lcp | apply v_callE | apply v_call | apply v_bop1)) | ((with_reducible (first | apply v_and | apply v_or)); rotate_left; intro _; rotate_right) | (with_reducible apply v_map) | ((with_reducible (first | show cmpD _ _ _ = _ | show truth _ = _ | show isiD _ _ = _ | show frF _ _ = _ | show isCallE _ = _ | show bltD _ _ = _ | show lstD _ = _ | show subD _ _ = _)); exact rfl) | decide | exact Nat.le_of_ble_eq_true rfl)); done)); (with_reducible assumption)) | ((with_reducible apply p_assign); (repeat' (first | (with_reducible (first | assumption | apply e_int | apply e_str | apply e_bool | apply e_none | apply es_nil)) | ((with_reducible apply v_var); (focus ((repeat' (first | (with_reducible (first | assumption | exact h_eq | exact hr_eq | exact w_eq | exact h_cons | apply h_own; assumption)) | ((with_reducible (first | apply h_ne | apply hr_ne | apply w_ne | apply h_consn | apply w_st | apply w_fr)); (focus (exact rfl))) | (with_reducible (first | apply hr_vis | apply h_st | apply h_fr)))); done))) | ((with_reducible apply v_var); exact rfl) | ((with_reducible refine (e_glob _ _ _).trans ?_); (with_reducible assumption)) | (with_reducible (first | exact v_neg1 | apply v_cons | apply v_bin | exact b_add | exact b_sb | apply b_mod | apply b_div)) | ((with_reducible apply b_mulL); (focus decide)) | (with_reducible (first | apply b_mul | apply v_cmp | apply v_sub | apply v_sl | apply v_not | apply v_isi | apply v_blt | apply v_tup | apply v_lst | apply v_lcp | apply v_callE | apply v_call | apply v_bop1)) | ((with_reducible (first | apply v_and | apply v_or)); rotate_left; intro _; rotate_right) | (with_reducible apply v_map) | ((with_reducible (first | show cmpD _ _ _ = _ | show truth _ = _ | show isiD _ _ = _ | show frF _ _ = _ | show isCallE _ = _ | show bltD _ _ = _ | show lstD _ = _ | show subD _ _ = _)); exact rfl) | decide | exact Nat.le_of_ble_eq_true rfl)); done))))) | ((first | apply r_if | apply q_if | apply o_if); (((focus ((repeat' (first | (with_reducible (first | assumption | apply e_int | apply e_str | apply e_bool | apply e_none | apply es_nil)) | ((with_reducible apply v_var); (focus ((repeat' (first | (with_reducible (first | assumption | exact h_eq | exact hr_eq | exact w_eq | exact h_cons | apply h_own; assumption)) | ((with_reducible (first | apply h_ne | apply hr_ne | apply w_ne | apply h_consn | apply w_st | apply w_fr)); (focus (exact rfl))) | (with_reducible (first | apply hr_vis | apply h_st | apply h_fr)))); done))) | ((with_reducible apply v_var); exact rfl) | ((with_reducible refine (e_glob _ _ _).trans ?_); (with_reducible assumption)) | (with_reducible (first | exact v_neg1 | apply v_cons | apply v_bin | exact b_add | exact b_sb | apply b_mod | apply b_div)) | ((with_reducible apply b_mulL); (focus decide)) | (with_reducible (first | apply b_mul | apply v_cmp | apply v_sub | apply v_sl | apply v_not | apply v_isi | apply v_blt | apply v_tup | apply v_lst | apply v_lcp | apply v_callE | apply v_call | apply v_bop1)) | ((with_reducible (first | apply v_and | apply v_or)); rotate_left; intro _; rotate_right) | (with_reducible apply v_map) | ((with_reducible (first | show cmpD _ _ _ = _ | show truth _ = _ | show isiD _ _ = _ | show frF _ _ = _ | show isCallE _ = _ | show bltD _ _ = _ | show lstD _ = _ | show subD _ _ = _)); exact rfl) | decide | exact Nat.le_of_ble_eq_true rfl)); done)); (focus (exact rfl)); (focus (intro hh; first | exact no_tf hh (by assumption) | exact absurd hh (by decide) | skip)); rotate_left; (focus (intro hh; first | exact no_tf (by assumption) hh | exact absurd hh (by decide) | skip))))) | ((first | apply r_retv | apply q_retv); (focus (exact rfl))) | ((first | apply r_ret | apply q_ret | apply o_ret); (focus ((repeat' (first | (with_reducible (first | assumption | apply e_int | apply e_str | apply e_bool | apply e_none | apply es_nil)) | ((with_reducible apply v_var); (focus ((repeat' (first | (with_reducible (first | assumption | exact h_eq | exact hr_eq | exact w_eq | exact h_cons | apply h_own; assumption)) | ((with_reducible (first | apply h_ne | apply hr_ne | apply w_ne | apply h_consn | apply w_st | apply w_fr)); (focus (exact rfl))) | (with_reducible (first | apply hr_vis | apply h_st | apply h_fr)))); done))) | ((with_reducible apply v_var); exact rfl) | ((with_reducible refine (e_glob _ _ _).trans ?_); (with_reducible assumption)) | (with_reducible (first | exact v_neg1 | apply v_cons | apply v_bin | exact b_add | exact b_sb | apply b_mod | apply b_div)) | ((with_reducible apply b_mulL); (focus decide)) | (with_reducible (first | apply b_mul | apply v_cmp | apply v_sub | apply v_sl | apply v_not | apply v_isi | apply v_blt | apply v_tup | apply v_lst | apply v_lcp | apply v_callE | apply v_call | apply v_bop1)) | ((with_reducible (first | apply v_and | apply v_or)); rotate_left; intro _; rotate_right) | (with_reducible apply v_map) | ((with_reducible (first | show cmpD _ _ _ = _ | show truth _ = _ | show isiD _ _ = _ | show frF _ _ = _ | show isCallE _ = _ | show bltD _ _ = _ | show lstD _ = _ | show subD _ _ = _)); exact rfl) | decide | exact Nat.le_of_ble_eq_true rfl)); done)); (focus (exact rfl))) | apply o_nil))
end
theorem v_dct1 {cf : CF} {ρ : List (String × D)} {a b : ME} {x y : D} (ha : evE cf ρ a = some x) (hb : evE cf ρ b = some y) (hx : x.isCell = true) : evE cf ρ (.dct [a] [b]) = some (.dict [x] [y]) := by
  rw [e_dct, v_cons ha (es_nil _ _), v_cons hb (es_nil _ _)]
  show (if ((x.isCell && true) && true && decide (1 ≤ 15)) = true then _ else _) = _
  rw [hx]; rfl
theorem v_rowsL {cf : CF} {ρ : List (String × D)} {z : String} {elt src : ME} {k : Nat} (hk : k ≤ 1000) (R : D → Prop) (hs : evE cf ρ src = some (.int k)) (h : ∀ i : Nat, i < k → ∃ d, R d ∧ evE cf ((z, .int i) :: ρ) elt = some d) :
    ∃ ds : List D, ds.length = k ∧ (∀ d ∈ ds, R d) ∧ evE cf ρ (.comp elt z (.blt "range" [src]) []) = some (.list ds) := by
  obtain ⟨ds, e, hl, hq⟩ := compM_ok (compF cf ρ elt z []) (fun _ d => R d) ((List.range k).map fun (i : Nat) => D.int (i : Int)) (by
    intro it hit
    obtain ⟨i, hi, rfl⟩ := List.mem_map.mp hit
    obtain ⟨d, q, e⟩ := h i (List.mem_range.mp hi)
    exact ⟨d, q, compF_nil e⟩)
  have hb : k ≤ big := Nat.le_trans hk (by decide)
  have hl' : ((List.range k).map fun (i : Nat) => D.int (i : Int)).length = k := by simp
  refine ⟨ds, hl.trans hl', fun d hd => let ⟨_, _, q⟩ := hq d hd; q, ?_⟩
  exact v_comp (v_blt (v_cons hs (es_nil _ _)) (blt_rng hb)) (items_rng k) (Nat.le_trans (Nat.le_of_eq hl') hb) e
theorem range_at {N : Nat} {a b : List D} {it : D} (h : ((List.range N).map fun (i : Nat) => D.int (i : Int)) = a ++ it :: b) : it = .int a.length ∧ a.length < N ∧ a = (List.range a.length).map fun (i : Nat) => D.int (i : Int) := by
  have hl := congrArg List.length h
  simp at hl
  have h1 := congrArg (fun l => l[a.length]?) h
  simp only [List.getElem?_append_right (Nat.le_refl _), Nat.sub_self, List.getElem?_cons_zero] at h1
  rw [List.getElem?_map, List.getElem?_range (by omega)] at h1
  injection h1 with h1
  refine ⟨h1.symm, by omega, ?_⟩
  have h2 := congrArg (List.take a.length) h
  rw [List.take_left, ← List.map_take, List.take_range, Nat.min_eq_left (by omega)] at h2
  exact h2.symm
theorem compM_mm {α : Type} (f : D → Option (Option D)) (h g : α → D) : ∀ (l : List α), (∀ a ∈ l, f (h a) = some (some (g a))) → compM f (l.map h) = some (l.map g)
  | [], _ => rfl
  | a :: r, e => by
    rw [List.map_cons, compM, e a (.head _)]
    show (match compM f (r.map h) with | none => none | some ds => _) = _
    rw [compM_mm f h g r fun i hi => e i (.tail _ hi)]; rfl
/-! two rows that stand one behind the other -/
theorem before_lt {a b : D} (ha : a.isCell = true) (hb : b.isCell = true) : beforeV a b = cellLt a b := by
  cases a <;> first | (cases ha; done) | (cases b <;> first | (cases hb; done) | rfl)
theorem cellLt_irr {a : D} (ha : a.isCell = true) : cellLt a a = false := by
  cases a <;> first | (cases ha; done) | skip
  · exact decide_eq_false (Int.lt_irrefl _)
  · exact decide_eq_false (List.lt_irrefl _)
theorem cellLt_asym {a b : D} (ha : a.isCell = true) (hb : b.isCell = true) (h : cellLt a b = true) : cellLt b a = false := by
  cases a <;> first | (cases ha; done) | (cases b <;> first | (cases hb; done) | (cases h; done) | rfl | skip)
  · have h := of_decide_eq_true h
    exact decide_eq_false (by omega)
  · have h := of_decide_eq_true h
    exact decide_eq_false fun q => absurd (List.lt_trans h q) (List.lt_irrefl _)
noncomputable def standBody : List MS := [.ite (.not (.call "_law_alike" [.sub (.var "_law_one") (.sub (.var "_law_key") (.int 0)), .sub (.var "_law_other") (.sub (.var "_law_key") (.int 0))])) [.assign "_law_first" (.call "_law_before" [.sub (.var "_law_one") (.sub (.var "_law_key") (.int 0)), .sub (.var "_law_other") (.sub (.var "_law_key") (.int 0))]), .ret (.bin .Sub (.int 1) (.bin .Mult (.int 2) (.blt "int" [.cmp .Eq (.var "_law_first") (.sub (.var "_law_key") (.int 1))])))] []]
section
variable {X : CF} {m : Nat}
theorem stand_loop (n : Nat) {a b : D} (ha : RowK m a) (hb : RowK m b) : ∀ (keys : List (Nat × Bool)), (∀ k ∈ keys, k.1 ≤ m) → LexR m keys a b → ∀ σ : St, Has σ "_law_one" a → Has σ "_law_other" b →
    (∃ σ', forD (bodyF (callN PP X (n + 1)) standBody "_law_key") (keys.map keyT) σ = some (.next, σ') ∧ idxV m a < idxV m b) ∨ ∃ σ', forD (bodyF (callN PP X (n + 1)) standBody "_law_key") (keys.map keyT) σ = some (.ret false (.int 1), σ')
  | [], _, h, σ, _, _ => .inl ⟨σ, rfl, h⟩
  | (p, desc) :: keys, hk, h, σ, h1, h2 => by
    have hp : p ≤ m := hk _ (.head _)
    have ca := ha.col hp
    have cb := hb.col hp
    have sa := col_e ha hp
    have sb := col_e hb hp
    have al := lalike_eq (X := X) bc n _ _ ca cb
    have be := lbefore_eq (X := X) bc n _ _ ca cb
    have b1 : Has (setv σ "_law_key" (false, keyT (p, desc))) "_law_one" a := h_ne rfl h1
    have b2 : Has (setv σ "_law_key" (false, keyT (p, desc))) "_law_other" b := h_ne rfl h2
    have b3 : Has (setv σ "_law_key" (false, keyT (p, desc))) "_law_key" (keyT (p, desc)) := h_eq
    have k0 : subD (keyT (p, desc)) (.int 0) = some (.int p) := rfl
    have k1 : subD (keyT (p, desc)) (.int 1) = some (.bool desc) := rfl
    have hc : evE (callN PP X (n + 1)) (vis (setv σ "_law_key" (false, keyT (p, desc)))) (.not (.call "_law_alike" [.sub (.var "_law_one") (.sub (.var "_law_key") (.int 0)), .sub (.var "_law_other") (.sub (.var "_law_key") (.int 0))])) = some (.bool (!alikeV (colV p a) (colV p b))) := by
      generalize keyT (p, desc) = K at *
      generalize callN PP X (n + 1) = cf at *
      (repeat' (first | (with_reducible (first | assumption | apply e_int | apply e_str | apply e_bool | apply e_none | apply es_nil)) | ((with_reducible apply v_var); (focus ((repeat' (first | (with_reducible (first | assumption | exact h_eq | exact hr_eq | exact w_eq | exact h_cons | apply h_own; assumption)) | ((with_reducible (first | apply h_ne | apply hr_ne | apply w_ne | apply h_consn | apply w_st | apply w_fr)); (focus (exact rfl))) | (with_reducible (first | apply hr_vis | apply h_st | apply h_fr)))); done))) | ((with_reducible apply v_var); exact rfl) | ((with_reducible refine (e_glob _ _ _).trans ?_); (with_reducible assumption)) | (with_reducible (first | exact v_neg1 | apply v_cons | apply v_bin | exact b_add | exact b_sb | apply b_mod | apply b_div)) | ((with_reducible apply b_mulL); (focus decide)) | (with_reducible (first | apply b_mul | apply v_cmp | apply v_sub | apply v_sl | apply v_not | apply v_isi | apply v_blt | apply v_tup | apply v_lst | apply v_lcp | apply v_callE | apply v_call | apply v_bop1)) | ((with_reducible (first | apply v_and | apply v_or)); rotate_left; intro _; rotate_right) | (with_reducible apply v_map) | ((with_reducible (first | show cmpD _ _ _ = _ | show truth _ = _ | show isiD _ _ = _ | show frF _ _ = _ | show isCallE _ = _ | show bltD _ _ = _ | show lstD _ = _ | show subD _ _ = _)); exact rfl) | decide | exact Nat.le_of_ble_eq_true rfl))
    rw [List.map_cons, forB_cons]
    by_cases he : colV p a = colV p b
    · have hr : LexR m keys a b := by
        rcases h with h | h
        · rw [he] at h
          unfold ltV at h
          rw [cellLt_irr cb] at h
          split at h <;> cases h
        · exact h.2
      have e1 : exSs (callN PP X (n + 1)) standBody (setv σ "_law_key" (false, keyT (p, desc))) = some (.next, setv σ "_law_key" (false, keyT (p, desc))) := by
        obtain ⟨fl, σ', ⟨rfl, rfl⟩, q⟩ : Out (callN PP X (n + 1)) standBody (setv σ "_law_key" (false, keyT (p, desc))) fun fl σ' => fl = .next ∧ σ' = setv σ "_law_key" (false, keyT (p, desc)) := by
          refine o_if (k := false) (x := .bool false) (hc.trans ?_) rfl nofun fun _ => o_nil ⟨rfl, rfl⟩
          rw [he]; unfold alikeV; rw [cellEq_self cb]; rfl
        exact q
      rw [e1, loopS_next]
      exact stand_loop n ha hb keys (fun k h => hk k (.tail _ h)) hr _ b1 b2
    · have hlt : ltV desc (colV p a) (colV p b) = true := by
        rcases h with h | h
        · exact h
        · exact absurd h.1 he
      have hf : eqD (.bool (beforeV (colV p a) (colV p b))) (.bool desc) = some false := by
        show some (beforeV (colV p a) (colV p b) == desc) = _
        rw [before_lt ca cb]
        unfold ltV at hlt
        cases desc with
        | true => rw [cellLt_asym cb ca hlt]; rfl
        | false => rw [if_neg Bool.false_ne_true] at hlt; rw [hlt]; rfl
      right
      obtain ⟨fl, σ', rfl, q⟩ : Out (callN PP X (n + 1)) standBody (setv σ "_law_key" (false, keyT (p, desc))) fun fl _ => fl = .ret false (.int 1) := by
        have hal : alikeV (colV p a) (colV p b) = false := by
          cases e : alikeV (colV p a) (colV p b) with
          | false => rfl
          | true => exact absurd (cellEq_iff ca e) he
        refine o_if (k := true) (x := .bool true) (hc.trans (by rw [hal]; rfl)) rfl (fun _ => ?_) nofun
        have he' : cmpD .Eq (.bool (beforeV (colV p a) (colV p b))) (.bool desc) = some (.bool false) := congrArg (Option.map D.bool) hf
        have hcell : evF (callN PP X (n + 1)) (vis (setv σ "_law_key" (false, keyT (p, desc)))) (.call "_law_before" [.sub (.var "_law_one") (.sub (.var "_law_key") (.int 0)), .sub (.var "_law_other") (.sub (.var "_law_key") (.int 0))]) = some (.bool (beforeV (colV p a) (colV p b)), false) := by
          generalize keyT (p, desc) = K at *
          generalize callN PP X (n + 1) = cf at *
          (repeat' (first | (with_reducible (first | assumption | apply e_int | apply e_str | apply e_bool | apply e_none | apply es_nil)) | ((with_reducible apply v_var); (focus ((repeat' (first | (with_reducible (first | assumption | exact h_eq | exact hr_eq | exact w_eq | exact h_cons | apply h_own; assumption)) | ((with_reducible (first | apply h_ne | apply hr_ne | apply w_ne | apply h_consn | apply w_st | apply w_fr)); (focus (exact rfl))) | (with_reducible (first | apply hr_vis | apply h_st | apply h_fr)))); done))) | ((with_reducible apply v_var); exact rfl) | ((with_reducible refine (e_glob _ _ _).trans ?_); (with_reducible assumption)) | (with_reducible (first | exact v_neg1 | apply v_cons | apply v_bin | exact b_add | exact b_sb | apply b_mod | apply b_div)) | ((with_reducible apply b_mulL); (focus decide)) | (with_reducible (first | apply b_mul | apply v_cmp | apply v_sub | apply v_sl | apply v_not | apply v_isi | apply v_blt | apply v_tup | apply v_lst | apply v_lcp | apply v_callE | apply v_call | apply v_bop1)) | ((with_reducible (first | apply v_and | apply v_or)); rotate_left; intro _; rotate_right) | (with_reducible apply v_map) | ((with_reducible (first | show cmpD _ _ _ = _ | show truth _ = _ | show isiD _ _ = _ | show frF _ _ = _ | show isCallE _ = _ | show bltD _ _ = _ | show lstD _ = _ | show subD _ _ = _)); exact rfl) | decide | exact Nat.le_of_ble_eq_true rfl))
        refine o_step (p_assign hcell) ?_
        refine o_ret (d := .int (1 - 2 * 0)) (fr := false) (v_map (v_bin (e_int _ _ _) (v_bin (e_int _ _ _) (v_blt (v_cons (v_cmp (v_var (hr_vis h_eq)) (v_sub (v_var (hr_vis (h_ne rfl (h_st b3)))) (e_int _ _ _) k1) he') (es_nil _ _)) rfl) rfl) rfl) rfl rfl) rfl rfl
      exact ⟨σ', by rw [q]; rfl⟩
theorem stand_eq (n : Nat) {a b : D} (ha : RowK m a) (hb : RowK m b) {keys : List (Nat × Bool)} (hk : ∀ k ∈ keys, k.1 ≤ m) (h : LexR m keys a b) :
    ∃ i : Int, 0 ≤ i ∧ (i = 0 → idxV m a < idxV m b) ∧ (callN PP X (n + 2)).call "_law_stand" [a, b, .list (keys.map keyT)] = some (.int i, false) := by
  rcases stand_loop (X := X) n ha hb keys hk h (freeze ["_law_keys"] [("_law_one", (false, a)), ("_law_other", (false, b)), ("_law_keys", (false, .list (keys.map keyT)))]) (by (repeat' (first | (with_reducible (first | assumption | exact h_eq | exact hr_eq | exact w_eq | exact h_cons | apply h_own; assumption)) | ((with_reducible (first | apply h_ne | apply hr_ne | apply w_ne | apply h_consn | apply w_st | apply w_fr)); (focus (exact rfl))) | (with_reducible (first | apply hr_vis | apply h_st | apply h_fr))))) (by (repeat' (first | (with_reducible (first | assumption | exact h_eq | exact hr_eq | exact w_eq | exact h_cons | apply h_own; assumption)) | ((with_reducible (first | apply h_ne | apply hr_ne | apply w_ne | apply h_consn | apply w_st | apply w_fr)); (focus (exact rfl))) | (with_reducible (first | apply hr_vis | apply h_st | apply h_fr))))) with ⟨σ', q, hi⟩ | ⟨σ', q⟩
  · refine ⟨0, Int.le_refl _, fun _ => hi, run_call (by rfl : PP.lookup "_law_stand" = some fn_law_stand) rfl ?_⟩
    exact r_for (x := .list (keys.map keyT)) rfl rfl q (r_ret (v_map (e_int _ _ _) rfl rfl) rfl)
  · refine ⟨1, by decide, nofun, run_call (by rfl : PP.lookup "_law_stand" = some fn_law_stand) rfl ?_⟩
    exact r_forR (x := .list (keys.map keyT)) rfl rfl q
end

set_option maxRecDepth 100000
set_option maxHeartbeats 400000
theorem dput_new {k v : D} : ∀ {ks vs : List D}, ks.length = vs.length → (∀ x ∈ ks, keyEq x k = false) → dput ks vs k v = (ks ++ [k], vs ++ [v])
  | [], [], _, _ => rfl
  | [], _ :: _, h, _ => by cases h
  | _ :: _, [], h, _ => by cases h
  | x :: ks, y :: vs, h, hn => by
    rw [dput, hn x (.head _), if_neg Bool.false_ne_true, dput_new (Nat.succ.inj h) fun z hz => hn z (.tail _ hz)]
    rfl
noncomputable def seenBody : List MS := [.ite (.bop .Or [.not (.isi (.var "_law_row") "tuple"), .cmp .NotEq (.blt "len" [.var "_law_row"]) (.bin .Add (.var "_law_wide") (.int 1))]) [.ret (.bool false)] [], .assign "_law_at" (.sub (.var "_law_row") (.var "_law_wide")), .ite (.bop .Or [.not (.isi (.var "_law_at") "int"), .isi (.var "_law_at") "bool", .cmp .Lt (.var "_law_at") (.int 0), .cmp .GtE (.var "_law_at") (.blt "len" [.var "_law_rows"]), .cmp .In (.var "_law_at") (.var "_law_seen")]) [.ret (.bool false)] [], .ite (.not (.call "_law_row_is" [.var "_law_row", .sub (.var "_law_rows") (.var "_law_at")])) [.ret (.bool false)] [], .setk "_law_seen" (.var "_law_at") (.bool true)]
noncomputable def pairBody : List MS := [.assign "_law_stand_here" (.call "_law_stand" [.sub (.var "_law_found") (.var "_law_k"), .sub (.var "_law_found") (.bin .Add (.var "_law_k") (.int 1)), .var "_law_keys"]), .ite (.bop .Or [.cmp .Lt (.var "_law_stand_here") (.int 0), .bop .And [.cmp .Eq (.var "_law_stand_here") (.int 0), .cmp .Gt (.sub (.sub (.var "_law_found") (.var "_law_k")) (.var "_law_wide")) (.sub (.sub (.var "_law_found") (.bin .Add (.var "_law_k") (.int 1))) (.var "_law_wide"))]]) [.ret (.bool false)] []]
/-- the rows, each with its number -/
structure RowsK (m : Nat) (rows : List D) : Prop where
  row : ∀ r ∈ rows, RowK m r
  num : ∀ (j : Nat) (r : D), rows[j]? = some r → colV m r = .int j
theorem RowsK.nodup {m : Nat} {rows : List D} (h : RowsK m rows) : rows.Nodup := by
  rw [List.nodup_iff_pairwise_ne, List.pairwise_iff_getElem]
  intro i j hi hj hij e
  have h1 := h.num i _ (List.getElem?_eq_getElem hi)
  have h2 := h.num j _ (List.getElem?_eq_getElem hj)
  rw [e, h2] at h1
  have h1 : (j : Int) = i := D.int.inj h1
  omega
theorem RowsK.lex {m : Nat} {rows : List D} (h : RowsK m rows) : rows.Pairwise (LexR m []) := by
  rw [List.pairwise_iff_getElem]
  intro i j hi hj hij
  show idxV m _ < idxV m _
  unfold idxV
  rw [h.num i _ (List.getElem?_eq_getElem hi), h.num j _ (List.getElem?_eq_getElem hj)]
  exact Int.ofNat_lt.mpr hij
section
variable {cf : CF} {m : Nat} {rows found : List D} {K : D}
structure Inv (m : Nat) (rows found : List D) (K : D) (σ : St) : Prop where
  rows : Has σ "_law_rows" (.list rows)
  wide : Has σ "_law_wide" (.int m)
  found : Has σ "_law_found" (.list found)
  keys : Has σ "_law_keys" K
theorem seen_turn (hR : RowsK m rows) (hl : rows.length ≤ 1000) (hm : m ≤ 1000) (hf : found.Perm rows) (hrow : ∀ r ∈ rows, cf.call "_law_row_is" [r, r] = some (.bool true, false)) {a b : List D} {it : D} (hab : found = a ++ it :: b) {σ : St} (I : Inv m rows found K σ) {vs : List D}
    (hs : OwnV σ "_law_seen" (.dict (a.map (colV m)) vs)) (hvs : vs.length = a.length) :
    Out cf seenBody (setv σ "_law_row" (false, it)) fun fl σ' => fl = .next ∧ Inv m rows found K σ' ∧ ∃ vs, OwnV σ' "_law_seen" (.dict ((a ++ [it]).map (colV m)) vs) ∧ vs.length = (a ++ [it]).length := by
  obtain ⟨i1, i2, i3, i4⟩ := I
  have hmem : ∀ x, x ∈ a ∨ x = it → x ∈ rows := fun x hx => hf.mem_iff.mp (by rw [hab]; rcases hx with hx | rfl <;> simp [*])
  have hit := hmem it (.inr rfl)
  obtain ⟨j, hj⟩ := List.getElem?_of_mem hit
  have hjl : j < rows.length := (List.getElem?_eq_some_iff.mp hj).1
  have hcol := hR.num j it hj
  obtain ⟨cs, ci, hcs, hlen, hcc, _⟩ := hR.row it hit
  have hsubm : subD it (.int m) = some (.int j) := by rw [col_e (hR.row it hit) (Nat.le_refl _), hcol]
  have hsubj : subD (.list rows) (.int j) = some it := sub_l hjl hj
  have hrit := hrow it hit
  have hnew : ∀ x ∈ a.map (colV m), keyEq x (.int j) = false := fun x hx => by
    obtain ⟨y, hy, rfl⟩ := List.mem_map.mp hx
    have hya : y ≠ it := fun e => by
      have hn := hf.nodup_iff.mpr hR.nodup
      rw [hab, List.nodup_append] at hn
      exact hn.2.2 y hy it (.head _) e
    obtain ⟨i, hi⟩ := List.getElem?_of_mem (hmem y (.inl hy))
    rw [hR.num i y hi]
    show ((i : Int) == (j : Int)) = false
    rw [beq_eq_false_iff_ne]
    intro e
    have : i = j := by omega
    rw [this, hj] at hi; cases hi; exact hya rfl
  have hkey : keyOk (.int j) (a.map (colV m)) = true := by
    have h1 : (a.map (colV m)).all D.isCell = true := List.all_eq_true.mpr fun x hx => by
      obtain ⟨y, hy, rfl⟩ := List.mem_map.mp hx
      exact (hR.row y (hmem y (.inl hy))).col (Nat.le_refl _)
    unfold keyOk; rw [h1]; rfl
  have hal : a.length < big := by
    have h1 := congrArg List.length hab
    rw [List.length_append, hf.length_eq] at h1
    have : 1000 < big := by decide
    have h2 : (it :: b).length = b.length + 1 := rfl
    omega
  have hin : cmpD .In (.int j) (.dict (a.map (colV m)) vs) = some (.bool false) := by
    show (memD (.int j) (.dict (a.map (colV m)) vs)).map D.bool = _
    show ((if keyOk (.int j) (a.map (colV m)) = true then some ((a.map (colV m)).any fun x => keyEq x (.int j)) else none)).map D.bool = _
    rw [if_pos hkey, List.any_eq_false.mpr fun x hx => by rw [hnew x hx]; exact Bool.false_ne_true]
    rfl
  have hge : cmpD .GtE (.int j) (.int rows.length) = some (.bool false) := by
    show some (D.bool (decide ((j : Int) ≥ (rows.length : Int)))) = _
    rw [decide_eq_false (by omega)]
  have hlt0 : cmpD .Lt (.int j) (.int 0) = some (.bool false) := by
    show some (D.bool (decide ((j : Int) < 0))) = _
    rw [decide_eq_false (by omega)]
  have hne : cmpD .NotEq (.int (m + 1 : Nat)) (.int ((m : Int) + 1)) = some (.bool false) := neq_self _
  have hlenit : bltD "len" [it] = some (.int (m + 1 : Nat)) := by rw [hcs, ← hlen]; rfl
  have hisi : isiD it "tuple" = some true := by rw [hcs]; rfl
  have c1 : Has (setv σ "_law_row" (false, it)) "_law_row" it := h_eq
  have c2 : Has (setv σ "_law_row" (false, it)) "_law_wide" (.int m) := h_ne rfl i2
  have c3 : Has (setv σ "_law_row" (false, it)) "_law_rows" (.list rows) := h_ne rfl i1
  have c4 : OwnV (setv σ "_law_row" (false, it)) "_law_seen" (.dict (a.map (colV m)) vs) := w_ne rfl hs
  have c5 : Has (setv σ "_law_row" (false, it)) "_law_found" (.list found) := h_ne rfl i3
  have c6 : Has (setv σ "_law_row" (false, it)) "_law_keys" K := h_ne rfl i4
  generalize setv σ "_law_row" (false, it) = τ at *
  refine o_if (k := false) (x := .bool (false || false)) (v_or (k := false) (l := false) (v_not (k := true) (v_isi (v_var (hr_vis c1)) hisi) rfl) fun _ => v_bop1 (v_cmp (v_blt (v_cons (v_var (hr_vis c1)) (es_nil _ _)) hlenit) (v_bin (v_var (hr_vis c2)) (e_int _ _ _) rfl) hne)) rfl nofun fun _ => ?_
  refine o_step (p_cell (d := .int j) (fr := false) (v_map (v_sub (v_var (hr_vis c1)) (v_var (hr_vis c2)) hsubm) rfl rfl) rfl) ?_
  have d1 : Has (setv τ "_law_at" (false, .int j)) "_law_row" it := h_ne rfl c1
  have d2 : Has (setv τ "_law_at" (false, .int j)) "_law_at" (.int j) := h_eq
  have d3 : Has (setv τ "_law_at" (false, .int j)) "_law_rows" (.list rows) := h_ne rfl c3
  have d4 : OwnV (setv τ "_law_at" (false, .int j)) "_law_seen" (.dict (a.map (colV m)) vs) := w_ne rfl c4
  have d5 : Has (setv τ "_law_at" (false, .int j)) "_law_found" (.list found) := h_ne rfl c5
  have d6 : Has (setv τ "_law_at" (false, .int j)) "_law_keys" K := h_ne rfl c6
  have d7 : Has (setv τ "_law_at" (false, .int j)) "_law_wide" (.int m) := h_ne rfl c2
  generalize setv τ "_law_at" (false, .int j) = υ at *
  refine o_if (k := false) (x := .bool (false || (false || (false || (false || false))))) (v_or (k := false) (v_not (k := true) (v_isi (x := .int j) (v_var (hr_vis d2)) rfl) rfl) fun _ => v_or (k := false) (v_isi (x := .int j) (v_var (hr_vis d2)) rfl) fun _ => v_or (k := false) (v_cmp (v_var (hr_vis d2)) (e_int _ _ _) hlt0) fun _ => v_or (k := false) (l := false) (v_cmp (v_var (hr_vis d2)) (v_blt (v_cons (v_var (hr_vis d3)) (es_nil _ _)) rfl) hge) fun _ => v_bop1 (v_cmp (v_var (hr_vis d2)) (v_var (hr_vis (h_own d4))) hin)) rfl nofun fun _ => ?_
  refine o_if (k := false) (x := .bool (!true)) (v_not (k := true) (v_callE (v_cons (v_var (hr_vis d1)) (v_cons (v_sub (v_var (hr_vis d3)) (v_var (hr_vis d2)) hsubj) (es_nil _ _))) hrit) rfl) rfl nofun fun _ => ?_
  refine o_step (p_setk (d := .bool true) (dk := .int j) (e_bool _ _ _) (v_var (hr_vis d2)) d4 (by rw [hkey, List.length_map, decide_eq_true hal]; rfl)) (o_nil ⟨rfl, ⟨h_ne rfl d3, h_ne rfl d7, h_ne rfl d5, h_ne rfl d6⟩, vs ++ [.bool true], ?_, by rw [List.length_append, List.length_append, hvs]; rfl⟩)
  rw [dput_new (by rw [List.length_map, hvs]) hnew]
  show OwnV _ _ (.dict ((a ++ [it]).map (colV m)) _)
  rw [List.map_append, List.map_cons, List.map_nil, hcol]
  exact w_eq
theorem pair_turn (hl : found.length ≤ 1000) {k : Nat} (hk : k + 1 < found.length) {ia ib i : Int} (h0 : 0 ≤ i) (hi : i = 0 → ia < ib) (ha : subD (found.getD k .none) (.int m) = some (.int ia)) (hb : subD (found.getD (k + 1) .none) (.int m) = some (.int ib))
    (hst : cf.call "_law_stand" [found.getD k .none, found.getD (k + 1) .none, K] = some (.int i, false)) {σ : St} (I : Inv m rows found K σ) :
    Out cf pairBody (setv σ "_law_k" (false, .int k)) fun fl σ' => fl = .next ∧ Inv m rows found K σ' := by
  obtain ⟨i1, i2, i3, i4⟩ := I
  have sk : subD (.list found) (.int k) = some (found.getD k .none) := sub_l (by omega) (by rw [List.getD_eq_getElem?_getD, List.getElem?_eq_getElem (by omega)]; rfl)
  have sk1 : subD (.list found) (.int ((k : Int) + 1)) = some (found.getD (k + 1) .none) := sub_l (k := k + 1) hk (by rw [List.getD_eq_getElem?_getD, List.getElem?_eq_getElem hk]; rfl)
  have c1 : Has (setv σ "_law_k" (false, .int k)) "_law_k" (.int k) := h_eq
  have c2 : Has (setv σ "_law_k" (false, .int k)) "_law_wide" (.int m) := h_ne rfl i2
  have c3 : Has (setv σ "_law_k" (false, .int k)) "_law_rows" (.list rows) := h_ne rfl i1
  have c4 : Has (setv σ "_law_k" (false, .int k)) "_law_found" (.list found) := h_ne rfl i3
  have c5 : Has (setv σ "_law_k" (false, .int k)) "_law_keys" K := h_ne rfl i4
  generalize setv σ "_law_k" (false, .int k) = τ at *
  refine o_step (p_cell (d := .int i) (fr := false) (v_call (v_cons (v_sub (v_var (hr_vis c4)) (v_var (hr_vis c1)) sk) (v_cons (v_sub (v_var (hr_vis c4)) (v_bin (v_var (hr_vis c1)) (e_int _ _ _) rfl) sk1) (v_cons (v_var (hr_vis c5)) (es_nil _ _)))) hst) rfl) ?_
  have d1 : Has (setv τ "_law_stand_here" (false, .int i)) "_law_k" (.int k) := h_ne rfl c1
  have d2 : Has (setv τ "_law_stand_here" (false, .int i)) "_law_wide" (.int m) := h_ne rfl c2
  have d3 : Has (setv τ "_law_stand_here" (false, .int i)) "_law_rows" (.list rows) := h_ne rfl c3
  have d4 : Has (setv τ "_law_stand_here" (false, .int i)) "_law_found" (.list found) := h_ne rfl c4
  have d5 : Has (setv τ "_law_stand_here" (false, .int i)) "_law_keys" K := h_ne rfl c5
  have d6 : Has (setv τ "_law_stand_here" (false, .int i)) "_law_stand_here" (.int i) := h_eq
  generalize setv τ "_law_stand_here" (false, .int i) = υ at *
  have hlt : cmpD .Lt (.int i) (.int 0) = some (.bool false) := by
    show some (D.bool (decide (i < 0))) = _
    rw [decide_eq_false (by omega)]
  have hand : ((i == 0) && decide (ia > ib)) = false := by
    cases e : (i == 0) with
    | false => rfl
    | true =>
      have := hi (by simpa using e)
      rw [decide_eq_false (by omega)]; rfl
  refine o_if (k := false) (x := .bool (false || ((i == 0) && decide (ia > ib)))) (v_or (k := false) (v_cmp (v_var (hr_vis d6)) (e_int _ _ _) hlt) fun _ => v_bop1 (v_and (k := i == 0) (l := decide (ia > ib)) (v_cmp (v_var (hr_vis d6)) (e_int _ _ _) rfl) fun _ => v_bop1 (v_cmp (v_sub (v_sub (v_var (hr_vis d4)) (v_var (hr_vis d1)) sk) (v_var (hr_vis d2)) ha) (v_sub (v_sub (v_var (hr_vis d4)) (v_bin (v_var (hr_vis d1)) (e_int _ _ _) rfl) sk1) (v_var (hr_vis d2)) hb) rfl))) (by rw [hand]; rfl) nofun fun _ => o_nil ⟨rfl, d3, d2, d4, d5⟩
end

set_option maxRecDepth 100000
set_option maxHeartbeats 400000
section
variable {m : Nat} {rows : List D} {keys : List (Nat × Bool)}
theorem loops {cf : CF} {found : List D} {K : D} (hR : RowsK m rows) (hl : rows.length ≤ 1000) (hm : m ≤ 1000) (hf : found.Perm rows) (hrow : ∀ r ∈ rows, cf.call "_law_row_is" [r, r] = some (.bool true, false))
    (hst : ∀ k, k + 1 < found.length → ∃ ia ib i : Int, 0 ≤ i ∧ (i = 0 → ia < ib) ∧ subD (found.getD k .none) (.int m) = some (.int ia) ∧ subD (found.getD (k + 1) .none) (.int m) = some (.int ib) ∧ cf.call "_law_stand" [found.getD k .none, found.getD (k + 1) .none, K] = some (.int i, false))
    {σ : St} (I : Inv m rows found K σ) (hs : OwnV σ "_law_seen" (.dict [] [])) : Run cf [.for_ "_law_row" (.var "_law_found") seenBody, .for_ "_law_k" (.blt "range" [.bin .Sub (.blt "len" [.var "_law_found"]) (.int 1)]) pairBody, .ret (.bool true)] σ (.bool true) false := by
  have hfl : found.length ≤ 1000 := by rw [hf.length_eq]; exact hl
  obtain ⟨σ1, ⟨I1, _⟩, h1⟩ := loop_inv (cf := cf) (body := seenBody) (z := "_law_row") (fun a σ => Inv m rows found K σ ∧ ∃ vs, OwnV σ "_law_seen" (.dict (a.map (colV m)) vs) ∧ vs.length = a.length) found [] (freeze ["_law_found"] σ)
    ⟨⟨h_fr I.rows, h_fr I.wide, h_fr I.found, h_fr I.keys⟩, [], w_fr rfl hs, rfl⟩ (by
      rintro a it b σ hab ⟨I, vs, q1, q2⟩
      rw [List.nil_append] at hab
      exact seen_turn hR hl hm hf hrow hab I q1 q2)
  refine r_for (x := .list found) (v_var (hr_vis I.found)) rfl h1 ?_
  have hN : (((found.length : Int) - 1) - 0).toNat = found.length - 1 := by omega
  have hit : D.items (.rng 0 ((found.length : Int) - 1)) = some ((List.range (found.length - 1)).map fun (i : Nat) => D.int (i : Int)) := by
    show some ((List.range (((found.length : Int) - 1) - 0).toNat).map fun (i : Nat) => D.int (0 + (i : Int))) = _
    rw [hN]; simp
  obtain ⟨σ2, I2, h2⟩ := loop_inv (cf := cf) (body := pairBody) (z := "_law_k") (fun _ σ => Inv m rows found K σ) ((List.range (found.length - 1)).map fun (i : Nat) => D.int (i : Int)) [] (freeze ["_law_found"] σ1)
    ⟨h_fr I1.rows, h_fr I1.wide, h_fr I1.found, h_fr I1.keys⟩ (by
      rintro a it b σ hab I
      rw [List.nil_append] at hab
      obtain ⟨rfl, hk, -⟩ := range_at hab
      obtain ⟨ia, ib, i, g1, g2, g3, g4, g5⟩ := hst a.length (by omega)
      exact pair_turn hfl (by omega) g1 g2 g3 g4 g5 I)
  have hrng : bltD "range" [.int ((found.length : Int) - 1)] = some (.rng 0 ((found.length : Int) - 1)) := by
    show (if _ then _ else _) = _
    have : 1000 < big := by decide
    exact if_pos (by omega)
  refine r_for (x := .rng 0 ((found.length : Int) - 1)) (v_blt (v_cons (v_bin (v_blt (v_cons (v_var (hr_vis I1.found)) (es_nil _ _)) rfl) (e_int _ _ _) rfl) (es_nil _ _)) hrng) hit h2 ?_
  exact r_ret (v_map (e_bool _ _ _) rfl rfl) rfl
theorem law_tail (n : Nat) (hR : RowsK m rows) (hl : rows.length < 128) (hm : m ≤ 999) (hk : ∀ k ∈ keys, k.1 ≤ m) {σ : St} (a1 : Has σ "_law_rows" (.list rows)) (a2 : Has σ "_law_keys" (.list (keys.map keyT))) (a3 : Has σ "_law_wide" (.int m)) :
    Run (callN PP X7 (n + 4)) (fn_law.body.drop 7) σ (.bool true) false := by
  have hbig : 2000 < big := by decide
  obtain ⟨fr, ord⟩ := ordered_eq (X := X7) n hk hR.row hl hR.lex
  obtain ⟨p1, p2⟩ := ordV_ok hR.row hR.lex keys hk
  have ans := ans_order (rows := rows) (n + 1) (K := .tup (keys.map keyT)) ord
  have flat : ∀ r ∈ rows, ∃ cs, r = .tup cs ∧ Flat cs := fun r h => by
    obtain ⟨cs, _, rfl, h1, h2, _⟩ := hR.row r h
    exact ⟨cs, rfl, by omega, h2⟩
  have hare := rows_are (X := X7) (n + 1) (by omega) flat
  have hrow : ∀ r ∈ rows, (callN PP X7 (n + 4)).call "_law_row_is" [r, r] = some (.bool true, false) := fun r h => by
    obtain ⟨cs, rfl, hf⟩ := flat r h
    exact row_is (n + 2) hf (.inl rfl)
  have hst : ∀ k, k + 1 < (ordV keys rows).length → ∃ ia ib i : Int, 0 ≤ i ∧ (i = 0 → ia < ib) ∧ subD ((ordV keys rows).getD k .none) (.int m) = some (.int ia) ∧ subD ((ordV keys rows).getD (k + 1) .none) (.int m) = some (.int ib) ∧ (callN PP X7 (n + 4)).call "_law_stand" [(ordV keys rows).getD k .none, (ordV keys rows).getD (k + 1) .none, .list (keys.map keyT)] = some (.int i, false) := fun k hk1 => by
    have e1 : (ordV keys rows).getD k .none = (ordV keys rows)[k] := by rw [List.getD_eq_getElem?_getD, List.getElem?_eq_getElem (by omega)]; rfl
    have e2 : (ordV keys rows).getD (k + 1) .none = (ordV keys rows)[k + 1] := by rw [List.getD_eq_getElem?_getD, List.getElem?_eq_getElem hk1]; rfl
    rw [e1, e2]
    have ra := hR.row _ (p1.mem_iff.mp (List.getElem_mem (by omega : k < (ordV keys rows).length)))
    have rb := hR.row _ (p1.mem_iff.mp (List.getElem_mem hk1))
    obtain ⟨i, g1, g2, g3⟩ := stand_eq (X := X7) (n + 2) ra rb hk (List.pairwise_iff_getElem.mp p2 k (k + 1) (by omega) hk1 (Nat.lt_succ_self _))
    refine ⟨_, _, i, g1, g2, ?_, ?_, g3⟩
    · rw [col_e ra (Nat.le_refl _)]
      obtain ⟨cs, ci, e, _, _, hc⟩ := ra
      unfold idxV colV
      rw [e]
      simp only [List.getD_eq_getElem?_getD, hc, Option.getD_some]
    · rw [col_e rb (Nat.le_refl _)]
      obtain ⟨cs, ci, e, _, _, hc⟩ := rb
      unfold idxV colV
      rw [e]
      simp only [List.getD_eq_getElem?_getD, hc, Option.getD_some]
  have hlen := p1.length_eq
  generalize ordV keys rows = found at *
  generalize callN PP X7 (n + 4) = cf at *
  have tt : subD (tabs rows) (.str (Str.ofString "t")) = some (.list rows) := rfl
  refine r_step (p_assign (d := tabs rows) (fr := true) (v_map (v_dct1 (e_str _ _ _) (v_lcp (by (repeat' (first | (with_reducible (first | assumption | apply e_int | apply e_str | apply e_bool | apply e_none | apply es_nil)) | ((with_reducible apply v_var); (focus ((repeat' (first | (with_reducible (first | assumption | exact h_eq | exact hr_eq | exact w_eq | exact h_cons | apply h_own; assumption)) | ((with_reducible (first | apply h_ne | apply hr_ne | apply w_ne | apply h_consn | apply w_st | apply w_fr)); (focus (exact rfl))) | (with_reducible (first | apply hr_vis | apply h_st | apply h_fr)))); done))) | ((with_reducible apply v_var); exact rfl) | ((with_reducible refine (e_glob _ _ _).trans ?_); (with_reducible assumption)) | (with_reducible (first | exact v_neg1 | apply v_cons | apply v_bin | exact b_add | exact b_sb | apply b_mod | apply b_div)) | ((with_reducible apply b_mulL); (focus decide)) | (with_reducible (first | apply b_mul | apply v_cmp | apply v_sub | apply v_sl | apply v_not | apply v_isi | apply v_blt | apply v_tup | apply v_lst | apply v_lcp | apply v_callE | apply v_call | apply v_bop1)) | ((with_reducible (first | apply v_and | apply v_or)); rotate_left; intro _; rotate_right) | (with_reducible apply v_map) | ((with_reducible (first | show cmpD _ _ _ = _ | show truth _ = _ | show isiD _ _ = _ | show frF _ _ = _ | show isCallE _ = _ | show bltD _ _ = _ | show lstD _ = _ | show subD _ _ = _)); exact rfl) | decide | exact Nat.le_of_ble_eq_true rfl))) rfl) rfl) rfl rfl)) ?_
  generalize hT : tabs rows = T at *
  refine r_step (p_assign (d := .list found) (fr := fr) (v_call (v_cons (v_tup (v_cons (e_str _ _ _) (v_cons (v_blt (v_cons (d := .list (keys.map keyT)) (by (repeat' (first | (with_reducible (first | assumption | apply e_int | apply e_str | apply e_bool | apply e_none | apply es_nil)) | ((with_reducible apply v_var); (focus ((repeat' (first | (with_reducible (first | assumption | exact h_eq | exact hr_eq | exact w_eq | exact h_cons | apply h_own; assumption)) | ((with_reducible (first | apply h_ne | apply hr_ne | apply w_ne | apply h_consn | apply w_st | apply w_fr)); (focus (exact rfl))) | (with_reducible (first | apply hr_vis | apply h_st | apply h_fr)))); done))) | ((with_reducible apply v_var); exact rfl) | ((with_reducible refine (e_glob _ _ _).trans ?_); (with_reducible assumption)) | (with_reducible (first | exact v_neg1 | apply v_cons | apply v_bin | exact b_add | exact b_sb | apply b_mod | apply b_div)) | ((with_reducible apply b_mulL); (focus decide)) | (with_reducible (first | apply b_mul | apply v_cmp | apply v_sub | apply v_sl | apply v_not | apply v_isi | apply v_blt | apply v_tup | apply v_lst | apply v_lcp | apply v_callE | apply v_call | apply v_bop1)) | ((with_reducible (first | apply v_and | apply v_or)); rotate_left; intro _; rotate_right) | (with_reducible apply v_map) | ((with_reducible (first | show cmpD _ _ _ = _ | show truth _ = _ | show isiD _ _ = _ | show frF _ _ = _ | show isCallE _ = _ | show bltD _ _ = _ | show lstD _ = _ | show subD _ _ = _)); exact rfl) | decide | exact Nat.le_of_ble_eq_true rfl))) (es_nil _ _)) rfl) (v_cons (d := q0) rfl (es_nil _ _)))) (Nat.le_of_ble_eq_true rfl)) (v_cons (by (repeat' (first | (with_reducible (first | assumption | apply e_int | apply e_str | apply e_bool | apply e_none | apply es_nil)) | ((with_reducible apply v_var); (focus ((repeat' (first | (with_reducible (first | assumption | exact h_eq | exact hr_eq | exact w_eq | exact h_cons | apply h_own; assumption)) | ((with_reducible (first | apply h_ne | apply hr_ne | apply w_ne | apply h_consn | apply w_st | apply w_fr)); (focus (exact rfl))) | (with_reducible (first | apply hr_vis | apply h_st | apply h_fr)))); done))) | ((with_reducible apply v_var); exact rfl) | ((with_reducible refine (e_glob _ _ _).trans ?_); (with_reducible assumption)) | (with_reducible (first | exact v_neg1 | apply v_cons | apply v_bin | exact b_add | exact b_sb | apply b_mod | apply b_div)) | ((with_reducible apply b_mulL); (focus decide)) | (with_reducible (first | apply b_mul | apply v_cmp | apply v_sub | apply v_sl | apply v_not | apply v_isi | apply v_blt | apply v_tup | apply v_lst | apply v_lcp | apply v_callE | apply v_call | apply v_bop1)) | ((with_reducible (first | apply v_and | apply v_or)); rotate_left; intro _; rotate_right) | (with_reducible apply v_map) | ((with_reducible (first | show cmpD _ _ _ = _ | show truth _ = _ | show isiD _ _ = _ | show frF _ _ = _ | show isCallE _ = _ | show bltD _ _ = _ | show lstD _ = _ | show subD _ _ = _)); exact rfl) | decide | exact Nat.le_of_ble_eq_true rfl))) (es_nil _ _))) ans)) ?_
  refine r_if (k := false) (x := .bool (!true)) (v_not (by (repeat' (first | (with_reducible (first | assumption | apply e_int | apply e_str | apply e_bool | apply e_none | apply es_nil)) | ((with_reducible apply v_var); (focus ((repeat' (first | (with_reducible (first | assumption | exact h_eq | exact hr_eq | exact w_eq | exact h_cons | apply h_own; assumption)) | ((with_reducible (first | apply h_ne | apply hr_ne | apply w_ne | apply h_consn | apply w_st | apply w_fr)); (focus (exact rfl))) | (with_reducible (first | apply hr_vis | apply h_st | apply h_fr)))); done))) | ((with_reducible apply v_var); exact rfl) | ((with_reducible refine (e_glob _ _ _).trans ?_); (with_reducible assumption)) | (with_reducible (first | exact v_neg1 | apply v_cons | apply v_bin | exact b_add | exact b_sb | apply b_mod | apply b_div)) | ((with_reducible apply b_mulL); (focus decide)) | (with_reducible (first | apply b_mul | apply v_cmp | apply v_sub | apply v_sl | apply v_not | apply v_isi | apply v_blt | apply v_tup | apply v_lst | apply v_lcp | apply v_callE | apply v_call | apply v_bop1)) | ((with_reducible (first | apply v_and | apply v_or)); rotate_left; intro _; rotate_right) | (with_reducible apply v_map) | ((with_reducible (first | show cmpD _ _ _ = _ | show truth _ = _ | show isiD _ _ = _ | show frF _ _ = _ | show isCallE _ = _ | show bltD _ _ = _ | show lstD _ = _ | show subD _ _ = _)); exact rfl) | decide | exact Nat.le_of_ble_eq_true rfl))) rfl) rfl nofun fun _ => ?_
  have hne : cmpD .NotEq (.int found.length) (.int rows.length) = some (.bool false) := by rw [hlen]; exact neq_self _
  have hbl : bltD "len" [.list rows] = some (.int rows.length) := rfl
  have hbf : bltD "len" [.list found] = some (.int found.length) := rfl
  refine r_if (k := false) (x := .bool (false || false)) (v_or (l := false) (v_not (k := true) (v_isi (x := .list found) (by (repeat' (first | (with_reducible (first | assumption | apply e_int | apply e_str | apply e_bool | apply e_none | apply es_nil)) | ((with_reducible apply v_var); (focus ((repeat' (first | (with_reducible (first | assumption | exact h_eq | exact hr_eq | exact w_eq | exact h_cons | apply h_own; assumption)) | ((with_reducible (first | apply h_ne | apply hr_ne | apply w_ne | apply h_consn | apply w_st | apply w_fr)); (focus (exact rfl))) | (with_reducible (first | apply hr_vis | apply h_st | apply h_fr)))); done))) | ((with_reducible apply v_var); exact rfl) | ((with_reducible refine (e_glob _ _ _).trans ?_); (with_reducible assumption)) | (with_reducible (first | exact v_neg1 | apply v_cons | apply v_bin | exact b_add | exact b_sb | apply b_mod | apply b_div)) | ((with_reducible apply b_mulL); (focus decide)) | (with_reducible (first | apply b_mul | apply v_cmp | apply v_sub | apply v_sl | apply v_not | apply v_isi | apply v_blt | apply v_tup | apply v_lst | apply v_lcp | apply v_callE | apply v_call | apply v_bop1)) | ((with_reducible (first | apply v_and | apply v_or)); rotate_left; intro _; rotate_right) | (with_reducible apply v_map) | ((with_reducible (first | show cmpD _ _ _ = _ | show truth _ = _ | show isiD _ _ = _ | show frF _ _ = _ | show isCallE _ = _ | show bltD _ _ = _ | show lstD _ = _ | show subD _ _ = _)); exact rfl) | decide | exact Nat.le_of_ble_eq_true rfl))) rfl) rfl) fun _ => v_bop1 (by (repeat' (first | (with_reducible (first | assumption | apply e_int | apply e_str | apply e_bool | apply e_none | apply es_nil)) | ((with_reducible apply v_var); (focus ((repeat' (first | (with_reducible (first | assumption | exact h_eq | exact hr_eq | exact w_eq | exact h_cons | apply h_own; assumption)) | ((with_reducible (first | apply h_ne | apply hr_ne | apply w_ne | apply h_consn | apply w_st | apply w_fr)); (focus (exact rfl))) | (with_reducible (first | apply hr_vis | apply h_st | apply h_fr)))); done))) | ((with_reducible apply v_var); exact rfl) | ((with_reducible refine (e_glob _ _ _).trans ?_); (with_reducible assumption)) | (with_reducible (first | exact v_neg1 | apply v_cons | apply v_bin | exact b_add | exact b_sb | apply b_mod | apply b_div)) | ((with_reducible apply b_mulL); (focus decide)) | (with_reducible (first | apply b_mul | apply v_cmp | apply v_sub | apply v_sl | apply v_not | apply v_isi | apply v_blt | apply v_tup | apply v_lst | apply v_lcp | apply v_callE | apply v_call | apply v_bop1)) | ((with_reducible (first | apply v_and | apply v_or)); rotate_left; intro _; rotate_right) | (with_reducible apply v_map) | ((with_reducible (first | show cmpD _ _ _ = _ | show truth _ = _ | show isiD _ _ = _ | show frF _ _ = _ | show isCallE _ = _ | show bltD _ _ = _ | show lstD _ = _ | show subD _ _ = _)); exact rfl) | decide | exact Nat.le_of_ble_eq_true rfl)))) rfl nofun fun _ => ?_
  refine r_step (p_assign (d := .dict [] []) (fr := true) rfl) ?_
  refine loops (K := .list (keys.map keyT)) hR (by omega) (by omega) p1 hrow hst ⟨?_, ?_, ?_, ?_⟩ w_eq
  all_goals (repeat' (first | (with_reducible (first | assumption | exact h_eq | exact hr_eq | exact w_eq | exact h_cons | apply h_own; assumption)) | ((with_reducible (first | apply h_ne | apply hr_ne | apply w_ne | apply h_consn | apply w_st | apply w_fr)); (focus (exact rfl))) | (with_reducible (first | apply hr_vis | apply h_st | apply h_fr))))
end

set_option maxRecDepth 100000
set_option maxHeartbeats 400000
noncomputable def rowsV (T : List D) : List D := (List.range T.length).map fun k => match T.getD k .none with
  | .tup cs => .tup (cs ++ [.int k])
  | _ => .none
theorem rowsV_ok {m : Nat} {T : List D} (h : Rows m T) : RowsK m (rowsV T) := by
  have one : ∀ j, j < T.length → ∃ cs, T.getD j .none = .tup cs ∧ cs.length = m ∧ ∀ d ∈ cs, Good d := fun j hj => by
    rw [List.getD_eq_getElem?_getD, List.getElem?_eq_getElem hj]
    exact h _ (List.getElem_mem hj)
  refine ⟨fun r hr => ?_, fun j r hj => ?_⟩
  · obtain ⟨j, hj, rfl⟩ := List.mem_map.mp hr
    obtain ⟨cs, e, h1, h2⟩ := one j (List.mem_range.mp hj)
    rw [e]
    refine ⟨cs ++ [.int j], j, rfl, by simp [h1], fun d hd => ?_, by rw [← h1]; simp⟩
    rcases List.mem_append.mp hd with hd | hd
    · exact (h2 d hd).cell
    · rw [List.mem_singleton.mp hd]; rfl
  · unfold rowsV at hj
    rw [List.getElem?_map] at hj
    have hlt : j < T.length := by
      have := (List.getElem?_eq_some_iff.mp (Option.map_eq_some_iff.mp hj).choose_spec.1).1
      simpa using this
    rw [List.getElem?_range hlt] at hj
    obtain ⟨cs, e, h1, h2⟩ := one j hlt
    simp only [Option.map_some, e, Option.some.injEq] at hj
    subst hj
    show (cs ++ [D.int j]).getD m .none = _
    rw [List.getD_eq_getElem?_getD, ← h1]; simp
theorem keysOf {m : Nat} : ∀ {ds : List D}, (∀ d ∈ ds, ∃ k : Nat × Bool, k.1 ≤ m ∧ d = keyT k) → ∃ keys : List (Nat × Bool), ds = keys.map keyT ∧ ∀ k ∈ keys, k.1 ≤ m
  | [], _ => ⟨[], rfl, fun _ h => nomatch h⟩
  | d :: ds, h => by
    obtain ⟨k, h1, rfl⟩ := h d (.head _)
    obtain ⟨keys, rfl, h2⟩ := keysOf fun d hd => h d (.tail _ hd)
    exact ⟨k :: keys, rfl, fun x hx => (List.mem_cons.mp hx).elim (fun e => e ▸ h1) (h2 x)⟩
theorem pure_ok (n : Nat) (ns : List Int) : ∃ fr, (callN PP X7 (n + 6)).call "law" [.list (ns.map .int)] = some (.bool true, fr) := by
  refine ⟨false, run_call (by rfl : PP.lookup "law" = some fn_law) rfl ?_⟩
  have c0 : (callN PP X7 (n + 5)).call "_law_cell_at" [.list (ns.map .int), .int 0] = _ := cell_at (X := X7) bg (n + 4) ns 0
  have c2 : (callN PP X7 (n + 5)).call "_law_cell_at" [.list (ns.map .int), .int 2] = _ := cell_at (X := X7) bg (n + 4) ns 2
  have hm := wide_le (ns.getD 0 0)
  have hw := wide_by (X := X7) (n + 4) (ns.getD 0 0)
  obtain ⟨T, hr, hl, ht⟩ := table_by (X := X7) (n + 1) ns
  generalize ns.getD 0 0 = z0 at *
  generalize ns.getD 2 0 = z2 at *
  generalize wideV z0 = m at *
  generalize D.list (ns.map .int) = S at *
  have hbig : 2000 < big := by decide
  have hR := rowsV_ok hr
  have hrl : (rowsV T).length = T.length := by unfold rowsV; simp
  obtain ⟨K, hK, hK2⟩ : ∃ K : Nat, z2 % 5 + z2 / 15 % 9 / 8 * 8 = K ∧ K ≤ 1000 := ⟨(z2 % 5 + z2 / 15 % 9 / 8 * 8).toNat, by omega, by omega⟩
  refine r_step (p_assign (d := .int m) (fr := false) (by (repeat' (first | (with_reducible (first | assumption | apply e_int | apply e_str | apply e_bool | apply e_none | apply es_nil)) | ((with_reducible apply v_var); (focus ((repeat' (first | (with_reducible (first | assumption | exact h_eq | exact hr_eq | exact w_eq | exact h_cons | apply h_own; assumption)) | ((with_reducible (first | apply h_ne | apply hr_ne | apply w_ne | apply h_consn | apply w_st | apply w_fr)); (focus (exact rfl))) | (with_reducible (first | apply hr_vis | apply h_st | apply h_fr)))); done))) | ((with_reducible apply v_var); exact rfl) | ((with_reducible refine (e_glob _ _ _).trans ?_); (with_reducible assumption)) | (with_reducible (first | exact v_neg1 | apply v_cons | apply v_bin | exact b_add | exact b_sb | apply b_mod | apply b_div)) | ((with_reducible apply b_mulL); (focus decide)) | (with_reducible (first | apply b_mul | apply v_cmp | apply v_sub | apply v_sl | apply v_not | apply v_isi | apply v_blt | apply v_tup | apply v_lst | apply v_lcp | apply v_callE | apply v_call | apply v_bop1)) | ((with_reducible (first | apply v_and | apply v_or)); rotate_left; intro _; rotate_right) | (with_reducible apply v_map) | ((with_reducible (first | show cmpD _ _ _ = _ | show truth _ = _ | show isiD _ _ = _ | show frF _ _ = _ | show isCallE _ = _ | show bltD _ _ = _ | show lstD _ = _ | show subD _ _ = _)); exact rfl) | decide | exact Nat.le_of_ble_eq_true rfl)))) ?_
  refine r_step (p_assign (d := .list T) (fr := true) (by (repeat' (first | (with_reducible (first | assumption | apply e_int | apply e_str | apply e_bool | apply e_none | apply es_nil)) | ((with_reducible apply v_var); (focus ((repeat' (first | (with_reducible (first | assumption | exact h_eq | exact hr_eq | exact w_eq | exact h_cons | apply h_own; assumption)) | ((with_reducible (first | apply h_ne | apply hr_ne | apply w_ne | apply h_consn | apply w_st | apply w_fr)); (focus (exact rfl))) | (with_reducible (first | apply hr_vis | apply h_st | apply h_fr)))); done))) | ((with_reducible apply v_var); exact rfl) | ((with_reducible refine (e_glob _ _ _).trans ?_); (with_reducible assumption)) | (with_reducible (first | exact v_neg1 | apply v_cons | apply v_bin | exact b_add | exact b_sb | apply b_mod | apply b_div)) | ((with_reducible apply b_mulL); (focus decide)) | (with_reducible (first | apply b_mul | apply v_cmp | apply v_sub | apply v_sl | apply v_not | apply v_isi | apply v_blt | apply v_tup | apply v_lst | apply v_lcp | apply v_callE | apply v_call | apply v_bop1)) | ((with_reducible (first | apply v_and | apply v_or)); rotate_left; intro _; rotate_right) | (with_reducible apply v_map) | ((with_reducible (first | show cmpD _ _ _ = _ | show truth _ = _ | show isiD _ _ = _ | show frF _ _ = _ | show isCallE _ = _ | show bltD _ _ = _ | show lstD _ = _ | show subD _ _ = _)); exact rfl) | decide | exact Nat.le_of_ble_eq_true rfl)))) ?_
  refine r_norm (σ' := [("_law_script", (false, S)), ("_law_wide", (false, .int m)), ("_law_table", (true, .list T))]) rfl ?_
  have er : evE (callN PP X7 (n + 5)) (vis [("_law_script", (false, S)), ("_law_wide", (false, .int m)), ("_law_table", (true, .list T))]) (.comp (.bin .Add (.sub (.var "_law_table") (.var "_law_k")) (.tup [.var "_law_k"])) "_law_k" (.blt "range" [.blt "len" [.var "_law_table"]]) []) = some (.list (rowsV T)) := by
    have hrng : bltD "range" [.int T.length] = some (.rng 0 T.length) := blt_rng (by omega)
    refine v_comp (v_blt (v_cons (v_blt (v_cons (d := .list T) rfl (es_nil _ _)) rfl) (es_nil _ _)) hrng) (items_rng _) (by rw [List.length_map, List.length_range]; omega) (compM_mm _ _ _ _ fun k hk => compF_nil ?_)
    have hk := List.mem_range.mp hk
    have hs : subD (.list T) (.int k) = some (T.getD k .none) := sub_l hk (by rw [List.getD_eq_getElem?_getD, List.getElem?_eq_getElem hk]; rfl)
    obtain ⟨cs, e, h1, _⟩ := hr (T.getD k .none) (by rw [List.getD_eq_getElem?_getD, List.getElem?_eq_getElem hk]; exact List.getElem_mem hk)
    rw [e] at hs ⊢
    exact v_bin (v_sub (x := .list T) (y := .int k) rfl rfl hs) (v_tup (v_cons (d := .int k) rfl (es_nil _ _)) (Nat.le_of_ble_eq_true rfl)) (bin_tt (by rw [h1]; show m + 1 ≤ big; omega))
  refine r_step (p_assign (v_map er rfl rfl)) ?_
  refine r_step (p_assign (d := .int z2) (fr := false) (by (repeat' (first | (with_reducible (first | assumption | apply e_int | apply e_str | apply e_bool | apply e_none | apply es_nil)) | ((with_reducible apply v_var); (focus ((repeat' (first | (with_reducible (first | assumption | exact h_eq | exact hr_eq | exact w_eq | exact h_cons | apply h_own; assumption)) | ((with_reducible (first | apply h_ne | apply hr_ne | apply w_ne | apply h_consn | apply w_st | apply w_fr)); (focus (exact rfl))) | (with_reducible (first | apply hr_vis | apply h_st | apply h_fr)))); done))) | ((with_reducible apply v_var); exact rfl) | ((with_reducible refine (e_glob _ _ _).trans ?_); (with_reducible assumption)) | (with_reducible (first | exact v_neg1 | apply v_cons | apply v_bin | exact b_add | exact b_sb | apply b_mod | apply b_div)) | ((with_reducible apply b_mulL); (focus decide)) | (with_reducible (first | apply b_mul | apply v_cmp | apply v_sub | apply v_sl | apply v_not | apply v_isi | apply v_blt | apply v_tup | apply v_lst | apply v_lcp | apply v_callE | apply v_call | apply v_bop1)) | ((with_reducible (first | apply v_and | apply v_or)); rotate_left; intro _; rotate_right) | (with_reducible apply v_map) | ((with_reducible (first | show cmpD _ _ _ = _ | show truth _ = _ | show isiD _ _ = _ | show frF _ _ = _ | show isCallE _ = _ | show bltD _ _ = _ | show lstD _ = _ | show subD _ _ = _)); exact rfl) | decide | exact Nat.le_of_ble_eq_true rfl)))) ?_
  refine r_step (p_assign (d := .int K) (fr := false) (by rw [← hK]; (repeat' (first | (with_reducible (first | assumption | apply e_int | apply e_str | apply e_bool | apply e_none | apply es_nil)) | ((with_reducible apply v_var); (focus ((repeat' (first | (with_reducible (first | assumption | exact h_eq | exact hr_eq | exact w_eq | exact h_cons | apply h_own; assumption)) | ((with_reducible (first | apply h_ne | apply hr_ne | apply w_ne | apply h_consn | apply w_st | apply w_fr)); (focus (exact rfl))) | (with_reducible (first | apply hr_vis | apply h_st | apply h_fr)))); done))) | ((with_reducible apply v_var); exact rfl) | ((with_reducible refine (e_glob _ _ _).trans ?_); (with_reducible assumption)) | (with_reducible (first | exact v_neg1 | apply v_cons | apply v_bin | exact b_add | exact b_sb | apply b_mod | apply b_div)) | ((with_reducible apply b_mulL); (focus decide)) | (with_reducible (first | apply b_mul | apply v_cmp | apply v_sub | apply v_sl | apply v_not | apply v_isi | apply v_blt | apply v_tup | apply v_lst | apply v_lcp | apply v_callE | apply v_call | apply v_bop1)) | ((with_reducible (first | apply v_and | apply v_or)); rotate_left; intro _; rotate_right) | (with_reducible apply v_map) | ((with_reducible (first | show cmpD _ _ _ = _ | show truth _ = _ | show isiD _ _ = _ | show frF _ _ = _ | show isCallE _ = _ | show bltD _ _ = _ | show lstD _ = _ | show subD _ _ = _)); exact rfl) | decide | exact Nat.le_of_ble_eq_true rfl)))) ?_
  refine r_norm (σ' := [("_law_script", (false, S)), ("_law_wide", (false, .int m)), ("_law_table", (false, .list T)), ("_law_rows", (true, .list (rowsV T))), ("_law_cell", (false, .int z2)), ("_law_many", (false, .int K))]) rfl ?_
  obtain ⟨ks, k1, k2, k3⟩ := v_rowsL (cf := callN PP X7 (n + 5)) (ρ := vis [("_law_script", (false, S)), ("_law_wide", (false, .int m)), ("_law_table", (false, .list T)), ("_law_rows", (true, .list (rowsV T))), ("_law_cell", (false, .int z2)), ("_law_many", (false, .int K))])
      (elt := .tup [.bin .Mod (.call "_law_mixed" [.var "_law_cell", .var "_law_k"]) (.bin .Add (.var "_law_wide") (.int 1)), .cmp .Eq (.bin .Mod (.call "_law_mixed" [.var "_law_cell", .bin .Add (.int 9) (.var "_law_k")]) (.int 2)) (.int 1)]) (z := "_law_k") (src := .var "_law_many") (k := K) hK2 (fun d => ∃ k : Nat × Bool, k.1 ≤ m ∧ d = keyT k) rfl (by
    intro i hi
    obtain ⟨r, _, hr'⟩ := mixed (X := X7) bg (n + 4) z2 i
    obtain ⟨r2, _, hr2⟩ := mixed (X := X7) bg (n + 4) z2 (9 + i)
    obtain ⟨p, ep, hp⟩ := emod_nat r (k := m + 1) (Nat.succ_pos _)
    have hpos : (0 : Int) < (m : Int) + 1 := by omega
    have ep : r % ((m : Int) + 1) = p := ep
    refine ⟨keyT (p, r2 % 2 == 1), ⟨_, by show p ≤ m; omega, rfl⟩, ?_⟩
    unfold keyT
    rw [← ep]
    (repeat' (first | (with_reducible (first | assumption | apply e_int | apply e_str | apply e_bool | apply e_none | apply es_nil)) | ((with_reducible apply v_var); (focus ((repeat' (first | (with_reducible (first | assumption | exact h_eq | exact hr_eq | exact w_eq | exact h_cons | apply h_own; assumption)) | ((with_reducible (first | apply h_ne | apply hr_ne | apply w_ne | apply h_consn | apply w_st | apply w_fr)); (focus (exact rfl))) | (with_reducible (first | apply hr_vis | apply h_st | apply h_fr)))); done))) | ((with_reducible apply v_var); exact rfl) | ((with_reducible refine (e_glob _ _ _).trans ?_); (with_reducible assumption)) | (with_reducible (first | exact v_neg1 | apply v_cons | apply v_bin | exact b_add | exact b_sb | apply b_mod | apply b_div)) | ((with_reducible apply b_mulL); (focus decide)) | (with_reducible (first | apply b_mul | apply v_cmp | apply v_sub | apply v_sl | apply v_not | apply v_isi | apply v_blt | apply v_tup | apply v_lst | apply v_lcp | apply v_callE | apply v_call | apply v_bop1)) | ((with_reducible (first | apply v_and | apply v_or)); rotate_left; intro _; rotate_right) | (with_reducible apply v_map) | ((with_reducible (first | show cmpD _ _ _ = _ | show truth _ = _ | show isiD _ _ = _ | show frF _ _ = _ | show isCallE _ = _ | show bltD _ _ = _ | show lstD _ = _ | show subD _ _ = _)); exact rfl) | decide | exact Nat.le_of_ble_eq_true rfl)))
  refine r_step (p_assign (v_map k3 rfl rfl)) ?_
  obtain ⟨keys, rfl, hkeys⟩ := keysOf k2
  refine r_if (k := z2 / 5 % 3 == 1) (by (repeat' (first | (with_reducible (first | assumption | apply e_int | apply e_str | apply e_bool | apply e_none | apply es_nil)) | ((with_reducible apply v_var); (focus ((repeat' (first | (with_reducible (first | assumption | exact h_eq | exact hr_eq | exact w_eq | exact h_cons | apply h_own; assumption)) | ((with_reducible (first | apply h_ne | apply hr_ne | apply w_ne | apply h_consn | apply w_st | apply w_fr)); (focus (exact rfl))) | (with_reducible (first | apply hr_vis | apply h_st | apply h_fr)))); done))) | ((with_reducible apply v_var); exact rfl) | ((with_reducible refine (e_glob _ _ _).trans ?_); (with_reducible assumption)) | (with_reducible (first | exact v_neg1 | apply v_cons | apply v_bin | exact b_add | exact b_sb | apply b_mod | apply b_div)) | ((with_reducible apply b_mulL); (focus decide)) | (with_reducible (first | apply b_mul | apply v_cmp | apply v_sub | apply v_sl | apply v_not | apply v_isi | apply v_blt | apply v_tup | apply v_lst | apply v_lcp | apply v_callE | apply v_call | apply v_bop1)) | ((with_reducible (first | apply v_and | apply v_or)); rotate_left; intro _; rotate_right) | (with_reducible apply v_map) | ((with_reducible (first | show cmpD _ _ _ = _ | show truth _ = _ | show isiD _ _ = _ | show frF _ _ = _ | show isCallE _ = _ | show bltD _ _ = _ | show lstD _ = _ | show subD _ _ = _)); exact rfl) | decide | exact Nat.le_of_ble_eq_true rfl))) rfl (fun _ => ?_) fun _ => ?_
  · have ef : evE (callN PP X7 (n + 5)) (vis [("_law_script", (false, S)), ("_law_wide", (false, .int m)), ("_law_table", (false, .list T)), ("_law_rows", (true, .list (rowsV T))), ("_law_cell", (false, .int z2)), ("_law_many", (false, .int K)), ("_law_keys", (true, .list (keys.map keyT)))]) (.comp (.var "_law_key") "_law_key" (.var "_law_keys") [.cmp .Lt (.sub (.var "_law_key") (.int 0)) (.var "_law_wide")]) = some (.list ((keys.filter fun k => decide ((k.1 : Int) < m)).map keyT)) := by
      refine v_comp (x := .list (keys.map keyT)) (its := keys.map keyT) rfl rfl (by rw [k1]; omega) ?_
      rw [compM_filter _ (fun d => match d with | .tup [.int p, _] => decide (p < m) | _ => false)]
      · rw [List.filter_map]; rfl
      · intro it hit
        obtain ⟨k, hk, rfl⟩ := List.mem_map.mp hit
        exact compF_one (k := decide ((k.1 : Int) < m)) (d := .bool (decide ((k.1 : Int) < m))) rfl rfl fun _ => rfl
    refine r_step (p_assign (v_map ef rfl rfl)) ?_
    exact law_tail (n + 1) hR (by omega) (by omega) (fun k hk => hkeys k (List.mem_filter.mp hk).1) (by (repeat' (first | (with_reducible (first | assumption | exact h_eq | exact hr_eq | exact w_eq | exact h_cons | apply h_own; assumption)) | ((with_reducible (first | apply h_ne | apply hr_ne | apply w_ne | apply h_consn | apply w_st | apply w_fr)); (focus (exact rfl))) | (with_reducible (first | apply hr_vis | apply h_st | apply h_fr))))) h_eq (by (repeat' (first | (with_reducible (first | assumption | exact h_eq | exact hr_eq | exact w_eq | exact h_cons | apply h_own; assumption)) | ((with_reducible (first | apply h_ne | apply hr_ne | apply w_ne | apply h_consn | apply w_st | apply w_fr)); (focus (exact rfl))) | (with_reducible (first | apply hr_vis | apply h_st | apply h_fr)))))
  · exact law_tail (n + 1) hR (by omega) (by omega) hkeys (by (repeat' (first | (with_reducible (first | assumption | exact h_eq | exact hr_eq | exact w_eq | exact h_cons | apply h_own; assumption)) | ((with_reducible (first | apply h_ne | apply hr_ne | apply w_ne | apply h_consn | apply w_st | apply w_fr)); (focus (exact rfl))) | (with_reducible (first | apply hr_vis | apply h_st | apply h_fr))))) h_eq (by (repeat' (first | (with_reducible (first | assumption | exact h_eq | exact hr_eq | exact w_eq | exact h_cons | apply h_own; assumption)) | ((with_reducible (first | apply h_ne | apply hr_ne | apply w_ne | apply h_consn | apply w_st | apply w_fr)); (focus (exact rfl))) | (with_reducible (first | apply hr_vis | apply h_st | apply h_fr)))))

noncomputable def stepNames : List Str := ["table", "sieve", "pick", "join", "group", "order", "both", "once", "first"].map Str.ofString
noncomputable def strIs (v : Value) (y : Str) : Bool := match v with
  | .str x _ => x == y
  | _ => false
noncomputable def strsAre : List Value → List Str → Bool
  | [], [] => true
  | v :: vs, y :: ys => strIs v y && strsAre vs ys
  | _, _ => false
noncomputable def stepsObj (o : Obj) : Bool := (match o.data with | .seq vs _ => strsAre vs.toList stepNames | _ => false) && o.cls == .type "tuple" && o.dict.isNone && o.slots.isEmpty
noncomputable def stepsAt (s : Shared) : Bool := match s.heap.nsMap mainGlobals (Str.ofString "STEPS") with
  | some (.ref a) => (match s.heap.get? a with | some o => stepsObj o | none => false)
  | _ => false
noncomputable def GlobOk (mg : Str → Option Value) (h : Heap) : Prop := ∃ a vs n, mg (Str.ofString "STEPS") = some (.ref a) ∧ h.get? a = some (tupO vs n) ∧ strsAre vs.toList stepNames = true
theorem GlobOk.keeps {mg : Str → Option Value} {h h' : Heap} (x : GlobOk mg h) (hk : ∀ b o, h.get? b = some o → h'.get? b = some o) : GlobOk mg h' := let ⟨a, vs, n, h1, h2, h3⟩ := x; ⟨a, vs, n, h1, hk _ _ h2, h3⟩
theorem glob_of (s : Shared) (e : stepsAt s = true) : GlobOk (s.heap.nsMap mainGlobals) s.heap := by
  unfold stepsAt at e
  split at e
  · rename_i a ha
    split at e
    · rename_i o ho
      unfold stepsObj at e
      simp only [Bool.and_eq_true, beq_iff_eq, Option.isNone_iff_eq_none, Array.isEmpty_iff] at e
      obtain ⟨⟨⟨e1, e2⟩, e3⟩, e4⟩ := e
      split at e1
      · rename_i vs n hd
        refine ⟨a, vs, n, ha, ?_, e1⟩
        rw [ho]
        obtain ⟨c, d, dt, sl⟩ := o
        dsimp only at e2 e3 e4 hd
        subst e2 e3 e4 hd
        rfl
      · cases e1
    · cases e
  · cases e
theorem reps_strs {P : Params} {h : Heap} {H : Addr → Prop} : ∀ {vs : List Value} {ys : List Str}, strsAre vs ys = true → RepAll P h H vs (ys.map .str)
  | [], [], _ => .nil
  | [], _ :: _, e => by cases e
  | _ :: _, [], e => by cases e
  | v :: vs, y :: ys, e => by
    rw [strsAre, Bool.and_eq_true] at e
    obtain ⟨e1, e2⟩ := e
    refine .cons ?_ (reps_strs e2)
    cases v <;> first | (cases e1; done) | skip
    rename_i x t
    have e3 : (x == y) = true := e1
    rw [beq_iff_eq] at e3
    subst e3
    exact .str _ _
theorem hx7 {prog : Program} {w : World} {base : Heap} {mg : Str → Option Value} {A : Around} (g : GlobOk mg base) : CSound prog w base mg X7 A := by
  refine ⟨(fun _ _ _ _ h => nomatch h), fun x d h => ?_⟩
  have h : (if x = "STEPS" then some (D.tup steps) else none) = some d := h
  split at h
  · rename_i hx
    cases h
    subst hx
    obtain ⟨a, vs, n, h1, h2, h3⟩ := g
    refine ⟨_, h1, .tup h2 (fun q => q) (by decide) ?_⟩
    exact reps_strs h3
  · cases h
end Mine
namespace Mine
open PySem PySem.W PyProof.Rows
set_option maxRecDepth 100000
set_option maxHeartbeats 0
noncomputable def keepS : Stmt → Bool
  | .Assign [.Name x _] _ _ => x != Str.ofString "__name__"
  | _ => true
noncomputable def vw : Program := { PySem.Challenge.pw_uf030018_07 with main := { PySem.Challenge.pw_uf030018_07.main with body := PySem.Challenge.pw_uf030018_07.main.body.filter keepS } }
theorem ws : OpenLaw.wellSaid PySem.Challenge.rw_uf030018_07 = true := by decide +kernel
theorem left : LeftO PySem.Challenge.pw_uf030018_07 vw [] (fun s => (xlAt vw [] s && recOk (RowW.records PySem.Challenge.rw_uf030018_07.row.toRowW) s) && (tbAt s && stepsAt s)) (Hook.obs Hook.none) (Hook.val Hook.none) 20000 := fun w => by kernel_rfl
theorem dlSome : (defOf vw (Str.ofString "law")).isSome = true := by decide +kernel
noncomputable def dl : DefRec × List (Str × Expr) := (defOf vw (Str.ofString "law")).get dlSome
theorem dlDef : defOf vw PySem.Challenge.rw_uf030018_07.row.name = some (dl.1, dl.2) := (Option.some_get dlSome).symm
theorem dlIs : PySem.Challenge.rw_uf030018_07.row.prog.theDef PySem.Challenge.rw_uf030018_07.row.name = some (dl.1.params, dl.1.body, dl.1.scope) := by kernel_rfl
theorem dlKw : kwWritten? dl.1.params.kwonlyargs dl.1.params.kw_defaults = some dl.2 := by kernel_rfl
theorem dlName : dl.1.name = Str.ofString "law" := by kernel_rfl
theorem okAll : (chainsOk vw && opensWell PySem.Challenge.rw_uf030018_07.row.prog && (frees PySem.Challenge.rw_uf030018_07.row.toRowW && PySem.Challenge.rw_uf030018_07.row.within.isEmpty)) = true := by decide +kernel
theorem chkd : chkProg (recsOf vw) PP = true := by decide +kernel
theorem freed : bltFree vw (looseW vw []) = true := by decide +kernel
end Mine
open PySem PySem.W PyProof.Rows
set_option maxRecDepth 100000 in
set_option maxHeartbeats 8000000 in
theorem PySem.Challenge.cw_uf030018_07_holds : PySem.Challenge.rw_uf030018_07.Holds := by
  refine holds_law Mine.ws fun said => ?_
  refine holds_open (q := Mine.vw) (loose := []) (Xt := fun s => (xlAt Mine.vw [] s && recOk (RowW.records PySem.Challenge.rw_uf030018_07.row.toRowW) s) && (Mine.tbAt s && Mine.stepsAt s)) (XP := (fun mg h => XL Mine.vw [] mg h ∧ Mine.TbOk mg h ∧ Mine.GlobOk mg h)) (Yf := Hook.obs Hook.none) (Ya := Hook.val Hook.none) (YP := Hook.says Hook.none) (N := 20000) Mine.left (Hook.of Hook.none) (Hook.keeps Hook.none) (fun s e => ⟨xl_of s (Bool.and_eq_true_iff.mp (Bool.and_eq_true_iff.mp e).1).1, Mine.tb_of s (Bool.and_eq_true_iff.mp (Bool.and_eq_true_iff.mp e).2).1, Mine.glob_of s (Bool.and_eq_true_iff.mp (Bool.and_eq_true_iff.mp e).2).2⟩) (fun mg h h' x k => ⟨XL.keeps mg h h' x.1 k, Mine.TbOk.keeps x.2.1 k, Mine.GlobOk.keeps x.2.2 k⟩) Mine.dlDef Mine.dlIs Mine.dlKw (fun s e => recFacts_of (Bool.and_eq_true_iff.mp (Bool.and_eq_true_iff.mp e).1).2) (by rfl) said Mine.okAll ⟨rfl, rfl, rfl, rfl, rfl, by decide +kernel⟩ ?hw ?hc
  (case hw => w_witness2)
  intro w s₀ s₁ mg mb G Y fa o pm cd doc dV kV ho hd hcd hD hmg hg args vals as hpre hlay hrd hwl hlo
  rw [Mine.dlName] at hmg
  refine Ground.open G ?_
  intro T B D TE TW
  wrow_args hpre hlay hrd hwl hlo
  exact Mine.law_fin (P := Mine.PP) (X := Mine.X7) 20 T Mine.chkd Mine.freed (by decide) (fun _ _ => Mine.hx7 G.X.2.2) G.X.2.1 hmg hg (by assumption) (by assumption) (Mine.pure_ok _ _)
