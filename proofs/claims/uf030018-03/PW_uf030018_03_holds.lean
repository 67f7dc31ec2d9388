import PyProof.Rows.All
import Wide.All
import OpenK.AllK
import Wide.FinOn
import PyProof.Cells
import PyProof.RangeIter
import PyProof.FactsAll.tuple
import PyProof.DictKinds
import PyProof.CompMap
import PyProof.DictKind
import PyProof.Rows.Tup
import PyProof.DictRoads
import PyProof.DictDisplay
import PyProof.NeKinds
import PyProof.DictRoadsH
import PyProof.StrBlockI
import PyProof.StrBlock2
import PyProof.CompFree
import PyProof.Rows.IntRules
import PyProof.Rows.RuleB_mul
import PyProof.Rows.RuleB_floordiv
import PyProof.Rows.RuleB_pow
import PyProof.Rows.RuleB_mod
import PyProof.Rows.RuleC_int
import PyProof.Rows.RuleU_int
import PyProof.Rows.StrRules
import PyProof.Rows.Nodes
import PyProof.Rows.TupSub
import PyProof.ListOps
import PyProof.TupleOps
import PyProof.DictStraight
import PyProof.Rows.Lst
import PyProof.Rows.TupMore
import PyProof.Rows.StrTemp
import PyProof.ListTruth
import PyProof.TupleOfSeq
import PyProof.CallStr
import PyProof.RangeFor
import PyProof.Conv_int_bool
import PyProof.SliceStr2
import PyProof.SliceMore
import PyProof.ListIndexNeg
import PyProof.IsiPairs
import PyProof.IsiHeapPairs
import PyProof.Rows.Exc
import PyProof.Rows.Globals
import PyProof.IsiTuple
import PyProof.ListCopy
import PyProof.WalkInts
import PyProof.Rows.SumAny
import KE.KDictList
import PyProof.WalksMore
import PyProof.Rows.StrTempNeg
import PyProof.Rows.SortRuns
import PyProof.SetKind
import PyProof.SetRoads
import PyProof.Rows.SetFrom
import PyProof.Rows.SortShell
import PyProof.ForAppend
import PySem.Challenge.RW_uf030018_03
set_option Elab.async false
set_option backward.eqns.nonrecursive false
set_option genSizeOf false
namespace Mine
open PySem

/-- by-value data -/
inductive D where
  | none
  | bool (b : Bool)
  | int (i : Int)
  | str (x : Str)
  | tup (ds : List D)
  | list (ds : List D)
  | dict (ks : List D) (vs : List D)
  | rng (a b : Int)

noncomputable def big : Nat := 2 ^ 24

/-- hashes of keys: ints, strs, tuples of these -/
noncomputable def hashC (P : Params) : D → Int
  | .int i => hashInt i
  | .str x => if x.cps.isEmpty = true then 0 else reduceHash (P.strHash x.cps)
  | _ => 0
noncomputable def hashK (P : Params) : D → Int
  | .tup ds => reduceHash (Builtin.Tuple.tupleHashOf (ds.map (hashC P)))
  | d => hashC P d
noncomputable def D.isCell : D → Bool
  | .int _ | .str _ => true
  | _ => false
noncomputable def D.isKey : D → Bool
  | .int _ | .str _ => true
  | .tup ds => ds.all D.isCell
  | _ => false

noncomputable abbrev tupO (vs : Array Value) (n : Nat) : Obj := { cls := .type "tuple", dict := Option.none, data := .seq vs n, slots := #[] }
noncomputable abbrev lstO (vs : Array Value) (n : Nat) : Obj := { cls := .type "list", dict := Option.none, data := .seq vs n, slots := #[] }
noncomputable abbrev dicO (es : Array DictEntry) (n : Nat) : Obj := { cls := .type "dict", dict := Option.none, data := .dict es n, slots := #[] }

mutual
/-- the value v stands for d in the heap h, by objects that lie outside of H -/
inductive Rep (P : Params) (h : Heap) (H : Addr → Prop) : Value → D → Prop
  | none : Rep P h H .none .none
  | bool (b : Bool) : Rep P h H (.bool b) (.bool b)
  | int (i : Int) (t : Tok) : Rep P h H (.int i t) (.int i)
  | str (x : Str) (t : Tok) : Rep P h H (.str x t) (.str x)
  | tup {a : Addr} {vs : Array Value} {n : Nat} {ds : List D} : h.get? a = some (tupO vs n) → ¬ H a → ds.length ≤ big → RepAll P h H vs.toList ds → Rep P h H (.ref a) (.tup ds)
  | list {a : Addr} {vs : Array Value} {n : Nat} {ds : List D} : h.get? a = some (lstO vs n) → ¬ H a → ds.length ≤ big → RepAll P h H vs.toList ds → Rep P h H (.ref a) (.list ds)
  | dict {a : Addr} {es : Array DictEntry} {n : Nat} {ks vs : List D} : h.get? a = some (dicO es n) → ¬ H a → ks.length ≤ big → RepAll P h H (es.toList.map (·.key)) ks → RepAll P h H (es.toList.map (·.val)) vs →
      es.toList.map (·.hash) = ks.map (hashK P) → ks.all D.isKey = true → ks.Nodup → (a == sysModules) = false → Rep P h H (.ref a) (.dict ks vs)
  | rng {a : Addr} {lo hi : Int} {t u v : Tok} : IsRange h a lo hi 1 t u v → ¬ H a → (-big ≤ lo ∧ lo ≤ big ∧ -big ≤ hi ∧ hi ≤ big) → Rep P h H (.ref a) (.rng lo hi)
inductive RepAll (P : Params) (h : Heap) (H : Addr → Prop) : List Value → List D → Prop
  | nil : RepAll P h H [] []
  | cons {v : Value} {d : D} {vs : List Value} {ds : List D} : Rep P h H v d → RepAll P h H vs ds → RepAll P h H (v :: vs) (d :: ds)
end

mutual
theorem Rep.mono {P : Params} {h h' : Heap} {H H' : Addr → Prop} (hk : ∀ a o, ¬ H a → h.get? a = some o → h'.get? a = some o) (hH : ∀ a o, h.get? a = some o → H' a → H a) :
    ∀ {v : Value} {d : D}, Rep P h H v d → Rep P h' H' v d
  | _, _, .none => .none
  | _, _, .bool b => .bool b
  | _, _, .int i t => .int i t
  | _, _, .str x t => .str x t
  | _, _, .tup ho hn hl hr => .tup (hk _ _ hn ho) (fun x => hn (hH _ _ ho x)) hl (RepAll.mono hk hH hr)
  | _, _, .list ho hn hl hr => .list (hk _ _ hn ho) (fun x => hn (hH _ _ ho x)) hl (RepAll.mono hk hH hr)
  | _, _, .dict ho hn hl hr hr' e1 e2 e3 e4 => .dict (hk _ _ hn ho) (fun x => hn (hH _ _ ho x)) hl (RepAll.mono hk hH hr) (RepAll.mono hk hH hr') e1 e2 e3 e4
  | _, _, .rng hr hn hl => .rng (hk _ _ hn hr) (fun x => hn (hH _ _ hr x)) hl
theorem RepAll.mono {P : Params} {h h' : Heap} {H H' : Addr → Prop} (hk : ∀ a o, ¬ H a → h.get? a = some o → h'.get? a = some o) (hH : ∀ a o, h.get? a = some o → H' a → H a) :
    ∀ {vs : List Value} {ds : List D}, RepAll P h H vs ds → RepAll P h' H' vs ds
  | _, _, .nil => .nil
  | _, _, .cons hv hr => .cons (Rep.mono hk hH hv) (RepAll.mono hk hH hr)
end

theorem Rep.keeps {P : Params} {h h' : Heap} {H : Addr → Prop} {v : Value} {d : D} (hr : Rep P h H v d) (hk : ∀ a o, h.get? a = some o → h'.get? a = some o) : Rep P h' H v d :=
  hr.mono (fun a o _ e => hk a o e) (fun _ _ _ x => x)
theorem RepAll.keeps {P : Params} {h h' : Heap} {H : Addr → Prop} {v : List Value} {d : List D} (hr : RepAll P h H v d) (hk : ∀ a o, h.get? a = some o → h'.get? a = some o) : RepAll P h' H v d :=
  hr.mono (fun a o _ e => hk a o e) (fun _ _ _ x => x)
theorem Rep.sub {P : Params} {h : Heap} {H H' : Addr → Prop} {v : Value} {d : D} (hr : Rep P h H v d) (hH : ∀ a, H' a → H a) : Rep P h H' v d :=
  hr.mono (fun _ _ _ e => e) (fun a _ _ x => hH a x)

theorem RepAll.length {P : Params} {h : Heap} {H : Addr → Prop} : ∀ {vs : List Value} {ds : List D}, RepAll P h H vs ds → vs.length = ds.length
  | _, _, .nil => rfl
  | _, _, .cons _ hr => by simp [RepAll.length hr]
theorem RepAll.append {P : Params} {h : Heap} {H : Addr → Prop} : ∀ {vs ws : List Value} {ds es : List D}, RepAll P h H vs ds → RepAll P h H ws es → RepAll P h H (vs ++ ws) (ds ++ es)
  | _, _, _, _, .nil, k => k
  | _, _, _, _, .cons hv hr, k => .cons hv (RepAll.append hr k)
theorem RepAll.get {P : Params} {h : Heap} {H : Addr → Prop} : ∀ {vs : List Value} {ds : List D} (i : Nat) {d : D}, RepAll P h H vs ds → ds[i]? = some d → ∃ v, vs[i]? = some v ∧ Rep P h H v d
  | _, _, _, _, .nil, e => by simp at e
  | _, _, 0, _, .cons hv hr, e => by simp at e; subst e; exact ⟨_, rfl, hv⟩
  | _, _, i + 1, _, .cons hv hr, e => by simpa using RepAll.get i hr (by simpa using e)
theorem Rep.off {P : Params} {h : Heap} {H : Addr → Prop} {a : Addr} {d : D} (hr : Rep P h H (.ref a) d) : ¬ H a := by
  cases hr <;> assumption
noncomputable def D.scalar : D → Bool
  | .none | .bool _ | .int _ | .str _ => true
  | _ => false
theorem Rep.scalar {P : Params} {h h' : Heap} {H H' : Addr → Prop} {v : Value} {d : D} (hr : Rep P h H v d) (hs : d.scalar = true) : Rep P h' H' v d := by
  cases hr <;> first | exact .none | exact .bool _ | exact .int _ _ | exact .str _ _ | cases hs

theorem ofString_inj {a b : String} (h : Str.ofString a = Str.ofString b) : a = b := by
  rw [Str.ofString_eq_toList, Str.ofString_eq_toList] at h
  have h1 : a.toList.map Char.toNat = b.toList.map Char.toNat := by simpa using h
  have h2 : a.toList = b.toList := by
    generalize a.toList = l at h1; generalize b.toList = m at h1
    induction l generalizing m with
    | nil => cases m <;> simp_all
    | cons x l ih =>
      cases m with
      | nil => simp at h1
      | cons y m =>
        simp only [List.map_cons, List.cons.injEq] at h1
        have : x = y := by
          have := h1.1
          exact Char.toNat_inj.mp this
        rw [this, ih _ h1.2]
  exact String.toList_inj.mp h2

end Mine
namespace Mine
open PySem PySem.SeqAt
/-! dicts with keys that are ints and strs -/
noncomputable abbrev CK := Int ⊕ Str
noncomputable def ofCK : CK → D
  | .inl i => .int i
  | .inr x => .str x
noncomputable def CK.is : CK → Value → Bool
  | .inl i, v => Value.isInt i v
  | .inr x, v => Value.isStrOf x v
theorem CK.is_inl {i : Int} {v : Value} (h : CK.is (.inl i) v = true) : ∃ t, v = .int i t := Value.isInt_shape h
theorem CK.is_inr {x : Str} {v : Value} (h : CK.is (.inr x) v = true) : ∃ t, v = .str x t := Value.isStrOf_shape h
noncomputable def cellKind (prog : Program) (w : World) : KeyKind prog w CK where
  is := CK.is
  hash := fun k => hashK w.params (ofCK k)
  inj := fun v a b ha hb => by
    cases a <;> cases b
    · obtain ⟨t, rfl⟩ := CK.is_inl ha
      obtain ⟨u, e⟩ := CK.is_inl hb
      cases e; rfl
    · obtain ⟨t, rfl⟩ := CK.is_inl ha
      obtain ⟨u, e⟩ := CK.is_inr hb
      cases e
    · obtain ⟨t, rfl⟩ := CK.is_inr ha
      obtain ⟨u, e⟩ := CK.is_inl hb
      cases e
    · obtain ⟨t, rfl⟩ := CK.is_inr ha
      obtain ⟨u, e⟩ := CK.is_inr hb
      cases e; rfl
  byValue := fun k v h => by
    cases k
    · obtain ⟨t, rfl⟩ := CK.is_inl h; rfl
    · obtain ⟨t, rfl⟩ := CK.is_inr h; rfl
  pyHash := fun {A E s k v Q} hv h => by
    cases k
    · obtain ⟨t, rfl⟩ := CK.is_inl hv; exact wpAny_pyHash_int h
    · obtain ⟨t, rfl⟩ := CK.is_inr hv; exact wpAny_pyHash_str h
  eqBool := fun {A E s a b u v Q} hu hv h => by
    cases a <;> cases b
    · rename_i i j
      obtain ⟨t, rfl⟩ := CK.is_inl hu
      obtain ⟨u, rfl⟩ := CK.is_inl hv
      have h' : Q (decide (i = j)) s := by simpa using h
      exact wpAny_eqBool_int h'
    · obtain ⟨t, rfl⟩ := CK.is_inl hu
      obtain ⟨u, rfl⟩ := CK.is_inr hv
      exact EqAt.int_str _ _ _ _ prog w E Q (by simpa using h)
    · obtain ⟨t, rfl⟩ := CK.is_inr hu
      obtain ⟨u, rfl⟩ := CK.is_inl hv
      exact EqAt.str_int _ _ _ _ prog w E Q (by simpa using h)
    · rename_i i j
      obtain ⟨t, rfl⟩ := CK.is_inr hu
      obtain ⟨u, rfl⟩ := CK.is_inr hv
      have h' : Q (decide (i = j)) s := by simpa using h
      exact wpAny_eqBool_str h'
  «strs» := fun k x t v h => by
    cases k
    · obtain ⟨u, e⟩ := CK.is_inl h; cases e
    · exact (strKind prog w).strs _ x t v h
theorem ofCK_inj {a b : CK} (h : ofCK a = ofCK b) : a = b := by
  cases a <;> cases b <;> cases h <;> rfl
theorem cell_ck {d : D} (h : d.isCell = true) : ∃ k, d = ofCK k := by
  cases d <;> first | cases h | skip
  · exact ⟨.inl _, rfl⟩
  · exact ⟨.inr _, rfl⟩
theorem cells_ck : ∀ {ks : List D}, ks.all D.isCell = true → ∃ cs : List CK, ks = cs.map ofCK
  | [], _ => ⟨[], rfl⟩
  | k :: ks, h => by
    simp only [List.all_cons, Bool.and_eq_true] at h
    obtain ⟨c, rfl⟩ := cell_ck h.1
    obtain ⟨cs, rfl⟩ := cells_ck h.2
    exact ⟨c :: cs, rfl⟩
theorem rep_ck {P : Params} {h : Heap} {H : Addr → Prop} {v : Value} {k : CK} (r : Rep P h H v (ofCK k)) : CK.is k v = true := by
  cases k <;> cases r <;> simp [CK.is, Value.isInt, Value.isStrOf]
theorem ck_rep {P : Params} {h : Heap} {H : Addr → Prop} {v : Value} {k : CK} (r : CK.is k v = true) : Rep P h H v (ofCK k) := by
  cases k
  · obtain ⟨t, rfl⟩ := CK.is_inl r; exact .int _ _
  · obtain ⟨t, rfl⟩ := CK.is_inr r; exact .str _ _
theorem pairs_of {prog : Program} {w : World} {h : Heap} {H : Addr → Prop} : ∀ {es : List DictEntry} {cs : List CK}, RepAll w.params h H (es.map (·.key)) (cs.map ofCK) → Pairs (cellKind prog w) es (cs.zip (es.map (·.val)))
  | [], cs, r => by
    cases cs with
    | nil => exact .nil
    | cons _ _ => cases r
  | e :: es, cs, r => by
    cases cs with
    | nil => cases r
    | cons c cs =>
      cases r with
      | cons r1 r2 => exact .cons (rep_ck r1) rfl (pairs_of r2)
theorem of_pairs {prog : Program} {w : World} {h : Heap} {H : Addr → Prop} : ∀ {es : List DictEntry} {kvs : List (CK × Value)}, Pairs (cellKind prog w) es kvs → RepAll w.params h H (es.map (·.key)) (kvs.map fun p => ofCK p.1) ∧ es.map (·.val) = kvs.map (·.2)
  | [], _, .nil => ⟨.nil, rfl⟩
  | e :: es, _, .cons h1 h2 h3 => by
    obtain ⟨a, b⟩ := of_pairs (h := h) (H := H) h3
    exact ⟨.cons (ck_rep h1) a, by simp [h2, b]⟩
theorem zip_fst {α β : Type} : ∀ {a : List α} {b : List β}, a.length = b.length → (a.zip b).map (·.1) = a
  | [], [], _ => rfl
  | x :: a, y :: b, h => by simp [zip_fst (a := a) (b := b) (by simpa using h)]
theorem zip_snd {α β : Type} : ∀ {a : List α} {b : List β}, a.length = b.length → (a.zip b).map (·.2) = b
  | [], [], _ => rfl
  | x :: a, y :: b, h => by simp [zip_snd (a := a) (b := b) (by simpa using h)]
theorem dictOf_rep {prog : Program} {w : World} {h : Heap} {H : Addr → Prop} {a : Addr} {es : Array DictEntry} {n : Nat} {cs : List CK} (ho : h.get? a = some (dicO es n)) (hr : RepAll w.params h H (es.toList.map (·.key)) (cs.map ofCK))
    (hh : es.toList.map (·.hash) = (cs.map ofCK).map (hashK w.params)) (hn : (cs.map ofCK).Nodup) : h.DictOf (cellKind prog w) a (cs.zip (es.toList.map (·.val))) := by
  have hl : cs.length = (es.toList.map (·.val)).length := by have := hr.length; simp at this ⊢; omega
  refine ⟨_, es, n, ho, ⟨rfl, rfl, rfl⟩, rfl, ?_, pairs_of hr, ?_⟩
  · intro e he
    obtain ⟨i, hi, rfl⟩ := List.mem_iff_getElem.mp (Array.mem_toList_iff.mpr he)
    have hc : i < cs.length := by rw [hl]; simpa using hi
    refine ⟨cs[i], ?_, ?_⟩
    · obtain ⟨v, h1, h2⟩ := hr.get i (d := ofCK cs[i]) (by simp [hc])
      have : v = es.toList[i].key := by simpa [List.getElem?_eq_getElem hi] using h1.symm
      exact rep_ck (this ▸ h2)
    · have := congrArg (fun l => l[i]?) hh
      show _ = hashK w.params (ofCK cs[i])
      simpa [List.getElem?_eq_getElem hi, hc] using this
  · rw [zip_fst hl]
    exact (List.pairwise_map.mp hn).imp fun h e => h (by rw [e])
theorem rep_dictOf {prog : Program} {w : World} {h : Heap} {H : Addr → Prop} {a : Addr} {kvs : List (CK × Value)} (hd : h.DictOf (cellKind prog w) a kvs) :
    ∃ es n, h.get? a = some (dicO es n) ∧ RepAll w.params h H (es.toList.map (·.key)) (kvs.map fun p => ofCK p.1) ∧ es.toList.map (·.val) = kvs.map (·.2) ∧ es.toList.map (·.hash) = (kvs.map fun p => ofCK p.1).map (hashK w.params) ∧
      (kvs.map fun p => ofCK p.1).all D.isKey = true ∧ (kvs.map fun p => ofCK p.1).Nodup := by
  obtain ⟨o, es, ep, ho, ⟨c1, c2, c3⟩, hdat, hk, hp, hn⟩ := hd
  obtain ⟨p1, p2⟩ := of_pairs (h := h) (H := H) hp
  have ho' : o = dicO es ep := by obtain ⟨a, b, c, d⟩ := o; dsimp only at c1 c2 c3 hdat; subst c1 c2 c3 hdat; rfl
  refine ⟨es, ep, ho' ▸ ho, p1, p2, ?_, ?_, ?_⟩
  · have key : ∀ (l : List DictEntry) (kvs : List (CK × Value)), (∀ e ∈ l, ∃ k, (cellKind prog w).is k e.key = true ∧ e.hash = (cellKind prog w).hash k) → Pairs (cellKind prog w) l kvs → l.map (·.hash) = (kvs.map fun p => ofCK p.1).map (hashK w.params) := by
      intro l kvs hk hp
      induction hp with
      | nil => rfl
      | cons h1 h2 h3 ih =>
        obtain ⟨k, q1, q2⟩ := hk _ (List.mem_cons_self)
        have e := (cellKind prog w).inj _ _ _ q1 h1
        rw [e] at q2
        rw [List.map_cons, List.map_cons, List.map_cons, ih fun e he => hk e (List.mem_cons_of_mem _ he), q2]
        rfl
    exact key _ _ (fun e he => hk e (Array.mem_toList_iff.mp he)) hp
  · rw [List.all_eq_true]
    intro d hd
    obtain ⟨p, _, rfl⟩ := List.mem_map.mp hd
    cases p.1 <;> rfl
  · have : (kvs.map fun p => ofCK p.1) = (kvs.map (·.1)).map ofCK := by simp
    rw [this]
    exact List.pairwise_map.mpr (hn.imp fun h e => h (ofCK_inj e))

noncomputable def cellEq (a b : D) : Bool := match a with
  | .int i => (match b with | .int j => i == j | _ => false)
  | .str x => (match b with | .str y => x == y | _ => false)
  | _ => false
noncomputable def cellsEq : List D → List D → Bool
  | [], [] => true
  | a :: r, b :: r' => cellEq a b && cellsEq r r'
  | _, _ => false
noncomputable def keyEq (a b : D) : Bool := match a with
  | .tup x => (match b with | .tup y => cellsEq x y | _ => false)
  | a => cellEq a b
noncomputable def dput : List D → List D → D → D → List D × List D
  | k' :: ks, v' :: vs, k, v => if keyEq k' k then (k' :: ks, v :: vs) else (k' :: (dput ks vs k v).1, v' :: (dput ks vs k v).2)
  | _, _, k, v => ([k], [v])
theorem cellEq_ck (a b : CK) : cellEq (ofCK a) (ofCK b) = decide (a = b) := by
  cases a <;> cases b
  · simp only [ofCK, cellEq, Sum.inl.injEq]; rfl
  · rfl
  · rfl
  · simp only [ofCK, cellEq, Sum.inr.injEq]; rfl
theorem keyEq_ck (a b : CK) : keyEq (ofCK a) (ofCK b) = decide (a = b) := by
  rw [← cellEq_ck]; cases a <;> rfl
theorem any_valueAt {k : CK} : ∀ {cs : List CK} {vals : List Value}, cs.length = vals.length → (valueAt (cs.zip vals) k).isSome = (cs.map ofCK).any fun x => keyEq x (ofCK k)
  | [], [], _ => rfl
  | c :: cs, v :: vals, e => by
    have ih := any_valueAt (k := k) (cs := cs) (vals := vals) (by simpa using e)
    simp only [List.map_cons, List.any_cons, keyEq_ck]
    unfold valueAt at ih ⊢
    by_cases hc : c = k
    · simp [hc]
    · rw [List.zip_cons_cons, List.find?_cons_of_neg (by simpa using hc), ih]
      simp [hc]
theorem stored_dput {P : Params} {h : Heap} {H : Addr → Prop} {k : CK} {v : Value} {d : D} (hv : Rep P h H v d) {cs : List CK} : ∀ {vals : List Value} {vs : List D}, cs.length = vals.length → cs.Nodup → RepAll P h H vals vs →
    ((stored (cs.zip vals) k v).map fun p => ofCK p.1) = (dput (cs.map ofCK) vs (ofCK k) d).1 ∧ RepAll P h H ((stored (cs.zip vals) k v).map (·.2)) (dput (cs.map ofCK) vs (ofCK k) d).2 := by
  induction cs with
  | nil =>
    intro vals vs e _ hr
    cases hr with
    | nil => exact ⟨rfl, .cons hv .nil⟩
    | cons _ _ => simp at e
  | cons c cs IH =>
    intro vals' vs' e hn hr'
    cases hr' with
    | nil => simp at e
    | cons hu hr =>
    rename_i u _ vals vs
    have hl : cs.length = vals.length := by simpa using e
    obtain ⟨hnc, hn'⟩ := List.nodup_cons.mp hn
    obtain ⟨ih1, ih2⟩ := IH hl hn' hr
    simp only [List.map_cons, dput, keyEq_ck, List.zip_cons_cons]
    by_cases hc : c = k
    · subst hc
      have hs : stored ((c, u) :: cs.zip vals) c v = (c, v) :: cs.zip vals := by
        unfold stored
        rw [if_pos (by simp)]
        simp only [List.map_cons, if_true]
        rw [map_store_of_not_mem _ _ _ (by rw [zip_fst hl]; exact hnc)]
      rw [hs, if_pos (by simp)]
      refine ⟨?_, ?_⟩
      · simp only [List.map_cons]
        congr 1
        have : (cs.zip vals).map (fun p => ofCK p.1) = ((cs.zip vals).map (·.1)).map ofCK := by simp
        rw [this, zip_fst hl]
      · simp only [List.map_cons]
        rw [zip_snd hl]
        exact .cons hv hr
    · have hs : stored ((c, u) :: cs.zip vals) k v = (c, u) :: stored (cs.zip vals) k v := by
        unfold stored
        by_cases ha : (cs.zip vals).any (fun kv => decide (kv.1 = k)) = true
        · rw [if_pos ha, if_pos (by simp [ha, hc])]
          simp [hc]
        · rw [if_neg ha, if_neg (by simpa [hc] using ha)]
          rfl
      rw [hs, if_neg (by simpa using hc)]
      exact ⟨by simp only [List.map_cons]; rw [ih1], .cons hu ih2⟩
end Mine
namespace Mine
open PySem PySem.SeqAt
/-! dicts with keys that are tuples of ints and strs -/
section
variable {prog : Program} {w : World} {h : Heap} {H : Addr → Prop}
end
end Mine
namespace Mine
open PySem

/-! the mini language -/
inductive ME where
  | var (x : String)
  | glob (x : String)
  | int (i : Int)
  | str (s : String)
  | bool (b : Bool)
  | none
  | bin (op : Operator) (a b : ME)
  | cmp (op : CmpOp) (a b : ME)
  | bop (op : BoolOp) (es : List ME)
  | not (a : ME)
  | neg (a : ME)
  | tup (es : List ME)
  | lst (es : List ME)
  | sub (a i : ME)
  | sl (a lo hi : ME)
  | dct (ks vs : List ME)
  | comp (elt : ME) (x : String) (src : ME) (cs : List ME)
  | call (f : String) (args : List ME)
  | isi (a : ME) (T : String)
  | blt (f : String) (args : List ME)
  | lcp (a : ME)
  | sset (a : ME)

inductive MS where
  | assign (x : String) (e : ME)
  | append (x : String) (e : ME)
  | setk (x : String) (k e : ME)
  | ite (c : ME) (t f : List MS)
  | for_ (x : String) (src : ME) (body : List MS)
  | ret (e : ME)
  | bad

noncomputable def D.isList : D → Bool
  | .list _ => true
  | _ => false
/-! data operations -/
noncomputable def D.items : D → Option (List D)
  | .list ds | .tup ds => some ds
  | .rng a b => some ((List.range (b - a).toNat).map fun (i : Nat) => D.int (a + (i : Int)))
  | _ => Option.none

noncomputable def truth : D → Option Bool
  | .bool b => some b
  | .none => some false
  | .int i => some (i != 0)
  | .list ds | .tup ds => some (!ds.isEmpty)
  | _ => Option.none

noncomputable def eqS (a b : D) : Option Bool := match a with
  | .bool x => (match b with | .bool y => some (x == y) | _ => Option.none)
  | .int x => (match b with | .int y => some (x == y) | .str _ => some false | _ => Option.none)
  | .str x => (match b with | .str y => some (x == y) | .int _ => some false | _ => Option.none)
  | _ => Option.none
/-- == of two data -/
noncomputable def eqD (a b : D) : Option Bool := match a with
  | a => eqS a b

noncomputable def lim : Int := 2 ^ 64
noncomputable def powLim : Int := 2 ^ 1000
noncomputable def strLim : Int := 10 ^ 100
noncomputable def binI (op : Operator) (a b : Int) : Option D := match op with
  | .Add => some (.int (a + b))
  | .Sub => some (.int (a - b))
  | .Mult => if (-lim < a ∧ a < lim) ∨ (-lim < b ∧ b < lim) then some (.int (a * b)) else Option.none
  | .FloorDiv => if 0 < b ∧ b < lim then some (.int (a / b)) else Option.none
  | .Mod => if 0 < b then some (.int (a % b)) else Option.none
  | .Pow => if -powLim < a ∧ a < powLim ∧ 0 ≤ b ∧ b ≤ 100 then some (.int (a ^ b.toNat)) else Option.none
  | _ => Option.none
noncomputable def binS (op : Operator) (a : Str) (d : D) : Option D := match op with
  | .Add => (match d with | .str b => if a.length + b.length ≤ big then some (.str (a ++ b)) else Option.none | _ => Option.none)
  | .Mult => (match d with | .int n => if 0 ≤ n ∧ n ≤ 1000 ∧ a.length ≤ 1000 then some (.str (Txt.mul a n)) else Option.none | _ => Option.none)
  | _ => Option.none
noncomputable def binD (op : Operator) (x y : D) : Option D := match x with
  | .int a => (match y with | .int b => binI op a b | _ => Option.none)
  | .str a => binS op a y
  | _ => Option.none

noncomputable def cmpI (op : CmpOp) (a b : Int) : Option D := match op with
  | .Lt => some (.bool (decide (a < b)))
  | .LtE => some (.bool (decide (a ≤ b)))
  | .Gt => some (.bool (decide (a > b)))
  | .GtE => some (.bool (decide (a ≥ b)))
  | _ => Option.none
noncomputable def ordD (op : CmpOp) (x y : D) : Option D := match x with
  | .int a => (match y with | .int b => cmpI op a b | _ => Option.none)
  | .str a => (match y with | .str b => (match op with | .Lt => some (.bool (decide (a.cps.toList < b.cps.toList))) | _ => Option.none) | _ => Option.none)
  | _ => Option.none
noncomputable def keyOk (k : D) (ks : List D) : Bool := (k.isCell && ks.all D.isCell) || false
/-- k in c -/
noncomputable def memD (k c : D) : Option Bool := match c with
  | .dict ks _ => if keyOk k ks then some (ks.any fun x => keyEq x k) else Option.none
  | _ => Option.none
noncomputable def cmpD (op : CmpOp) (a b : D) : Option D := match op with
  | .Eq => (eqD a b).map .bool
  | .NotEq => (eqD a b).map fun x => .bool (!x)
  | .In => (memD a b).map .bool
  | .NotIn => (memD a b).map fun x => .bool (!x)
  | op => ordD op a b

/-- the place of an index -/
noncomputable def idx (k : Int) (n : Nat) : Option Nat := if 0 ≤ k ∧ k < n then some k.toNat else if -(n : Int) ≤ k ∧ k < 0 then some (k + n).toNat else Option.none
noncomputable def charAt (x : Str) (j : Nat) : Str := ⟨#[x.cps.getD j 0]⟩
noncomputable def subD (d i : D) : Option D := match d with
  | .list ds => (match i with | .int k => (idx k ds.length).bind fun j => ds[j]? | _ => Option.none)
  | .tup ds => (match i with | .int k => (idx k ds.length).bind fun j => ds[j]? | _ => Option.none)
  | .str x => (match i with | .int k => if 0 ≤ k ∧ k < x.length ∧ x.length ≤ big then some (.str (charAt x k.toNat)) else Option.none | _ => Option.none)
  | _ => Option.none

noncomputable def bndS (lo : D) : Option (Option Int) := match lo with
  | .none => some Option.none
  | .int i => some (some i)
  | _ => Option.none
noncomputable def slD (d lo hi : D) : Option D := match d with
  | .str x => if x.length ≤ big then (bndS lo).bind fun a => (bndS hi).map fun b => .str (Txt.slice x a b) else Option.none
  | _ => Option.none

noncomputable def isiD (d : D) (T : String) : Option Bool :=
  if T = "str" ∨ T = "bool" ∨ T = "int" ∨ T = "tuple" ∨ T = "list" then (match d with
    | .str _ => some (T == "str")
    | .int _ => some (T == "int")
    | .bool _ => some (T == "int" || T == "bool")
    | .tup _ => some (T == "tuple")
    | .list _ => some (T == "list")
    | _ => Option.none) else Option.none

noncomputable def lenD (d : D) : Option D := match d with
  | .list ds => some (.int ds.length)
  | .tup ds => some (.int ds.length)
  | .str x => if x.length ≤ big then some (.int x.length) else Option.none
  | _ => Option.none
noncomputable def rngD (a n : Int) : Option D := if (-(big : Int) ≤ n ∧ n ≤ big) ∧ -(big : Int) ≤ a ∧ a ≤ big then some (.rng a n) else Option.none
noncomputable def bltI (f : String) (i : Int) : Option D :=
  if f = "range" then rngD 0 i else if f = "str" then (if -strLim < i ∧ i < strLim then some (.str (Str.ofString (toString i))) else Option.none) else Option.none
noncomputable def bltI2 (_ : String) (_ _ : Int) : Option D := Option.none
/-- the built-ins, but for list -/
noncomputable def bltD (f : String) (as : List D) : Option D := match as with
  | [d] => if f = "len" then lenD d else (match d with
    | .list ds => if f = "tuple" then some (.tup ds) else Option.none
    | .int i => bltI f i
    | .bool b => if f = "int" then some (.int (if b then 1 else 0)) else Option.none
    | .str x => if f = "str" then some (.str x) else Option.none
    | _ => Option.none)
  | [a, b] => (match a with
    | .int i => (match b with | .int j => bltI2 f i j | _ => Option.none)
    | _ => Option.none)
  | _ => Option.none
/-- list of it -/
noncomputable def lstD (_ : D) : Option (List D) := Option.none
/-! sorted(set(..)) of ints -/
noncomputable def intsD : List D → Option (List Int)
  | [] => some []
  | .int i :: r => (intsD r).map (i :: ·)
  | _ => Option.none
noncomputable def insU (x : Int) : List Int → List Int
  | [] => [x]
  | y :: l => if x < y then x :: y :: l else if x = y then y :: l else y :: insU x l
noncomputable def usort (ns : List Int) : List Int := ns.foldr insU []
noncomputable def ssetD (d : D) : Option D := match d with
  | .list ds => if ds.length < 127 then (intsD ds).map fun ns => .list ((usort ns).map .int) else Option.none
  | _ => Option.none
/-! the evaluator -/
noncomputable def compM (f : D → Option (Option D)) : List D → Option (List D)
  | [] => some []
  | it :: r => match f it with
    | Option.none => Option.none
    | some o => match compM f r with
      | Option.none => Option.none
      | some ds => some (match o with | Option.none => ds | some d => d :: ds)

structure CF where
  call : String → List D → Option (D × Bool)
  glob : String → Option D

mutual
noncomputable def evE (cf : CF) (ρ : List (String × D)) (me : ME) : Option D := match me with
  | .var x => ρ.lookup x
  | .glob x => cf.glob x
  | .int i => some (.int i)
  | .str s => some (.str (Str.ofString s))
  | .bool b => some (.bool b)
  | .none => some .none
  | .bin op a b => match evE cf ρ a with
    | some x => (match evE cf ρ b with | some y => binD op x y | Option.none => Option.none)
    | Option.none => Option.none
  | .cmp op a b => match evE cf ρ a with
    | some x => (match evE cf ρ b with | some y => cmpD op x y | Option.none => Option.none)
    | Option.none => Option.none
  | .bop op es => evBop cf ρ op es
  | .not a => match evE cf ρ a with
    | some x => (truth x).map fun t => .bool (!t)
    | Option.none => Option.none
  | .neg a => match evE cf ρ a with
    | some (.int i) => some (.int (-i))
    | _ => Option.none
  | .tup es => match evEs cf ρ es with
    | some ds => if ds.length ≤ big then some (.tup ds) else Option.none
    | Option.none => Option.none
  | .lst es => match evEs cf ρ es with
    | some ds => if ds.length ≤ big then some (.list ds) else Option.none
    | Option.none => Option.none
  | .dct ks vs => match evEs cf ρ ks with
    | some ds => (match evEs cf ρ vs with
      | some es => if ds.isEmpty && es.isEmpty then some (.dict [] []) else Option.none
      | Option.none => Option.none)
    | Option.none => Option.none
  | .sub a i => match evE cf ρ a with
    | some x => (match evE cf ρ i with | some y => subD x y | Option.none => Option.none)
    | Option.none => Option.none
  | .sl a lo hi => match evE cf ρ a with
    | some x => (match evE cf ρ lo with
      | some y => (match evE cf ρ hi with | some z => slD x y z | Option.none => Option.none)
      | Option.none => Option.none)
    | Option.none => Option.none
  | .comp elt x src cs => match evE cf ρ src with
    | some d => (match d.items with
      | some its => if its.length ≤ big then (compM (fun it => match evCs cf ((x, it) :: ρ) cs with
          | some true => (match evE cf ((x, it) :: ρ) elt with | some y => some (some y) | Option.none => Option.none)
          | some false => some Option.none
          | Option.none => Option.none) its).map .list else Option.none
      | Option.none => Option.none)
    | Option.none => Option.none
  | .call f args => match evEs cf ρ args with
    | some ds => (cf.call f ds).map (·.1)
    | Option.none => Option.none
  | .isi a T => match evE cf ρ a with
    | some x => (isiD x T).map .bool
    | Option.none => Option.none
  | .blt f args => match evEs cf ρ args with
    | some ds => bltD f ds
    | Option.none => Option.none
  | .lcp a => match evE cf ρ a with
    | some x => (lstD x).map .list
    | Option.none => Option.none
  | .sset a => match evE cf ρ a with
    | some x => ssetD x
    | Option.none => Option.none
termination_by structural me
noncomputable def evEs (cf : CF) (ρ : List (String × D)) (ms : List ME) : Option (List D) := match ms with
  | [] => some []
  | e :: r => match evE cf ρ e with
    | some d => (match evEs cf ρ r with | some ds => some (d :: ds) | Option.none => Option.none)
    | Option.none => Option.none
termination_by structural ms
noncomputable def evBop (cf : CF) (ρ : List (String × D)) (op : BoolOp) (ms : List ME) : Option D := match ms with
  | [] => Option.none
  | [e] => evE cf ρ e
  | e :: r => match evE cf ρ e with
    | some d => (match truth d with
      | some t => if t = (match op with | .And => false | .Or => true) then some d else evBop cf ρ op r
      | Option.none => Option.none)
    | Option.none => Option.none
termination_by structural ms
noncomputable def evCs (cf : CF) (ρ : List (String × D)) (ms : List ME) : Option Bool := match ms with
  | [] => some true
  | e :: r => match evE cf ρ e with
    | some d => (match truth d with
      | some t => if t then evCs cf ρ r else some false
      | Option.none => Option.none)
    | Option.none => Option.none
termination_by structural ms
end

/-! the variables that an expression reads -/
mutual
noncomputable def ME.names : ME → List String
  | .var x => [x]
  | .bin _ a b | .cmp _ a b | .sub a b => a.names ++ b.names
  | .bop _ es | .tup es | .lst es | .call _ es | .blt _ es => namesL es
  | .not a | .neg a | .isi a _ | .lcp a => a.names
  | .sset a => a.names
  | .dct ks vs => namesL ks ++ namesL vs
  | .sl a lo hi => a.names ++ lo.names ++ hi.names
  | .comp elt x src cs => src.names ++ (elt.names ++ namesL cs).filter (· != x)
  | .glob _ | .int _ | .str _ | .bool _ | .none => []
noncomputable def namesL : List ME → List String
  | [] => []
  | e :: r => e.names ++ namesL r
end

/-! statements -/
noncomputable abbrev St := List (String × (Bool × D))
noncomputable def vis (σ : St) : List (String × D) := σ.map fun p => (p.1, p.2.2)
noncomputable def setv (σ : St) (x : String) (v : Bool × D) : St := match σ with
  | [] => [(x, v)]
  | (y, w) :: r => if y = x then (y, v) :: r else (y, w) :: setv r x v
noncomputable def freeze (ns : List String) (σ : St) : St := σ.map fun p => (p.1, (p.2.1 && !ns.contains p.1, p.2.2))
noncomputable def settle (d : D) (ns : List String) (σ : St) : St := if d.scalar then σ else freeze ns σ

inductive Fl where
  | next
  | ret (fr : Bool) (d : D)

/-- an expression's value, and whether it is a new list that nothing else holds -/
noncomputable def frF (me : ME) (d : D) : Bool := match me with
  | .lst _ | .comp _ _ _ _ | .dct _ _ | .lcp _ => true
  | .sset _ => true
  | .sl _ _ _ | .bin _ _ _ => d.isList
  | .var _ | .glob _ | .int _ | .str _ | .bool _ | .none | .cmp _ _ _ | .bop _ _ | .not _ | .neg _ | .tup _ | .sub _ _ | .call _ _ | .isi _ _ | .blt _ _ => false
noncomputable def isCallE (me : ME) : Option (String × List ME) := match me with
  | .call f args => some (f, args)
  | _ => Option.none
noncomputable def evF (cf : CF) (ρ : List (String × D)) (me : ME) : Option (D × Bool) := match isCallE me with
  | some (f, args) => (match evEs cf ρ args with
    | some ds => cf.call f ds
    | Option.none => Option.none)
  | Option.none => (evE cf ρ me).map fun d => (d, frF me d)

section
variable (cf : CF) (ρ : List (String × D))
theorem evF_call (f : String) (args : List ME) : evF cf ρ (.call f args) = (match evEs cf ρ args with | some ds => cf.call f ds | Option.none => Option.none) := rfl
theorem evF_lst (es : List ME) : evF cf ρ (.lst es) = (evE cf ρ (.lst es)).map fun d => (d, true) := rfl
theorem evF_dct (ks vs : List ME) : evF cf ρ (.dct ks vs) = (evE cf ρ (.dct ks vs)).map fun d => (d, true) := rfl
theorem evF_sset (a : ME) : evF cf ρ (.sset a) = (evE cf ρ (.sset a)).map fun d => (d, true) := rfl
theorem evF_lcp (a : ME) : evF cf ρ (.lcp a) = (evE cf ρ (.lcp a)).map fun d => (d, true) := rfl
theorem evF_comp (elt : ME) (x : String) (src : ME) (cs : List ME) : evF cf ρ (.comp elt x src cs) = (evE cf ρ (.comp elt x src cs)).map fun d => (d, true) := rfl
theorem evF_sl (a l h : ME) : evF cf ρ (.sl a l h) = (evE cf ρ (.sl a l h)).map fun d => (d, d.isList) := rfl
theorem evF_bin (op : Operator) (a b : ME) : evF cf ρ (.bin op a b) = (evE cf ρ (.bin op a b)).map fun d => (d, d.isList) := rfl
end
noncomputable def forD (f : D → St → Option (Fl × St)) : List D → St → Option (Fl × St)
  | [], σ => some (.next, σ)
  | it :: r, σ => match f it σ with
    | some (.next, σ') => forD f r σ'
    | x => x
mutual
noncomputable def exS (cf : CF) (st : MS) (σ : St) : Option (Fl × St) := match st, σ with
  | .assign x e, σ => match evF cf (vis σ) e with
    | some (d, fr) => some (.next, setv (settle d e.names σ) x (fr, d))
    | Option.none => Option.none
  | .append x e, σ => match evE cf (vis σ) e with
    | some d => (match (settle d e.names σ).lookup x with
      | some (true, .list ds) => if ds.length < big then some (.next, setv (settle d e.names σ) x (true, .list (ds ++ [d]))) else Option.none
      | _ => Option.none)
    | Option.none => Option.none
  | .setk x k e, σ => match evE cf (vis σ) e with
    | some d => (match evE cf (vis σ) k with
      | some dk => (match (settle dk k.names (settle d e.names σ)).lookup x with
        | some (true, .dict ks vs) => if keyOk dk ks && decide (ks.length < big) then some (.next, setv (settle dk k.names (settle d e.names σ)) x (true, .dict (dput ks vs dk d).1 (dput ks vs dk d).2)) else Option.none
        | _ => Option.none)
      | Option.none => Option.none)
    | Option.none => Option.none
  | .ite c t f, σ => match evE cf (vis σ) c with
    | some d => (match truth d with
      | some true => exSs cf t σ
      | some false => exSs cf f σ
      | Option.none => Option.none)
    | Option.none => Option.none
  | .for_ x src body, σ => match evE cf (vis σ) src with
    | some d => (match d.items with
      | some its => forD (fun it σ => exSs cf body (setv σ x (false, it))) its (freeze src.names σ)
      | Option.none => Option.none)
    | Option.none => Option.none
  | .ret e, σ => match e with
    | .var x => (match σ.lookup x with | some (fr, d) => some (.ret fr d, σ) | Option.none => Option.none)
    | e => (match evF cf (vis σ) e with
      | some (d, fr) => some (.ret fr d, σ)
      | Option.none => Option.none)
  | .bad, _ => Option.none
termination_by structural st
noncomputable def exSs (cf : CF) (ss : List MS) (σ : St) : Option (Fl × St) := match ss, σ with
  | [], σ => some (.next, σ)
  | st :: r, σ => match exS cf st σ with
    | some (.next, σ') => exSs cf r σ'
    | x => x
termination_by structural ss
end

structure Fn where
  params : List String
  body : List MS

/-- calls: n is how deep they may nest; X: functions that are shown by hand, and global constants -/
noncomputable def callN (P : List (String × Fn)) (X : CF) : Nat → CF
  | 0 => ⟨fun _ _ => Option.none, X.glob⟩
  | n + 1 => ⟨fun f args => match P.lookup f with
    | Option.none => X.call f args
    | some fn => if args.length = fn.params.length then
        (match exSs (callN P X n) fn.body ((fn.params.zip args).map fun p => (p.1, (false, p.2))) with
        | some (.ret fr d, _) => some (d, fr)
        | some (.next, _) => some (.none, false)
        | _ => Option.none)
      else Option.none, X.glob⟩
set_option autoImplicit true in
theorem ev_var (cf : CF) (ρ : List (String × D)) : evE cf ρ (ME.var x) = (ρ.lookup x) := rfl
set_option autoImplicit true in
theorem ev_glob (cf : CF) (ρ : List (String × D)) : evE cf ρ (ME.glob x) = (cf.glob x) := rfl
set_option autoImplicit true in
theorem ev_int (cf : CF) (ρ : List (String × D)) : evE cf ρ (ME.int i) = (some (.int i)) := rfl
set_option autoImplicit true in
theorem ev_str (cf : CF) (ρ : List (String × D)) : evE cf ρ (ME.str s) = (some (.str (Str.ofString s))) := rfl
set_option autoImplicit true in
theorem ev_bool (cf : CF) (ρ : List (String × D)) : evE cf ρ (ME.bool b) = (some (.bool b)) := rfl
set_option autoImplicit true in
theorem ev_none (cf : CF) (ρ : List (String × D)) : evE cf ρ (ME.none) = (some .none) := rfl
set_option autoImplicit true in
theorem ev_bin (cf : CF) (ρ : List (String × D)) : evE cf ρ (ME.bin op a b) = (match evE cf ρ a with
      | some x => (match evE cf ρ b with | some y => binD op x y | Option.none => Option.none)
      | Option.none => Option.none) := rfl
set_option autoImplicit true in
theorem ev_cmp (cf : CF) (ρ : List (String × D)) : evE cf ρ (ME.cmp op a b) = (match evE cf ρ a with
      | some x => (match evE cf ρ b with | some y => cmpD op x y | Option.none => Option.none)
      | Option.none => Option.none) := rfl
set_option autoImplicit true in
theorem ev_bop (cf : CF) (ρ : List (String × D)) : evE cf ρ (ME.bop op es) = (evBop cf ρ op es) := rfl
set_option autoImplicit true in
theorem ev_not (cf : CF) (ρ : List (String × D)) : evE cf ρ (ME.not a) = (match evE cf ρ a with
      | some x => (truth x).map fun t => .bool (!t)
      | Option.none => Option.none) := rfl
set_option autoImplicit true in
theorem ev_neg (cf : CF) (ρ : List (String × D)) : evE cf ρ (ME.neg a) = (match evE cf ρ a with
      | some (.int i) => some (.int (-i))
      | _ => Option.none) := rfl
set_option autoImplicit true in
theorem ev_tup (cf : CF) (ρ : List (String × D)) : evE cf ρ (ME.tup es) = (match evEs cf ρ es with
      | some ds => if ds.length ≤ big then some (.tup ds) else Option.none
      | Option.none => Option.none) := rfl
set_option autoImplicit true in
theorem ev_lst (cf : CF) (ρ : List (String × D)) : evE cf ρ (ME.lst es) = (match evEs cf ρ es with
      | some ds => if ds.length ≤ big then some (.list ds) else Option.none
      | Option.none => Option.none) := rfl
set_option autoImplicit true in
theorem ev_dct (cf : CF) (ρ : List (String × D)) : evE cf ρ (ME.dct ks vs) = (match evEs cf ρ ks with
      | some ds => (match evEs cf ρ vs with
        | some es => if ds.isEmpty && es.isEmpty then some (.dict [] []) else Option.none
        | Option.none => Option.none)
      | Option.none => Option.none) := rfl
set_option autoImplicit true in
theorem ev_sub (cf : CF) (ρ : List (String × D)) : evE cf ρ (ME.sub a i) = (match evE cf ρ a with
      | some x => (match evE cf ρ i with | some y => subD x y | Option.none => Option.none)
      | Option.none => Option.none) := rfl
set_option autoImplicit true in
theorem ev_sl (cf : CF) (ρ : List (String × D)) : evE cf ρ (ME.sl a lo hi) = (match evE cf ρ a with
      | some x => (match evE cf ρ lo with
        | some y => (match evE cf ρ hi with | some z => slD x y z | Option.none => Option.none)
        | Option.none => Option.none)
      | Option.none => Option.none) := rfl
set_option autoImplicit true in
theorem ev_comp (cf : CF) (ρ : List (String × D)) : evE cf ρ (ME.comp elt x src cs) = (match evE cf ρ src with
      | some d => (match d.items with
        | some its => if its.length ≤ big then (compM (fun it => match evCs cf ((x, it) :: ρ) cs with
            | some true => (match evE cf ((x, it) :: ρ) elt with | some y => some (some y) | Option.none => Option.none)
            | some false => some Option.none
            | Option.none => Option.none) its).map .list else Option.none
        | Option.none => Option.none)
      | Option.none => Option.none) := rfl
set_option autoImplicit true in
theorem ev_call (cf : CF) (ρ : List (String × D)) : evE cf ρ (ME.call f args) = (match evEs cf ρ args with
      | some ds => (cf.call f ds).map (·.1)
      | Option.none => Option.none) := rfl
set_option autoImplicit true in
theorem ev_isi (cf : CF) (ρ : List (String × D)) : evE cf ρ (ME.isi a T) = (match evE cf ρ a with
      | some x => (isiD x T).map .bool
      | Option.none => Option.none) := rfl
set_option autoImplicit true in
theorem ev_blt (cf : CF) (ρ : List (String × D)) : evE cf ρ (ME.blt f args) = (match evEs cf ρ args with
      | some ds => bltD f ds
      | Option.none => Option.none) := rfl
set_option autoImplicit true in
theorem ev_lcp (cf : CF) (ρ : List (String × D)) : evE cf ρ (ME.lcp a) = (match evE cf ρ a with
      | some x => (lstD x).map .list
      | Option.none => Option.none) := rfl
set_option autoImplicit true in
theorem evs_nil (cf : CF) (ρ : List (String × D)) : evEs cf ρ ([]) = (some []) := rfl
set_option autoImplicit true in
theorem evs_cons (cf : CF) (ρ : List (String × D)) : evEs cf ρ (e :: r) = (match evE cf ρ e with
      | some d => (match evEs cf ρ r with | some ds => some (d :: ds) | Option.none => Option.none)
      | Option.none => Option.none) := rfl
set_option autoImplicit true in
theorem evc_nil (cf : CF) (ρ : List (String × D)) : evCs cf ρ ([]) = (some true) := rfl
set_option autoImplicit true in
theorem evc_cons (cf : CF) (ρ : List (String × D)) : evCs cf ρ (e :: r) = (match evE cf ρ e with
      | some d => (match truth d with
        | some t => if t then evCs cf ρ r else some false
        | Option.none => Option.none)
      | Option.none => Option.none) := rfl
set_option autoImplicit true in
theorem xs_assign (cf : CF) (σ : St) : exS cf (MS.assign x e) σ = (match evF cf (vis σ) e with
      | some (d, fr) => some (.next, setv (settle d e.names σ) x (fr, d))
      | Option.none => Option.none) := rfl
set_option autoImplicit true in
theorem xs_append (cf : CF) (σ : St) : exS cf (MS.append x e) σ = (match evE cf (vis σ) e with
      | some d => (match (settle d e.names σ).lookup x with
        | some (true, .list ds) => if ds.length < big then some (.next, setv (settle d e.names σ) x (true, .list (ds ++ [d]))) else Option.none
        | _ => Option.none)
      | Option.none => Option.none) := rfl
set_option autoImplicit true in
theorem xs_setk (cf : CF) (σ : St) : exS cf (MS.setk x k e) σ = (match evE cf (vis σ) e with
      | some d => (match evE cf (vis σ) k with
        | some dk => (match (settle dk k.names (settle d e.names σ)).lookup x with
          | some (true, .dict ks vs) => if keyOk dk ks && decide (ks.length < big) then some (.next, setv (settle dk k.names (settle d e.names σ)) x (true, .dict (dput ks vs dk d).1 (dput ks vs dk d).2)) else Option.none
          | _ => Option.none)
        | Option.none => Option.none)
      | Option.none => Option.none) := rfl
set_option autoImplicit true in
theorem xs_ite (cf : CF) (σ : St) : exS cf (MS.ite c t f) σ = (match evE cf (vis σ) c with
      | some d => (match truth d with
        | some true => exSs cf t σ
        | some false => exSs cf f σ
        | Option.none => Option.none)
      | Option.none => Option.none) := rfl
set_option autoImplicit true in
theorem xs_for_ (cf : CF) (σ : St) : exS cf (MS.for_ x src body) σ = (match evE cf (vis σ) src with
      | some d => (match d.items with
        | some its => forD (fun it σ => exSs cf body (setv σ x (false, it))) its (freeze src.names σ)
        | Option.none => Option.none)
      | Option.none => Option.none) := rfl
set_option autoImplicit true in
theorem xs_ret (cf : CF) (σ : St) : exS cf (MS.ret e) σ = (match e with
      | .var x => (match σ.lookup x with | some (fr, d) => some (.ret fr d, σ) | Option.none => Option.none)
      | e => (match evF cf (vis σ) e with
        | some (d, fr) => some (.ret fr d, σ)
        | Option.none => Option.none)) := rfl
set_option autoImplicit true in
theorem xs_bad (cf : CF) (σ : St) : exS cf (MS.bad) σ = (Option.none) := rfl
set_option autoImplicit true in
theorem xss_nil (cf : CF) (σ : St) : exSs cf ([]) σ = (some (.next, σ)) := rfl
set_option autoImplicit true in
theorem xss_cons (cf : CF) (σ : St) : exSs cf (st :: r) σ = (match exS cf st σ with
      | some (.next, σ') => exSs cf r σ'
      | x => x) := rfl
theorem nms_nil : namesL [] = [] := rfl
theorem nms_cons (e : ME) (r : List ME) : namesL (e :: r) = e.names ++ namesL r := rfl
theorem nm_var (x : String) : (ME.var x).names = [x] := rfl
theorem ev_sset (cf : CF) (ρ : List (String × D)) (a : ME) : evE cf ρ (ME.sset a) = (match evE cf ρ a with | some x => ssetD x | Option.none => Option.none) := rfl
theorem nm_lcp (a : ME) : (ME.lcp a).names = a.names := rfl
end Mine
namespace Mine
open PySem

noncomputable abbrev KD := Str → Option NameKind
noncomputable def isVar (k : KD) (x : Str) : Bool := (k x == some .local || k x == some .cell || k x == some .free) && x != Str.ofString "__debug__" && x != Str.ofString "__classdict__" && x != Str.ofString ".0"
noncomputable def isGlob (k : KD) (x : Str) : Bool := k x == some .globalImplicit && x != Str.ofString "__debug__"
noncomputable def kindC (k : KD) (scope : Scope) : KD := fun x => (scope.names.map fun p => if p.2 == .free && k p.1 == some .cell then (p.1, NameKind.cell) else p).lookup x
noncomputable def notSet : Expr → Bool
  | .Set .. => false
  | _ => true
noncomputable def okScope (k : KD) (scope : Scope) (x : Str) : Bool :=
  scope.kind == .function && decide (scope.names.map (·.1)).Nodup && (scope.names.lookup x == some .local || scope.names.lookup x == some .cell) &&
  scope.names.all (fun p => p.2 != .free || k p.1 == some .cell || k p.1 == some .free) && scope.names.all (fun p => p.2 == .free || p.2 == .globalImplicit || p.1 == x || p.1 == Str.ofString ".0")

noncomputable def ME.isNone : ME → Bool
  | .none => true
  | _ => false

noncomputable def notSlice : Expr → Bool
  | .Slice .. => false
  | _ => true
theorem dite_inv {c : Prop} [Decidable c] {f : c → Bool} (h : dite c f (fun _ => false) = true) : ∃ hc, f hc = true := by
  by_cases hc : c
  · rw [dif_pos hc] at h; exact ⟨hc, h⟩
  · rw [dif_neg hc] at h; cases h
noncomputable def c1 {α : Type} (l : List α) (f : α → Bool) : Bool := match l with | [x] => f x | _ => false
theorem c1_inv {α : Type} {l : List α} {f : α → Bool} (h : c1 l f = true) : ∃ x, l = [x] ∧ f x = true := by
  match l, h with
  | [x], h => exact ⟨x, rfl, h⟩
noncomputable def c2 {α : Type} (l : List α) (f : α → α → Bool) : Bool := match l with | [x, y] => f x y | _ => false
theorem c2_inv {α : Type} {l : List α} {f : α → α → Bool} (h : c2 l f = true) : ∃ x y, l = [x, y] ∧ f x y = true := by
  match l, h with
  | [x, y], h => exact ⟨x, y, rfl, h⟩
noncomputable def cOpt {α : Type} (l : Option α) (f : α → Bool) : Bool := match l with | some x => f x | none => false
theorem cOpt_inv {α : Type} {l : Option α} {f : α → Bool} (h : cOpt l f = true) : ∃ x, l = some x ∧ f x = true := by
  cases l with
  | none => cases h
  | some x => exact ⟨x, rfl, h⟩
noncomputable def cName (e : Expr) (f : Str → Pos → Bool) : Bool := dite (e.ctorIdx = 23) (fun h => Expr.Name.elim (motive_1 := fun _ => Bool) e h f) (fun _ => false)
theorem cName_inv {e : Expr} {f : Str → Pos → Bool} (h : cName e f = true) : ∃ (y : Str) (p : Pos), e = .Name y p ∧ f y p = true :=
  (dite_inv h).elim fun hc h => Expr.Name.elim (motive_1 := fun e => ∀ hc, Expr.Name.elim (motive_1 := fun _ => Bool) e hc f = true → ∃ (y : Str) (p : Pos), e = .Name y p ∧ f y p = true) e hc (fun v0 v1 _ h => ⟨v0, v1, rfl, h⟩) hc h
noncomputable def cConst (e : Expr) (f : Const → Nat → Pos → Bool) : Bool := dite (e.ctorIdx = 19) (fun h => Expr.Constant.elim (motive_1 := fun _ => Bool) e h f) (fun _ => false)
theorem cConst_inv {e : Expr} {f : Const → Nat → Pos → Bool} (h : cConst e f = true) : ∃ (c : Const) (n : Nat) (p : Pos), e = .Constant c n p ∧ f c n p = true :=
  (dite_inv h).elim fun hc h => Expr.Constant.elim (motive_1 := fun e => ∀ hc, Expr.Constant.elim (motive_1 := fun _ => Bool) e hc f = true → ∃ (c : Const) (n : Nat) (p : Pos), e = .Constant c n p ∧ f c n p = true) e hc (fun v0 v1 v2 _ h => ⟨v0, v1, v2, rfl, h⟩) hc h
noncomputable def cBin (e : Expr) (f : Expr → Operator → Expr → Pos → Bool) : Bool := dite (e.ctorIdx = 2) (fun h => Expr.BinOp.elim (motive_1 := fun _ => Bool) e h f) (fun _ => false)
theorem cBin_inv {e : Expr} {f : Expr → Operator → Expr → Pos → Bool} (h : cBin e f = true) : ∃ (l : Expr) (o : Operator) (r : Expr) (p : Pos), e = .BinOp l o r p ∧ f l o r p = true :=
  (dite_inv h).elim fun hc h => Expr.BinOp.elim (motive_1 := fun e => ∀ hc, Expr.BinOp.elim (motive_1 := fun _ => Bool) e hc f = true → ∃ (l : Expr) (o : Operator) (r : Expr) (p : Pos), e = .BinOp l o r p ∧ f l o r p = true) e hc (fun v0 v1 v2 v3 _ h => ⟨v0, v1, v2, v3, rfl, h⟩) hc h
noncomputable def cBool (e : Expr) (f : BoolOp → List Expr → Pos → Bool) : Bool := dite (e.ctorIdx = 0) (fun h => Expr.BoolOp.elim (motive_1 := fun _ => Bool) e h f) (fun _ => false)
theorem cBool_inv {e : Expr} {f : BoolOp → List Expr → Pos → Bool} (h : cBool e f = true) : ∃ (o : BoolOp) (vs : List Expr) (p : Pos), e = .BoolOp o vs p ∧ f o vs p = true :=
  (dite_inv h).elim fun hc h => Expr.BoolOp.elim (motive_1 := fun e => ∀ hc, Expr.BoolOp.elim (motive_1 := fun _ => Bool) e hc f = true → ∃ (o : BoolOp) (vs : List Expr) (p : Pos), e = .BoolOp o vs p ∧ f o vs p = true) e hc (fun v0 v1 v2 _ h => ⟨v0, v1, v2, rfl, h⟩) hc h
noncomputable def cUn (e : Expr) (f : UnaryOp → Expr → Pos → Bool) : Bool := dite (e.ctorIdx = 3) (fun h => Expr.UnaryOp.elim (motive_1 := fun _ => Bool) e h f) (fun _ => false)
theorem cUn_inv {e : Expr} {f : UnaryOp → Expr → Pos → Bool} (h : cUn e f = true) : ∃ (o : UnaryOp) (x : Expr) (p : Pos), e = .UnaryOp o x p ∧ f o x p = true :=
  (dite_inv h).elim fun hc h => Expr.UnaryOp.elim (motive_1 := fun e => ∀ hc, Expr.UnaryOp.elim (motive_1 := fun _ => Bool) e hc f = true → ∃ (o : UnaryOp) (x : Expr) (p : Pos), e = .UnaryOp o x p ∧ f o x p = true) e hc (fun v0 v1 v2 _ h => ⟨v0, v1, v2, rfl, h⟩) hc h
noncomputable def cTup (e : Expr) (f : List Expr → Nat → Pos → Bool) : Bool := dite (e.ctorIdx = 25) (fun h => Expr.Tuple.elim (motive_1 := fun _ => Bool) e h f) (fun _ => false)
theorem cTup_inv {e : Expr} {f : List Expr → Nat → Pos → Bool} (h : cTup e f = true) : ∃ (vs : List Expr) (n : Nat) (p : Pos), e = .Tuple vs n p ∧ f vs n p = true :=
  (dite_inv h).elim fun hc h => Expr.Tuple.elim (motive_1 := fun e => ∀ hc, Expr.Tuple.elim (motive_1 := fun _ => Bool) e hc f = true → ∃ (vs : List Expr) (n : Nat) (p : Pos), e = .Tuple vs n p ∧ f vs n p = true) e hc (fun v0 v1 v2 _ h => ⟨v0, v1, v2, rfl, h⟩) hc h
noncomputable def cLst (e : Expr) (f : List Expr → Pos → Bool) : Bool := dite (e.ctorIdx = 24) (fun h => Expr.List.elim (motive_1 := fun _ => Bool) e h f) (fun _ => false)
theorem cLst_inv {e : Expr} {f : List Expr → Pos → Bool} (h : cLst e f = true) : ∃ (vs : List Expr) (p : Pos), e = .List vs p ∧ f vs p = true :=
  (dite_inv h).elim fun hc h => Expr.List.elim (motive_1 := fun e => ∀ hc, Expr.List.elim (motive_1 := fun _ => Bool) e hc f = true → ∃ (vs : List Expr) (p : Pos), e = .List vs p ∧ f vs p = true) e hc (fun v0 v1 _ h => ⟨v0, v1, rfl, h⟩) hc h
noncomputable def cSub (e : Expr) (f : Expr → Expr → Pos → Bool) : Bool := dite (e.ctorIdx = 21) (fun h => Expr.Subscript.elim (motive_1 := fun _ => Bool) e h f) (fun _ => false)
theorem cSub_inv {e : Expr} {f : Expr → Expr → Pos → Bool} (h : cSub e f = true) : ∃ (v : Expr) (s : Expr) (p : Pos), e = .Subscript v s p ∧ f v s p = true :=
  (dite_inv h).elim fun hc h => Expr.Subscript.elim (motive_1 := fun e => ∀ hc, Expr.Subscript.elim (motive_1 := fun _ => Bool) e hc f = true → ∃ (v : Expr) (s : Expr) (p : Pos), e = .Subscript v s p ∧ f v s p = true) e hc (fun v0 v1 v2 _ h => ⟨v0, v1, v2, rfl, h⟩) hc h
noncomputable def cSlice (e : Expr) (f : Option Expr → Option Expr → Option Expr → Pos → Bool) : Bool := dite (e.ctorIdx = 26) (fun h => Expr.Slice.elim (motive_1 := fun _ => Bool) e h f) (fun _ => false)
theorem cSlice_inv {e : Expr} {f : Option Expr → Option Expr → Option Expr → Pos → Bool} (h : cSlice e f = true) : ∃ (l : Option Expr) (u : Option Expr) (t : Option Expr) (p : Pos), e = .Slice l u t p ∧ f l u t p = true :=
  (dite_inv h).elim fun hc h => Expr.Slice.elim (motive_1 := fun e => ∀ hc, Expr.Slice.elim (motive_1 := fun _ => Bool) e hc f = true → ∃ (l : Option Expr) (u : Option Expr) (t : Option Expr) (p : Pos), e = .Slice l u t p ∧ f l u t p = true) e hc (fun v0 v1 v2 v3 _ h => ⟨v0, v1, v2, v3, rfl, h⟩) hc h
noncomputable def cCmp (e : Expr) (f : Expr → List CmpOp → List Expr → Pos → Bool) : Bool := dite (e.ctorIdx = 15) (fun h => Expr.Compare.elim (motive_1 := fun _ => Bool) e h f) (fun _ => false)
theorem cCmp_inv {e : Expr} {f : Expr → List CmpOp → List Expr → Pos → Bool} (h : cCmp e f = true) : ∃ (l : Expr) (os : List CmpOp) (rs : List Expr) (p : Pos), e = .Compare l os rs p ∧ f l os rs p = true :=
  (dite_inv h).elim fun hc h => Expr.Compare.elim (motive_1 := fun e => ∀ hc, Expr.Compare.elim (motive_1 := fun _ => Bool) e hc f = true → ∃ (l : Expr) (os : List CmpOp) (rs : List Expr) (p : Pos), e = .Compare l os rs p ∧ f l os rs p = true) e hc (fun v0 v1 v2 v3 _ h => ⟨v0, v1, v2, v3, rfl, h⟩) hc h
noncomputable def cCall (e : Expr) (f : Expr → List Expr → List Keyword → Pos → Bool) : Bool := dite (e.ctorIdx = 16) (fun h => Expr.Call.elim (motive_1 := fun _ => Bool) e h f) (fun _ => false)
theorem cCall_inv {e : Expr} {f : Expr → List Expr → List Keyword → Pos → Bool} (h : cCall e f = true) : ∃ (g : Expr) (as : List Expr) (ks : List Keyword) (p : Pos), e = .Call g as ks p ∧ f g as ks p = true :=
  (dite_inv h).elim fun hc h => Expr.Call.elim (motive_1 := fun e => ∀ hc, Expr.Call.elim (motive_1 := fun _ => Bool) e hc f = true → ∃ (g : Expr) (as : List Expr) (ks : List Keyword) (p : Pos), e = .Call g as ks p ∧ f g as ks p = true) e hc (fun v0 v1 v2 v3 _ h => ⟨v0, v1, v2, v3, rfl, h⟩) hc h
noncomputable def cLC (e : Expr) (f : Expr → List Comprehension → Scope → Pos → Bool) : Bool := dite (e.ctorIdx = 8) (fun h => Expr.ListComp.elim (motive_1 := fun _ => Bool) e h f) (fun _ => false)
theorem cLC_inv {e : Expr} {f : Expr → List Comprehension → Scope → Pos → Bool} (h : cLC e f = true) : ∃ (t : Expr) (gs : List Comprehension) (sc : Scope) (p : Pos), e = .ListComp t gs sc p ∧ f t gs sc p = true :=
  (dite_inv h).elim fun hc h => Expr.ListComp.elim (motive_1 := fun e => ∀ hc, Expr.ListComp.elim (motive_1 := fun _ => Bool) e hc f = true → ∃ (t : Expr) (gs : List Comprehension) (sc : Scope) (p : Pos), e = .ListComp t gs sc p ∧ f t gs sc p = true) e hc (fun v0 v1 v2 v3 _ h => ⟨v0, v1, v2, v3, rfl, h⟩) hc h
noncomputable def cDict (e : Expr) (f : List (Option Expr) → List Expr → Pos → Bool) : Bool := dite (e.ctorIdx = 6) (fun h => Expr.Dict.elim (motive_1 := fun _ => Bool) e h f) (fun _ => false)
theorem cDict_inv {e : Expr} {f : List (Option Expr) → List Expr → Pos → Bool} (h : cDict e f = true) : ∃ (ks : List (Option Expr)) (vs : List Expr) (p : Pos), e = .Dict ks vs p ∧ f ks vs p = true :=
  (dite_inv h).elim fun hc h => Expr.Dict.elim (motive_1 := fun e => ∀ hc, Expr.Dict.elim (motive_1 := fun _ => Bool) e hc f = true → ∃ (ks : List (Option Expr)) (vs : List Expr) (p : Pos), e = .Dict ks vs p ∧ f ks vs p = true) e hc (fun v0 v1 v2 _ h => ⟨v0, v1, v2, rfl, h⟩) hc h
noncomputable def cAttr (e : Expr) (f : Expr → Str → Pos → Bool) : Bool := dite (e.ctorIdx = 20) (fun h => Expr.Attribute.elim (motive_1 := fun _ => Bool) e h f) (fun _ => false)
theorem cAttr_inv {e : Expr} {f : Expr → Str → Pos → Bool} (h : cAttr e f = true) : ∃ (x : Expr) (a : Str) (p : Pos), e = .Attribute x a p ∧ f x a p = true :=
  (dite_inv h).elim fun hc h => Expr.Attribute.elim (motive_1 := fun e => ∀ hc, Expr.Attribute.elim (motive_1 := fun _ => Bool) e hc f = true → ∃ (x : Expr) (a : Str) (p : Pos), e = .Attribute x a p ∧ f x a p = true) e hc (fun v0 v1 v2 _ h => ⟨v0, v1, v2, rfl, h⟩) hc h
mutual
noncomputable def chkE (k : KD) (e : Expr) (me : ME) : Bool := match me with
  | .var x => cName e fun y _ => y == Str.ofString x && isVar k y
  | .glob x => cName e fun y _ => y == Str.ofString x && isGlob k y
  | .int i => cConst e fun c _ _ => c == .int i
  | .str s => cConst e fun c _ _ => c == .str (Str.ofString s)
  | .bool b => cConst e fun c _ _ => c == .bool b
  | .none => cConst e fun c _ _ => c == .none
  | .bin op a b => cBin e fun l op' r _ => op == op' && chkE k l a && chkE k r b
  | .cmp op a b => cCmp e fun l os rs _ => os == [op] && c1 rs fun r => notSet r && chkE k l a && chkE k r b
  | .bop op es => cBool e fun op' vs _ => op == op' && chkEs k vs es
  | .not a => cUn e fun o x _ => o == .Not && chkE k x a
  | .neg a => cUn e fun o x _ => o == .USub && chkE k x a
  | .tup es => cTup e fun vs _ _ => chkEs k vs es
  | .lst es => cLst e fun vs _ => chkEs k vs es
  | .dct ks vs => cDict e fun kes ves _ => kes.all Option.isSome && chkEs k (kes.filterMap id) ks && chkEs k ves vs
  | .sub a i => cSub e fun v s _ => notSlice s && chkE k v a && chkE k s i
  | .sl a lo hi => cSub e fun v s _ => cSlice s fun l u t _ => t.isNone && chkE k v a && (match l with | Option.none => lo.isNone | some x => chkE k x lo) && (match u with | Option.none => hi.isNone | some x => chkE k x hi)
  | .comp elt x src cs => cLC e fun t gs scope _ => c1 gs fun g => g.is_async == 0 && cName g.target fun y _ => y == Str.ofString x && notSet g.iter && okScope k scope y && chkE k g.iter src && chkE (kindC k scope) t elt && chkEs (kindC k scope) g.ifs cs
  | .call f args => cCall e fun g as ks _ => ks.isEmpty && cName g fun g _ => g == Str.ofString f && isGlob k g && chkEs k as args
  | .isi a T => cCall e fun g as ks _ => ks.isEmpty && c2 as fun x t => cName g fun g _ => cName t fun t _ => g == Str.ofString "isinstance" && isGlob k g && t == Str.ofString T && isGlob k t && chkE k x a
  | .blt f args => cCall e fun g as ks _ => ks.isEmpty && cName g fun g _ => g == Str.ofString f && isGlob k g && chkEs k as args
  | .sset a => cCall e fun g as ks _ => ks.isEmpty && cName g fun g _ => g == Str.ofString "sorted" && isGlob k g && c1 as fun x => cCall x fun g as ks _ => ks.isEmpty && cName g fun g _ => g == Str.ofString "set" && isGlob k g && c1 as fun x => chkE k x a
  | .lcp a => cCall e fun g as ks _ => ks.isEmpty && cName g fun g _ => g == Str.ofString "list" && isGlob k g && c1 as fun x => chkE k x a
termination_by structural me
noncomputable def chkEs (k : KD) (es : List Expr) (ms : List ME) : Bool := match ms with
  | [] => es.isEmpty
  | a :: r => (match es with | e :: es' => chkE k e a && chkEs k es' r | [] => false)
termination_by structural ms
end

theorem cs_nil (k : KD) (es : List Expr) : chkEs k es [] = es.isEmpty := rfl
theorem cs_cons (k : KD) (e : Expr) (es : List Expr) (a : ME) (r : List ME) : chkEs k (e :: es) (a :: r) = (chkE k e a && chkEs k es r) := rfl
theorem cs_consn (k : KD) (a : ME) (r : List ME) : chkEs k [] (a :: r) = false := rfl

noncomputable def shapeE : Expr → Nat
  | .Name .. => 1
  | .Constant .. => 2
  | .BinOp .. => 3
  | .Compare .. => 4
  | .BoolOp .. => 5
  | .UnaryOp .. => 6
  | .Tuple .. => 7
  | .List .. => 8
  | .Subscript .. => 9
  | .ListComp .. => 10
  | .Call .. => 11
  | .Dict .. => 12
  | _ => 0
noncomputable def shapeM : ME → Nat
  | .var _ | .glob _ => 1
  | .int _ | .str _ | .bool _ | .none => 2
  | .bin _ _ _ => 3
  | .cmp _ _ _ => 4
  | .bop _ _ => 5
  | .not _ | .neg _ => 6
  | .tup _ => 7
  | .lst _ => 8
  | .sub _ _ | .sl _ _ _ => 9
  | .comp _ _ _ _ => 10
  | .call _ _ | .isi _ _ | .blt _ _ | .lcp _ => 11
  | .sset _ => 11
  | .dct _ _ => 12
section
variable {k : KD} {e : Expr}
theorem inv_var {x : String} (h : chkE k e (.var x) = true) : ∃ y p, e = .Name y p ∧ (y == Str.ofString x && isVar k y) = true := by
  exact cName_inv h
theorem inv_glob {x : String} (h : chkE k e (.glob x) = true) : ∃ y p, e = .Name y p ∧ (y == Str.ofString x && isGlob k y) = true := by
  exact cName_inv h
theorem inv_int {i : Int} (h : chkE k e (.int i) = true) : ∃ n p, e = .Constant (.int i) n p := by
  replace h := cConst_inv h; obtain ⟨c, n, p, rfl, h⟩ := h; exact ⟨n, p, by rw [eq_of_beq h]⟩
theorem inv_str {i : String} (h : chkE k e (.str i) = true) : ∃ n p, e = .Constant (.str (Str.ofString i)) n p := by
  replace h := cConst_inv h; obtain ⟨c, n, p, rfl, h⟩ := h; exact ⟨n, p, by rw [eq_of_beq h]⟩
theorem inv_bool {i : Bool} (h : chkE k e (.bool i) = true) : ∃ n p, e = .Constant (.bool i) n p := by
  replace h := cConst_inv h; obtain ⟨c, n, p, rfl, h⟩ := h; exact ⟨n, p, by rw [eq_of_beq h]⟩
theorem inv_none (h : chkE k e .none = true) : ∃ n p, e = .Constant .none n p := by
  replace h := cConst_inv h; obtain ⟨c, n, p, rfl, h⟩ := h; exact ⟨n, p, by rw [eq_of_beq h]⟩
theorem inv_bin {op : Operator} {a b : ME} (h : chkE k e (.bin op a b) = true) : ∃ l op' r p, e = .BinOp l op' r p ∧ (op == op' && chkE k l a && chkE k r b) = true := by
  exact cBin_inv h
theorem inv_cmp {op : CmpOp} {a b : ME} (h : chkE k e (.cmp op a b) = true) : ∃ l r p, e = .Compare l [op] [r] p ∧ (notSet r && chkE k l a && chkE k r b) = true := by
  replace h := cCmp_inv h; obtain ⟨l, os, rs, p, rfl, h⟩ := h
  rw [Bool.and_eq_true] at h
  obtain ⟨h1, h⟩ := h
  replace h := c1_inv h; obtain ⟨r, rfl, h⟩ := h
  exact ⟨l, r, p, by rw [eq_of_beq h1], h⟩
theorem inv_bop {op : BoolOp} {es : List ME} (h : chkE k e (.bop op es) = true) : ∃ op' vs p, e = .BoolOp op' vs p ∧ (op == op' && chkEs k vs es) = true := by
  exact cBool_inv h
theorem inv_not {a : ME} (h : chkE k e (.not a) = true) : ∃ x p, e = .UnaryOp .Not x p ∧ chkE k x a = true := by
  replace h := cUn_inv h; obtain ⟨o, x, p, rfl, h⟩ := h
  rw [Bool.and_eq_true] at h
  exact ⟨x, p, by rw [eq_of_beq h.1], h.2⟩
theorem inv_neg {a : ME} (h : chkE k e (.neg a) = true) : ∃ x p, e = .UnaryOp .USub x p ∧ chkE k x a = true := by
  replace h := cUn_inv h; obtain ⟨o, x, p, rfl, h⟩ := h
  rw [Bool.and_eq_true] at h
  exact ⟨x, p, by rw [eq_of_beq h.1], h.2⟩
theorem inv_tup {es : List ME} (h : chkE k e (.tup es) = true) : ∃ vs n p, e = .Tuple vs n p ∧ chkEs k vs es = true := by
  exact cTup_inv h
theorem inv_lst {es : List ME} (h : chkE k e (.lst es) = true) : ∃ vs p, e = .List vs p ∧ chkEs k vs es = true := by
  exact cLst_inv h
theorem somes : ∀ {l : List (Option Expr)}, l.all Option.isSome = true → l = (l.filterMap id).map some
  | [], _ => rfl
  | none :: l, h => by simp at h
  | some x :: l, h => by simp at h; simp; exact somes (by simpa using h)
theorem inv_dct {ks vs : List ME} (h : chkE k e (.dct ks vs) = true) : ∃ kes ves p, e = .Dict (kes.map some) ves p ∧ chkEs k kes ks = true ∧ chkEs k ves vs = true := by
  replace h := cDict_inv h; obtain ⟨kes, ves, p, rfl, h⟩ := h
  rw [Bool.and_assoc, Bool.and_eq_true, Bool.and_eq_true] at h
  exact ⟨kes.filterMap id, ves, p, by rw [← somes h.1], h.2.1, h.2.2⟩
theorem notSlice_inv {s : Expr} (h : notSlice s = true) : ∀ a b c p, s = .Slice a b c p → False := by
  rintro a b c p rfl; cases h
theorem inv_sub {a i : ME} (h : chkE k e (.sub a i) = true) : ∃ v s p, e = .Subscript v s p ∧ (∀ a b c p, s = .Slice a b c p → False) ∧ (chkE k v a && chkE k s i) = true := by
  replace h := cSub_inv h; obtain ⟨v, s, p, rfl, h⟩ := h
  rw [Bool.and_assoc, Bool.and_eq_true] at h
  exact ⟨v, s, p, rfl, notSlice_inv h.1, h.2⟩
theorem inv_sl {a lo hi : ME} (h : chkE k e (.sl a lo hi) = true) : ∃ v l u p pos, e = .Subscript v (.Slice l u Option.none p) pos ∧ (chkE k v a && (match l with | Option.none => lo.isNone | some x => chkE k x lo) && (match u with | Option.none => hi.isNone | some x => chkE k x hi)) = true := by
  replace h := cSub_inv h; obtain ⟨v, s, p, rfl, h⟩ := h
  replace h := cSlice_inv h; obtain ⟨l, u, t, p, rfl, h⟩ := h
  rw [Bool.and_assoc, Bool.and_assoc, Bool.and_eq_true] at h
  exact ⟨v, l, u, p, _, by rw [Option.isNone_iff_eq_none.mp h.1], by rw [Bool.and_assoc]; exact h.2⟩
theorem inv_comp {elt src : ME} {x : String} {cs : List ME} (h : chkE k e (.comp elt x src cs) = true) : ∃ t y py it ifs scope lp, e = .ListComp t [⟨.Name y py, it, ifs, 0⟩] scope lp ∧ (y == Str.ofString x && notSet it && okScope k scope y && chkE k it src && chkE (kindC k scope) t elt && chkEs (kindC k scope) ifs cs) = true := by
  replace h := cLC_inv h; obtain ⟨t, gs, scope, p, rfl, h⟩ := h
  replace h := c1_inv h; obtain ⟨⟨tg, it, ifs, z⟩, rfl, h⟩ := h
  rw [Bool.and_eq_true] at h
  obtain ⟨h1, h⟩ := h
  obtain ⟨y, py, h2, h⟩ := cName_inv h
  have h1 : z = 0 := eq_of_beq h1
  have h2 : tg = _ := h2
  subst h1 h2
  exact ⟨t, y, py, it, ifs, scope, p, rfl, h⟩
theorem inv_call {f : String} {args : List ME} (h : chkE k e (.call f args) = true) : ∃ g gp as pos, e = .Call (.Name g gp) as [] pos ∧ (g == Str.ofString f && isGlob k g && chkEs k as args) = true := by
  replace h := cCall_inv h; obtain ⟨g, as, ks, p, rfl, h⟩ := h
  rw [Bool.and_eq_true] at h
  obtain ⟨h1, h⟩ := h
  replace h := cName_inv h; obtain ⟨y, py, rfl, h⟩ := h
  exact ⟨y, py, as, p, by rw [List.isEmpty_iff.mp h1], h⟩
theorem inv_blt {f : String} {args : List ME} (h : chkE k e (.blt f args) = true) : ∃ g gp as pos, e = .Call (.Name g gp) as [] pos ∧ (g == Str.ofString f && isGlob k g && chkEs k as args) = true := by
  exact inv_call h
theorem inv_lcp {a : ME} (h : chkE k e (.lcp a) = true) : ∃ g gp x pos, e = .Call (.Name g gp) [x] [] pos ∧ (g == Str.ofString "list" && isGlob k g) = true ∧ chkE k x a = true := by
  replace h := cCall_inv h; obtain ⟨g, as, ks, p, rfl, h⟩ := h
  rw [Bool.and_eq_true] at h
  obtain ⟨h1, h⟩ := h
  replace h := cName_inv h; obtain ⟨y, py, rfl, h⟩ := h
  rw [Bool.and_eq_true] at h
  obtain ⟨h2, h⟩ := h
  replace h := c1_inv h; obtain ⟨x, rfl, h⟩ := h
  exact ⟨y, py, x, p, by rw [List.isEmpty_iff.mp h1], h2, h⟩
theorem inv_sset {a : ME} (h : chkE k e (.sset a) = true) : ∃ g gp y gp2 x p pos, e = .Call (.Name g gp) [.Call (.Name y gp2) [x] [] p] [] pos ∧ (g == Str.ofString "sorted" && isGlob k g) = true ∧ (y == Str.ofString "set" && isGlob k y) = true ∧ chkE k x a = true := by
  replace h := cCall_inv h; obtain ⟨g, as, ks, p, rfl, h⟩ := h
  rw [Bool.and_eq_true] at h
  obtain ⟨h1, h⟩ := h
  replace h := cName_inv h; obtain ⟨y, py, rfl, h⟩ := h
  rw [Bool.and_eq_true] at h
  obtain ⟨h2, h⟩ := h
  replace h := c1_inv h; obtain ⟨x, rfl, h⟩ := h
  replace h := cCall_inv h; obtain ⟨g, as, ks', p', rfl, h⟩ := h
  rw [Bool.and_eq_true] at h
  obtain ⟨h3, h⟩ := h
  replace h := cName_inv h; obtain ⟨z, pz, rfl, h⟩ := h
  rw [Bool.and_eq_true] at h
  obtain ⟨h4, h⟩ := h
  replace h := c1_inv h; obtain ⟨x, rfl, h⟩ := h
  exact ⟨y, py, z, pz, x, p', p, by rw [List.isEmpty_iff.mp h1, List.isEmpty_iff.mp h3], h2, h4, h⟩
theorem inv_isi {a : ME} {T : String} (h : chkE k e (.isi a T) = true) : ∃ g gp x t tp pos, e = .Call (.Name g gp) [x, .Name t tp] [] pos ∧ (g == Str.ofString "isinstance" && isGlob k g && t == Str.ofString T && isGlob k t && chkE k x a) = true := by
  replace h := cCall_inv h; obtain ⟨g, as, ks, p, rfl, h⟩ := h
  rw [Bool.and_eq_true] at h
  obtain ⟨h1, h⟩ := h
  replace h := c2_inv h; obtain ⟨x, t, rfl, h⟩ := h
  replace h := cName_inv h; obtain ⟨y, py, rfl, h⟩ := h
  replace h := cName_inv h; obtain ⟨z, pz, rfl, h⟩ := h
  exact ⟨y, py, x, z, pz, p, by rw [List.isEmpty_iff.mp h1], h⟩
theorem chk_shape {me : ME} (h : chkE k e me = true) : shapeE e = shapeM me := by
  cases me with
  | var => obtain ⟨_, _, rfl, _⟩ := inv_var h; rfl
  | glob => obtain ⟨_, _, rfl, _⟩ := inv_glob h; rfl
  | int => replace h := inv_int h; obtain ⟨_, _, rfl⟩ := h; rfl
  | str => replace h := inv_str h; obtain ⟨_, _, rfl⟩ := h; rfl
  | bool => replace h := inv_bool h; obtain ⟨_, _, rfl⟩ := h; rfl
  | none => replace h := inv_none h; obtain ⟨_, _, rfl⟩ := h; rfl
  | bin => obtain ⟨_, _, _, _, rfl, _⟩ := inv_bin h; rfl
  | cmp => obtain ⟨_, _, _, rfl, _⟩ := inv_cmp h; rfl
  | bop => obtain ⟨_, _, _, rfl, _⟩ := inv_bop h; rfl
  | not => obtain ⟨_, _, rfl, _⟩ := inv_not h; rfl
  | neg => obtain ⟨_, _, rfl, _⟩ := inv_neg h; rfl
  | tup => obtain ⟨_, _, _, rfl, _⟩ := inv_tup h; rfl
  | lst => obtain ⟨_, _, rfl, _⟩ := inv_lst h; rfl
  | dct => obtain ⟨_, _, _, rfl, _⟩ := inv_dct h; rfl
  | sub => obtain ⟨_, _, _, rfl, _⟩ := inv_sub h; rfl
  | sl => obtain ⟨_, _, _, _, _, rfl, _⟩ := inv_sl h; rfl
  | comp => obtain ⟨_, _, _, _, _, _, _, rfl, _⟩ := inv_comp h; rfl
  | call => obtain ⟨_, _, _, _, rfl, _⟩ := inv_call h; rfl
  | blt => obtain ⟨_, _, _, _, rfl, _⟩ := inv_blt h; rfl
  | isi => obtain ⟨_, _, _, _, _, _, rfl, _⟩ := inv_isi h; rfl
  | lcp => obtain ⟨_, _, _, _, rfl, _⟩ := inv_lcp h; rfl
  | sset => obtain ⟨_, _, _, _, _, _, _, rfl, _⟩ := inv_sset h; rfl
end
end Mine
namespace Mine
open PySem

noncomputable def Ex (h : Heap) (H : Addr → Prop) : Prop := ∀ a, H a → ∃ b o, @LE.le Nat _ a b ∧ h.get? b = some o
theorem Ex.fresh {h : Heap} {H : Addr → Prop} (x : Ex h H) : ¬ H h.objs.size := fun e => by
  obtain ⟨b, o, hb, ho⟩ := x _ e
  exact Nat.lt_irrefl _ (Nat.lt_of_le_of_lt hb (Heap.lt_size ho))
theorem Ex.keeps {h h' : Heap} {H : Addr → Prop} (x : Ex h H) (hk : ∀ a o, h.get? a = some o → h'.get? a = some o) : Ex h' H := fun a e => by
  obtain ⟨b, o, hb, ho⟩ := x _ e
  exact ⟨b, o, hb, hk _ _ ho⟩

/-- but for new objects, tokens and draws all is as it was -/
noncomputable def Keeps (s s' : Shared) : Prop := ∃ h' tk dr, s' = { s with heap := h', toks := tk, drawn := dr } ∧ ∀ b o, s.heap.get? b = some o → h'.get? b = some o
theorem Kp.refl (s : Shared) : Keeps s s := ⟨s.heap, s.toks, s.drawn, rfl, fun _ _ e => e⟩
theorem Kp.tok (s : Shared) (t : Nat) : Keeps s { s with toks := t } := ⟨s.heap, t, s.drawn, rfl, fun _ _ e => e⟩
theorem Kp.push (s : Shared) (o : Obj) : Keeps s { s with heap := s.heap.push o } := ⟨_, s.toks, s.drawn, rfl, fun _ _ e => Heap.get?_push_of_some _ e⟩
theorem Kp.trans {s s' s'' : Shared} (a : Keeps s s') (b : Keeps s' s'') : Keeps s s'' := by
  obtain ⟨h', t', d', rfl, k'⟩ := a
  obtain ⟨h'', t'', d'', rfl, k''⟩ := b
  exact ⟨h'', t'', d'', rfl, fun x o e => k'' x o (k' x o e)⟩
theorem Kp.heap {s s' : Shared} (a : Keeps s s') : ∀ b o, s.heap.get? b = some o → s'.heap.get? b = some o := by
  obtain ⟨h', t', d', rfl, k'⟩ := a
  exact k'

/-- what an expression's run leaves -/
noncomputable def Post (w : World) (s : Shared) (H : Addr → Prop) (d : D) (v : Value) (s' : Shared) : Prop := Keeps s s' ∧ Rep w.params s'.heap H v d

/-- the list at a, its items outside of H and of a itself -/
noncomputable def OwnL (P : Params) (h : Heap) (H : Addr → Prop) (a : Addr) (ds : List D) : Prop :=
  ∃ vs n, h.get? a = some (lstO vs n) ∧ ds.length ≤ big ∧ RepAll P h (fun b => H b ∨ b = a) vs.toList ds
theorem OwnL.rep {P : Params} {h : Heap} {H : Addr → Prop} {a : Addr} {ds : List D} (o : OwnL P h H a ds) (hn : ¬ H a) : Rep P h H (.ref a) (.list ds) := by
  obtain ⟨vs, n, h1, h2, h3⟩ := o
  exact .list h1 hn h2 (h3.mono (fun _ _ _ e => e) fun _ _ _ q => .inl q)

/-- the dict at a, its keys and values outside of H and of a itself -/
noncomputable def OwnM (P : Params) (h : Heap) (H : Addr → Prop) (a : Addr) (ks vs : List D) : Prop :=
  ∃ es n, h.get? a = some (dicO es n) ∧ ks.length ≤ big ∧ RepAll P h (fun b => H b ∨ b = a) (es.toList.map (·.key)) ks ∧ RepAll P h (fun b => H b ∨ b = a) (es.toList.map (·.val)) vs ∧ es.toList.map (·.hash) = ks.map (hashK P) ∧ ks.all D.isKey = true ∧ ks.Nodup ∧ (a == sysModules) = false
/-- a new list or dict that nothing else holds -/
noncomputable def OwnD (P : Params) (h : Heap) (H : Addr → Prop) (a : Addr) : D → Prop
  | .list ds => OwnL P h H a ds
  | .dict ks vs => OwnM P h H a ks vs
  | _ => False
theorem OwnD.rep {P : Params} {h : Heap} {H : Addr → Prop} {a : Addr} {d : D} (o : OwnD P h H a d) (hn : ¬ H a) : Rep P h H (.ref a) d := by
  cases d <;> first | exact OwnL.rep o hn | exact False.elim o | skip
  obtain ⟨es, n, h1, h2, h3, h4, h5, h6, h7, h8⟩ := o
  exact .dict h1 hn h2 (h3.mono (fun _ _ _ e => e) fun _ _ _ q => .inl q) (h4.mono (fun _ _ _ e => e) fun _ _ _ q => .inl q) h5 h6 h7 h8
theorem OwnD.ex {P : Params} {h : Heap} {H : Addr → Prop} {a : Addr} {d : D} (o : OwnD P h H a d) : ∃ o, h.get? a = some o := by
  cases d <;> first | exact False.elim o | (obtain ⟨_, _, e, _⟩ := o; exact ⟨_, e⟩)
theorem OwnD.scalar {P : Params} {h : Heap} {H : Addr → Prop} {a : Addr} {d : D} (o : OwnD P h H a d) : d.scalar = false := by
  cases d <;> first | rfl | exact False.elim o
noncomputable def Fresh (w : World) (s s' : Shared) (H : Addr → Prop) (v : Value) (d : D) : Prop := ∃ a, v = .ref a ∧ s.heap.get? a = none ∧ OwnD w.params s'.heap H a d
noncomputable def PostF (w : World) (s : Shared) (H : Addr → Prop) (d : D) (fr : Bool) (v : Value) (s' : Shared) : Prop := Keeps s s' ∧ Rep w.params s'.heap H v d ∧ (fr = true → Fresh w s s' H v d)

theorem PostF.after {w : World} {s s₁ s₂ : Shared} {H : Addr → Prop} {d : D} {fr : Bool} {v : Value} (k : Keeps s s₁) (q : PostF w s₁ H d fr v s₂) : PostF w s H d fr v s₂ := by
  refine ⟨Kp.trans k q.1, q.2.1, fun e => ?_⟩
  obtain ⟨a, h1, h2, h3⟩ := q.2.2 e
  refine ⟨a, h1, ?_, h3⟩
  cases e : s.heap.get? a with
  | none => rfl
  | some o => rw [Kp.heap k a o e] at h2; cases h2
theorem Post.plain {w : World} {s s₂ : Shared} {H : Addr → Prop} {d : D} {v : Value} (q : Post w s H d v s₂) (h : d.isList = false) : PostF w s H d d.isList v s₂ :=
  ⟨q.1, q.2, fun e => by rw [h] at e; cases e⟩
section
variable {prog : Program} {w : World} {A : Around} {E : Value → Shared → Prop} {s : Shared} {H : Addr → Prop}

theorem bits_le {a : Int} (h : -lim < a ∧ a < lim) : Builtin.Int.intBits a ≤ 64 := by
  unfold Builtin.Int.intBits
  split
  · omega
  · have h2 : a.natAbs < 2 ^ 64 := by unfold lim at h; omega
    have h3 : a.natAbs ≠ 0 := by intro e; rename_i hh; apply hh; simp; omega
    have := (Nat.log2_lt h3).mpr h2
    omega
theorem bits_le1000 {a : Int} (h : -powLim < a ∧ a < powLim) : Builtin.Int.intBits a ≤ 1000 := by
  unfold powLim at h
  unfold Builtin.Int.intBits
  split
  · omega
  · rename_i hh
    have h3 : a.natAbs ≠ 0 := by intro e; apply hh; simp; omega
    have h2 : a.natAbs < 2 ^ 1000 := by
      have e : ((2 ^ 1000 : Nat) : Int) = (2 : Int) ^ 1000 := by exact Int.natCast_pow 2 1000
      generalize (2 : Int) ^ 1000 = p at h e
      omega
    have := (Nat.log2_lt h3).mpr h2
    omega

theorem rep_newTup {vs : Array Value} {ds : List D} (hH : Ex s.heap H) (hl : ds.length ≤ big) (hr : RepAll w.params s.heap H vs.toList ds) :
    Rep w.params (s.heap.push (tupO vs 0)) H (.ref s.heap.objs.size) (.tup ds) :=
  .tup (Heap.get?_push_size _ rfl) hH.fresh hl (hr.keeps fun _ _ e => Heap.get?_push_of_some _ e)

theorem binI_snd {op : Operator} {i j : Int} {t u : Tok} {d : D} (he : binI op i j = some d) : wpAny (model prog w) A (binaryOp op (.int i t) (.int j u)) (Post w s H d) E s := by
  cases op <;> simp only [binI] at he <;> first | (cases he; done) | skip
  · cases he; exact PyProof.Rows.add_int ⟨Kp.tok _ _, .int _ _⟩
  · cases he; exact PyProof.Rows.sub_int ⟨Kp.tok _ _, .int _ _⟩
  · split at he
    · rename_i hc; cases he
      exact PyProof.Rows.mul_int ⟨Kp.tok _ _, .int _ _⟩ (hc.elim (fun h => .of_left (bits_le h)) fun h => .of_right (bits_le h))
    · cases he
  · split at he
    · rename_i hc; cases he
      refine PyProof.Rows.mod_int (by omega) ?_
      rw [Int.fmod_eq_emod_of_nonneg _ (by omega)]
      exact ⟨Kp.tok _ _, .int _ _⟩
    · cases he
  · split at he
    · rename_i hc; cases he
      obtain ⟨h1, h2, h3, h4⟩ := hc
      refine PyProof.Rows.pow_int h3 ?_ ⟨Kp.tok _ _, .int _ _⟩
      have hb := bits_le1000 ⟨h1, h2⟩
      have : (Builtin.Int.intBits i : Int) * j ≤ 1000 * 100 := Int.mul_le_mul (by omega) h4 h3 (by decide)
      exact Int.le_trans this (by decide)
    · cases he
  · split at he
    · rename_i hc; cases he
      refine PyProof.Rows.floordiv_int (by omega) ?_ (.inl (PyProof.noPylong_of_log2 ?_))
      · rw [Int.fdiv_eq_ediv_of_nonneg _ (by omega)]
        exact ⟨Kp.tok _ _, .int _ _⟩
      · have : j.natAbs < 2 ^ 64 := by unfold lim at hc; omega
        have h3 : j.natAbs ≠ 0 := by omega
        have := (Nat.log2_lt h3).mpr this
        omega
    · cases he
theorem binS_snd {op : Operator} {x : Str} {t : Tok} {y : Value} {b d : D} (hy : Rep w.params s.heap H y b) (he : binS op x b = some d) : wpAny (model prog w) A (binaryOp op (.str x t) y) (Post w s H d) E s := by
  cases op <;> simp only [binS] at he <;> first | (cases he; done) | skip
  · cases hy <;> simp only at he <;> first | (cases he; done) | skip
    split at he
    · rename_i hc; cases he
      exact PyProof.Rows.add_str (fun t' tk => ⟨Kp.tok _ _, .str _ _⟩) (by exact hc)
    · cases he
  · cases hy <;> simp only at he <;> first | (cases he; done) | skip
    rename_i n u
    split at he
    · rename_i hc; cases he
      obtain ⟨h0, h1, h2⟩ := hc
      refine SB.mul ⟨by simp; omega, fun g1 _ => ?_, fun g1 _ => ?_⟩ fun t' k => ⟨Kp.tok _ _, .str _ _⟩
      · have : (1000 : Int) ≤ (2 ^ 63 - 1) / n := by
          rw [Int.le_ediv_iff_mul_le (by omega)]; omega
        omega
      · have : x.length * n.toNat ≤ 1000 * 1000 := Nat.mul_le_mul h2 (by omega)
        show decide (_ > sizeLine) = false
        simp only [decide_eq_false_iff_not]
        have e : (1000 * 1000 : Nat) < sizeLine := by decide
        omega
    · cases he
theorem binI_plain {op : Operator} {i j : Int} {d : D} (he : binI op i j = some d) : d.isList = false := by
  cases op <;> simp only [binI] at he <;> (try split at he) <;> cases he <;> rfl
theorem binS_plain {op : Operator} {x : Str} {b d : D} (he : binS op x b = some d) : d.isList = false := by
  cases op <;> simp only [binS] at he <;> first | (cases he; done) | (cases b <;> simp only at he <;> first | (cases he; done) | (split at he <;> cases he <;> rfl))
theorem bin_snd {op : Operator} {x y : Value} {a b d : D} (hx : Rep w.params s.heap H x a) (hy : Rep w.params s.heap H y b) (hH : Ex s.heap H) (he : binD op a b = some d) :
    wpAny (model prog w) A (binaryOp op x y) (PostF w s H d d.isList) E s := by
  cases a <;> simp only [binD] at he <;> first | (cases he; done) | skip
  · cases hx
    cases hy <;> simp only at he <;> first | (cases he; done) | skip
    exact wpAny_mono (binI_snd he) (fun _ _ q => q.plain (binI_plain he)) fun _ _ e => e
  · cases hx
    exact wpAny_mono (binS_snd hy he) (fun _ _ q => q.plain (binS_plain he)) fun _ _ e => e
end
end Mine
namespace Mine
open PySem PySem.SeqAt

section
variable {prog : Program} {w : World} {A : Around} {E : Value → Shared → Prop} {s : Shared} {H H' : Addr → Prop}

theorem eqS_snd {P : Params} {h : Heap} {x y : Value} {a b : D} {k : Bool} (hx : Rep P h H x a) (hy : Rep P h H' y b) (he : eqS a b = some k) :
    (∀ A s, EqAt A s x y k) ∧ (∀ A s, RcAt A s x y k) ∧ (∀ A s, RcNeAt A s x y (!k)) := by
  cases hx <;> simp only [eqS] at he <;> first | (cases he; done) | skip
  all_goals cases hy <;> simp only at he <;> first | (cases he; done) | skip
  · cases he; exact ⟨fun A s => EqAt.bool_bool _ _, fun A s => RcAt.bool_bool _ _, fun A s => RcNeAt.bool_bool _ _⟩
  · cases he; exact ⟨fun A s => EqAt.int_int _ _ _ _, fun A s => RcAt.int_int _ _ _ _, fun A s => RcNeAt.int_int _ _ _ _⟩
  · cases he; exact ⟨fun A s => EqAt.int_str _ _ _ _, fun A s => RcAt.int_str _ _ _ _, fun A s => RcNeAt.int_str _ _ _ _⟩
  · cases he; exact ⟨fun A s => EqAt.str_int _ _ _ _, fun A s => RcAt.str_int _ _ _ _, fun A s => RcNeAt.str_int _ _ _ _⟩
  · cases he; exact ⟨fun A s => EqAt.str_str _ _ _ _, fun A s => RcAt.str_str _ _ _ _, fun A s => RcNeAt.str_str _ _ _ _⟩

theorem isList_of {h : Heap} {a : Addr} {vs : Array Value} {n : Nat} (ho : h.get? a = some (lstO vs n)) : h.IsList a vs := ⟨_, ho, rfl, n, rfl⟩
theorem isTuple_of {h : Heap} {a : Addr} {vs : Array Value} {n : Nat} (ho : h.get? a = some (tupO vs n)) : h.IsTuple a vs := ⟨_, ho, rfl, n, rfl⟩
theorem isTup_of {h : Heap} {a : Addr} {vs : Array Value} {n : Nat} (ho : h.get? a = some (tupO vs n)) : PyProof.Rows.IsTup h a vs := ⟨_, ho, rfl, n, rfl⟩

theorem eqD_snd {x y : Value} {a b : D} {k : Bool} (hx : Rep w.params s.heap H x a) (hy : Rep w.params s.heap H' y b) (hu : A.units < cLine) (he : eqD a b = some k) :
    RcAt A s x y k ∧ RcNeAt A s x y (!k) := by
  have fin : eqS a b = some k → RcAt A s x y k ∧ RcNeAt A s x y (!k) := fun he => ⟨(eqS_snd hx hy he).2.1 _ _, (eqS_snd hx hy he).2.2 _ _⟩
  exact fin (by cases a <;> exact he)

theorem dict_at {P : Params} {h : Heap} {y : Value} {ks vs : List D} (hy : Rep P h H y (.dict ks vs)) (hk : ks.all D.isCell = true) : ∃ a es n, ∃ cs : List CK, y = .ref a ∧ h.get? a = some (dicO es n) ∧ ks = cs.map ofCK ∧ RepAll P h H (es.toList.map (·.key)) (cs.map ofCK) ∧ RepAll P h H (es.toList.map (·.val)) vs ∧
    es.toList.map (·.hash) = (cs.map ofCK).map (hashK P) ∧ (cs.map ofCK).Nodup ∧ (a == sysModules) = false ∧ cs.length = (es.toList.map (·.val)).length := by
  obtain ⟨cs, rfl⟩ := cells_ck hk
  cases hy with
  | dict h1 h2 h3 h4 h5 h6 h7 h8 h9 => exact ⟨_, _, _, cs, rfl, h1, rfl, h4, h5, h6, h8, h9, by have := h4.length; simpa using this.symm⟩
theorem notIn_of_in {M : Model} {x c : Value} {Q' Q : Value → Shared → Prop} (h : wpAny M A (compareOp .In x c) Q' E s) (hQ : ∀ b s', Q' (.bool b) s' → Q (.bool (!b)) s') : wpAny M A (compareOp .NotIn x c) Q E s := by
  intro Γ p hΓ
  have h0 := h Γ p hΓ
  change Sem.wp _ Γ (Sem.bind (contains c x) fun r => Sem.pure (Value.bool r)) _ _ p s at h0
  show Sem.wp _ Γ (Sem.bind (contains c x) fun r => Sem.pure (Value.bool (!r))) _ _ p s
  rw [Sem.wp_bind] at h0 ⊢
  refine Sem.wp_mono _ Γ _ (fun r p' s' q => ?_) (fun _ _ _ q => q) p s h0
  exact hQ r s' q
theorem in_dict {x y : Value} {k : D} {ks vs : List D} (hx : Rep w.params s.heap H x k) (hy : Rep w.params s.heap H y (.dict ks vs)) (hu : A.units + 1 < cLine) (hc : keyOk k ks = true) :
    wpAny (model prog w) A (compareOp .In x y) (Post w s H (.bool (ks.any fun x => keyEq x k))) E s := by
  unfold keyOk at hc
  rw [Bool.or_eq_true, Bool.and_eq_true] at hc
  rcases hc with hc | hc
  · obtain ⟨c, rfl⟩ := cell_ck hc.1
    obtain ⟨a, es, n, cs, rfl, h1, rfl, h4, h5, h6, h8, h9, hl⟩ := dict_at hy hc.2
    refine wpAny_in_of (knd := cellKind prog w) (rep_ck hx) h9 (dictOf_rep (prog := prog) h1 h4 h6 h8).mapOf ?_
    rw [any_valueAt hl]; exact ⟨Kp.tok _ _, .bool _⟩
  · cases hc
theorem mem_snd {x y : Value} {a b : D} {k : Bool} (hx : Rep w.params s.heap H x a) (hy : Rep w.params s.heap H y b) (hu : A.units + 1 < cLine) (he : memD a b = some k) :
    wpAny (model prog w) A (compareOp .In x y) (Post w s H (.bool k)) E s := by
  cases b <;> simp only [memD] at he <;> first | (cases he; done) | skip
  · split at he
    · rename_i hc; cases he; exact in_dict hx hy hu hc
    · cases he
theorem ord_snd {op : CmpOp} {x y : Value} {a b d : D} (hx : Rep w.params s.heap H x a) (hy : Rep w.params s.heap H y b) (he : ordD op a b = some d) : wpAny (model prog w) A (compareOp op x y) (Post w s H d) E s := by
  cases hx <;> simp only [ordD] at he <;> first | (cases he; done) | skip
  all_goals cases hy <;> simp only at he <;> first | (cases he; done) | skip
  · cases op <;> simp only [cmpI] at he <;> cases he
    · exact PyProof.Rows.lt_int ⟨Kp.refl _, .bool _⟩
    · exact PyProof.Rows.le_int ⟨Kp.refl _, .bool _⟩
    · exact PyProof.Rows.gt_int ⟨Kp.refl _, .bool _⟩
    · exact PyProof.Rows.ge_int ⟨Kp.refl _, .bool _⟩
  · cases op <;> simp only at he <;> cases he
    exact PyProof.Rows.lt_str ⟨Kp.refl _, .bool _⟩
theorem cmp_snd {op : CmpOp} {x y : Value} {a b d : D} (hx : Rep w.params s.heap H x a) (hy : Rep w.params s.heap H y b) (hu : A.units + 1 < cLine) (he : cmpD op a b = some d) :
    wpAny (model prog w) A (compareOp op x y) (Post w s H d) E s := by
  have hu0 := Nat.lt_of_succ_lt hu
  cases op <;> simp only [cmpD] at he <;> first | exact ord_snd hx hy he | skip
  all_goals
    rw [Option.map_eq_some_iff] at he
    obtain ⟨k, hk, rfl⟩ := he
  · exact (eqD_snd hx hy hu0 hk).1 prog w E _ ⟨Kp.refl _, .bool _⟩
  · exact (eqD_snd hx hy hu0 hk).2 prog w E _ ⟨Kp.refl _, .bool _⟩
  · exact mem_snd hx hy hu hk
  · exact notIn_of_in (mem_snd hx hy hu hk) fun b s' q => ⟨q.1, by cases q.2; exact .bool _⟩

theorem lt63 {n : Nat} (h : n ≤ big) : (n : Int) < 2 ^ 63 := by unfold big at h; omega

theorem truth_snd {x : Value} {a : D} {t : Bool} (hx : Rep w.params s.heap H x a) (he : truth a = some t) :
    wpAny (model prog w) A (truthy x) (fun b s' => Keeps s s' ∧ b = t) E s := by
  cases hx <;> simp only [truth] at he <;> cases he
  · exact PyProof.Rows.truthy_none ⟨Kp.refl _, rfl⟩
  · exact wpAny_truthy_bool ⟨Kp.refl _, rfl⟩
  · exact PyProof.Rows.truthy_int ⟨Kp.refl _, rfl⟩
  · rename_i vs n ds ho _ hl hr
    have e := hr.length
    simp only [Array.length_toList] at e
    refine PyProof.Rows.truthy_tuple (isTup_of ho) (by rw [e]; exact lt63 hl) ⟨Kp.tok _ _, ?_⟩
    congr 1
    rw [Bool.eq_iff_iff]
    simp only [Array.isEmpty_iff, List.isEmpty_iff, ← Array.size_eq_zero_iff, ← List.length_eq_zero_iff, e]
  · rename_i vs n ds ho _ hl hr
    have e := hr.length
    simp only [Array.length_toList] at e
    refine wpAny_truthy_list (isList_of ho) (by rw [e]; exact lt63 hl) ⟨Kp.tok _ _, ?_⟩
    congr 1
    rw [Bool.eq_iff_iff]
    simp only [Array.isEmpty_iff, List.isEmpty_iff, ← Array.size_eq_zero_iff, ← List.length_eq_zero_iff, e]

theorem idx_seq {k : Int} {n j : Nat} (h : idx k n = some j) : seqIndex? k n = some j ∧ j < n ∧ -(n : Int) ≤ k ∧ k < n := by
  unfold idx at h
  unfold seqIndex?
  split at h
  · rename_i hc; cases h
    have e : ¬ k < 0 := by omega
    simp only [e, if_false]
    simp [hc]; omega
  · split at h
    · rename_i hc; cases h
      simp only [hc.2, if_true]
      have h1 : 0 ≤ k + n := by omega
      have h2 : k + n < n := by omega
      simp [h1, h2]; omega
    · cases h

theorem getItem_snd {x i : Value} {a b d : D} (hu : A.units + 1 < cLine) (hx : Rep w.params s.heap H x a) (hi : Rep w.params s.heap H i b) (he : subD a b = some d) :
    wpAny (model prog w) A (getItem x i) (Post w s H d) E s ∧ ∃ T id, s.TypeIs x T ∧ typeLookup (.type T) "__getitem__" = pure (some (.builtin id)) := by
  cases a <;> simp only [subD] at he <;> first | (cases he; done) | skip
  · rename_i x
    cases hx
    cases hi <;> simp only at he <;> first | (cases he; done) | skip
    rename_i k _
    split at he
    · rename_i hc; cases he
      refine ⟨PyProof.Rows.getItem_str (c := x.cps.getD k.toNat 0) ?_ ?_ ⟨Kp.tok _ _, .str _ _⟩, "str", _, typeIs_str _ _ _, F.slot_str_getitem.lookup⟩
      · simp; unfold big at hc; omega
      · have h1 : idx k x.length = some k.toNat := by unfold idx; simp [hc.1, hc.2.1]
        rw [(idx_seq h1).1]
        have h2 : k.toNat < x.cps.size := by have := hc.2.1; unfold Str.length at this; omega
        simp [Array.getD, h2]
    · cases he
  · cases hx with
    | tup ho hn hl hr =>
      cases hi <;> simp only at he <;> first | (cases he; done) | skip
      rename_i k _
      rw [Option.bind_eq_some_iff] at he
      obtain ⟨j, hj, he⟩ := he
      obtain ⟨v, hv, hvr⟩ := hr.get j he
      obtain ⟨h1, h2, h3, h4⟩ := idx_seq hj
      have e := hr.length
      simp only [Array.length_toList] at e
      have hb := lt63 hl
      exact ⟨PyProof.Rows.getItem_tuple (isTup_of ho) (by omega) (by omega) (by rw [e]; exact h1) (by simpa using hv) ⟨Kp.refl _, hvr⟩, "tuple", _, (isTup_of ho).typeIs, F.slot_tuple_getitem.lookup⟩
  · cases hx with
    | list ho hn hl hr =>
      cases hi <;> simp only at he <;> first | (cases he; done) | skip
      rename_i k _
      rw [Option.bind_eq_some_iff] at he
      obtain ⟨j, hj, he⟩ := he
      obtain ⟨v, hv, hvr⟩ := hr.get j he
      have e := hr.length
      simp only [Array.length_toList] at e
      have hb := lt63 hl
      refine ⟨?_, "list", _, (isList_of ho).typeIs, F.slot_list_getitem.lookup⟩
      unfold idx at hj
      split at hj
      · cases hj
        exact wpAny_getItem_list (isList_of ho) (by omega) (by omega) (by simpa using hv) ⟨Kp.refl _, hvr⟩
      · split at hj
        · cases hj
          exact wpAny_getItem_list_neg (isList_of ho) (by omega) (by rw [e]; omega) (by omega) (by rw [e]; simpa using hv) ⟨Kp.refl _, hvr⟩
        · cases hj
end
end Mine
namespace Mine
open PySem PySem.SeqAt

section
variable {prog : Program} {w : World} {A : Around} {E : Value → Shared → Prop} {s : Shared} {H H' : Addr → Prop}

theorem isi_snd {x : Value} {a : D} {T : String} {t : Bool} (hx : Rep w.params s.heap H x a) (he : isiD a T = some t) :
    wpAny (model prog w) A (call (.builtin "isinstance") [x, .type T]) (Post w s H (.bool t)) E s := by
  unfold isiD at he
  split at he
  · rename_i hT
    cases hx with
    | bool b =>
      rcases hT with rfl | rfl | rfl | rfl | rfl
      · cases he; exact IsiPair.bool_str ⟨Kp.tok _ _, .bool _⟩
      · cases he; exact IsiPair.bool_bool ⟨Kp.refl _, .bool _⟩
      · cases he; exact IsiPair.bool_int ⟨Kp.refl _, .bool _⟩
      · cases he; exact IsiPair.bool_tuple ⟨Kp.tok _ _, .bool _⟩
      · cases he; exact IsiPair.bool_list ⟨Kp.tok _ _, .bool _⟩
    | int i t =>
      rcases hT with rfl | rfl | rfl | rfl | rfl
      · cases he; exact IsiPair.int_str ⟨Kp.tok _ _, .bool _⟩
      · cases he; exact IsiPair.int_bool ⟨Kp.tok _ _, .bool _⟩
      · cases he; exact IsiPair.int_int ⟨Kp.refl _, .bool _⟩
      · cases he; exact IsiPair.int_tuple ⟨Kp.tok _ _, .bool _⟩
      · cases he; exact IsiPair.int_list ⟨Kp.tok _ _, .bool _⟩
    | str x t =>
      rcases hT with rfl | rfl | rfl | rfl | rfl
      · cases he; exact IsiPair.str_str ⟨Kp.refl _, .bool _⟩
      · cases he; exact IsiPair.str_bool ⟨Kp.tok _ _, .bool _⟩
      · cases he; exact IsiPair.str_int ⟨Kp.tok _ _, .bool _⟩
      · cases he; exact IsiPair.str_tuple ⟨Kp.tok _ _, .bool _⟩
      · cases he; exact IsiPair.str_list ⟨Kp.tok _ _, .bool _⟩
    | tup ho =>
      rcases hT with rfl | rfl | rfl | rfl | rfl
      · cases he; exact IsiPair.tuple_str ho rfl ⟨Kp.tok _ _, .bool _⟩
      · cases he; exact IsiPair.tuple_bool ho rfl ⟨Kp.tok _ _, .bool _⟩
      · cases he; exact IsiPair.tuple_int ho rfl ⟨Kp.tok _ _, .bool _⟩
      · cases he; exact IsiPair.tuple_tuple ho rfl ⟨Kp.refl _, .bool _⟩
      · cases he; exact IsiPair.tuple_list ho rfl ⟨Kp.tok _ _, .bool _⟩
    | list ho =>
      rcases hT with rfl | rfl | rfl | rfl | rfl
      · cases he; exact IsiPair.list_str ho rfl ⟨Kp.tok _ _, .bool _⟩
      · cases he; exact IsiPair.list_bool ho rfl ⟨Kp.tok _ _, .bool _⟩
      · cases he; exact IsiPair.list_int ho rfl ⟨Kp.tok _ _, .bool _⟩
      · cases he; exact IsiPair.list_tuple ho rfl ⟨Kp.tok _ _, .bool _⟩
      · cases he; exact IsiPair.list_list ho rfl ⟨Kp.refl _, .bool _⟩
    | _ => cases he
  · cases he

/-- the built-in that a name means -/
noncomputable def bltVal : String → Value
  | "len" => .builtin "len"
  | "isinstance" => .builtin "isinstance"
  | "sum" => .builtin "sum"
  | "max" => .builtin "max"
  | "min" => .builtin "min"
  | "sorted" => .builtin "sorted"
  | T => .type T

theorem natAbs_log2 {i : Int} (h : -strLim < i ∧ i < strLim) : i.natAbs.log2 < 1920 := by
  unfold strLim at h
  have h2 : i.natAbs < 10 ^ 100 := by
    have e : ((10 ^ 100 : Nat) : Int) = (10 : Int) ^ 100 := by exact Int.natCast_pow 10 100
    generalize (10 : Int) ^ 100 = p at h e
    omega
  by_cases h3 : i.natAbs = 0
  · rw [h3]; decide
  · refine (Nat.log2_lt h3).mpr (Nat.lt_trans h2 (by decide +kernel))

theorem len_snd {x : Value} {a d : D} (hx : Rep w.params s.heap H x a) (he : lenD a = some d) : wpAny (model prog w) A (call (.builtin "len") [x]) (Post w s H d) E s := by
  cases hx <;> simp only [lenD] at he <;> first | (cases he; done) | skip
  · split at he
    · rename_i hc; cases he
      exact PyProof.Rows.len_str (by have := lt63 hc; omega) ⟨Kp.tok _ _, .int _ _⟩
    · cases he
  · rename_i ho _ hl hr
    cases he
    have e := hr.length
    simp only [Array.length_toList] at e
    refine PyProof.Rows.len_tuple (isTup_of ho) (by rw [e]; exact lt63 hl) ?_
    rw [e]; exact ⟨Kp.tok _ _, .int _ _⟩
  · rename_i ho _ hl hr
    cases he
    have e := hr.length
    simp only [Array.length_toList] at e
    refine PyProof.Rows.len_list (isList_of ho) (by rw [e]; exact lt63 hl) ?_
    rw [e]; exact ⟨Kp.tok _ _, .int _ _⟩
theorem bltI_snd {f : String} {i : Int} {t : Tok} {d : D} (hH : Ex s.heap H) (he : bltI f i = some d) : wpAny (model prog w) A (call (bltVal f) [.int i t]) (Post w s H d) E s := by
  unfold bltI rngD at he
  split at he
  · rename_i hf; subst hf
    split at he
    · rename_i hc; cases he
      refine call_range_1 ⟨⟨_, _, _, rfl, fun _ _ e => Heap.get?_push_of_some _ e⟩, ?_⟩
      exact .rng (IsRange.new _ _ _ _ _ _ _) hH.fresh (by unfold big at *; omega)
    · cases he
  · split at he
    · rename_i hf; subst hf
      split at he
      · rename_i hc; cases he
        exact P.str_of_int (natAbs_log2 hc) ⟨Kp.tok _ _, .str _ _⟩
      · cases he
    · cases he
theorem blt1_snd {f : String} {x : Value} {a d : D} (hh : A.handled = none) (hx : Rep w.params s.heap H x a) (hH : Ex s.heap H) (he : bltD f [a] = some d) : wpAny (model prog w) A (call (bltVal f) [x]) (Post w s H d) E s := by
  simp only [bltD] at he
  split at he
  · rename_i hf; subst hf; exact len_snd hx he
  · cases hx <;> simp only at he <;> first | (cases he; done) | exact bltI_snd hH he | skip
    · split at he
      · rename_i hf; subst hf; cases he
        exact call_int_bool ⟨Kp.tok _ _, .int _ _⟩
      · cases he
    · split at he
      · rename_i hf; subst hf; cases he
        exact P.str_of_str ⟨Kp.refl _, .str _ _⟩
      · cases he
    · rename_i ho hn hl hr
      split at he
      · rename_i hf; subst hf; cases he
        have e := hr.length
        simp only [Array.length_toList] at e
        refine call_tuple_list (isList_of ho) (fun h' hk => ⟨⟨_, _, _, rfl, fun _ _ q => Heap.get?_push_of_some _ (hk _ _ q)⟩, ?_⟩) (by rw [e]; exact hl)
        exact .tup (Heap.get?_push_size _ rfl) (hH.keeps hk).fresh hl (hr.keeps fun _ _ q => Heap.get?_push_of_some _ (hk _ _ q))
      · cases he
theorem blt_snd {f : String} {xs : List Value} {as : List D} {d : D} (hh : A.handled = none) (hx : RepAll w.params s.heap H xs as) (hH : Ex s.heap H) (he : bltD f as = some d) :
    wpAny (model prog w) A (call (bltVal f) xs) (Post w s H d) E s := by
  cases hx with
  | nil => cases he
  | cons h1 h2 => cases h2 with
    | nil => exact blt1_snd hh h1 hH he
    | cons h2 h3 => cases h3 with
      | nil =>
        simp only [bltD] at he
        cases h1 <;> simp only at he <;> first | (cases he; done) | skip
        cases h2 <;> simp only at he <;> first | (cases he; done) | skip
      | cons => cases he
theorem lst_snd {x : Value} {a : D} {ds : List D} (hh : A.handled = none) (hx : Rep w.params s.heap H x a) (hH : Ex s.heap H) (he : lstD a = some ds) :
    wpAny (model prog w) A (call (.type "list") [x]) (PostF w s H (.list ds) true) E s := by cases he
end
end Mine
namespace Mine
open PySem PySem.SeqAt

section
variable {prog : Program} {w : World} {A : Around} {E : Value → Shared → Prop} {s : Shared} {H H' : Addr → Prop}

structure IterAt (prog : Program) (w : World) (A : Around) (s₁ : Shared) (H : Addr → Prop) (its : List D) (I : Addr) (s₂ : Shared) : Prop where
  keeps : Keeps s₁ s₂
  fresh : s₁.heap.get? I = none
  ex : ∃ o, s₂.heap.get? I = some o
  walk : ∃ fp P St, Walks prog w A I fp [I] its.length P St ∧ St 0 s₂.heap ∧ (∀ b ∈ fp, b = I ∨ (¬ H b ∧ ∃ o, s₁.heap.get? b = some o)) ∧ (∀ i v, i < its.length → P i v → ∃ d, its[i]? = some d ∧ Rep w.params s₁.heap H v d) ∧ (∀ i h, St i h → ∃ o, h.get? I = some o)

theorem fresh_size (h : Heap) : h.get? h.objs.size = none := Heap.get?_none_of_le (Nat.le_refl _)

theorem iter_snd {x : Value} {d : D} {its : List D} (hx : Rep w.params s.heap H x d) (hh : A.handled = none) (he : d.items = some its) :
    wpAny (model prog w) A (pyIter x) (fun v s₂ => ∃ I, v = .ref I ∧ IterAt prog w A s H its I s₂) E s := by
  cases hx <;> simp only [D.items] at he <;> cases he
  · rename_i a vs n ho hn hl hr
    have e := hr.length
    simp only [Array.length_toList] at e
    have hne : a ≠ s.heap.objs.size := Nat.ne_of_lt (Heap.lt_size ho)
    refine wpAny_pyIter_tuple (isTuple_of ho) ⟨_, rfl, Kp.push _ _, fresh_size _, ⟨_, Heap.get?_push_size _ rfl⟩, ?_⟩
    refine ⟨_, _, _, e ▸ Walks.tuple hh s.heap.objs.size a hne vs, ?_, ?_, ?_, ?_⟩
    · exact ⟨⟨_, Heap.get?_push_size _ rfl, rfl, rfl⟩, (isTuple_of ho).push _⟩
    · intro b hb
      simp only [List.mem_cons, List.not_mem_nil, or_false] at hb
      rcases hb with rfl | rfl
      · exact .inl rfl
      · exact .inr ⟨hn, _, ho⟩
    · intro i v hi hv
      obtain ⟨v', h1, h2⟩ := hr.get i (List.getElem?_eq_getElem hi)
      have : v' = v := by
        have h3 : vs.toList[i]? = vs[i]? := by simp
        rw [h3, hv] at h1; cases h1; rfl
      exact ⟨_, List.getElem?_eq_getElem hi, this ▸ h2⟩
    · rintro i h ⟨⟨o, e, _⟩, _⟩; exact ⟨o, e⟩
  · rename_i a vs n ho hn hl hr
    have e := hr.length
    simp only [Array.length_toList] at e
    have hne : a ≠ s.heap.objs.size := Nat.ne_of_lt (Heap.lt_size ho)
    refine wpAny_pyIter_list (isList_of ho) ⟨_, rfl, Kp.push _ _, fresh_size _, ⟨_, Heap.get?_push_size _ rfl⟩, ?_⟩
    refine ⟨_, _, _, e ▸ Walks.list hh s.heap.objs.size a hne vs, ?_, ?_, ?_, ?_⟩
    · exact ⟨⟨_, Heap.get?_push_size _ rfl, rfl, rfl⟩, (isList_of ho).push _⟩
    · intro b hb
      simp only [List.mem_cons, List.not_mem_nil, or_false] at hb
      rcases hb with rfl | rfl
      · exact .inl rfl
      · exact .inr ⟨hn, _, ho⟩
    · intro i v hi hv
      obtain ⟨v', h1, h2⟩ := hr.get i (List.getElem?_eq_getElem hi)
      have : v' = v := by
        have h3 : vs.toList[i]? = vs[i]? := by simp
        rw [h3, hv] at h1; cases h1; rfl
      exact ⟨_, List.getElem?_eq_getElem hi, this ▸ h2⟩
    · rintro i h ⟨⟨o, e, _⟩, _⟩; exact ⟨o, e⟩
  · rename_i lo hi t u v hr hn hl
    have hsm : Builtin.Range.small lo hi 1 = true := by
      unfold big at hl; exact small_one (by omega) (by omega) (by omega) (by omega)
    have hsz : Builtin.Range.rangeSize lo hi 1 = ((hi - lo).toNat : Int) := by
      rw [rangeSize_one]; split <;> omega
    refine wpAny_pyIter_range hr hsm ⟨_, rfl, Kp.push _ _, fresh_size _, ⟨_, Heap.get?_push_size _ rfl⟩, ?_⟩
    have hlen : ((List.range (hi - lo).toNat).map fun (i : Nat) => D.int (lo + (i : Int))).length = (hi - lo).toNat := by simp
    refine ⟨_, _, _, hlen ▸ Walks.range hh s.heap.objs.size lo 1 (hi - lo).toNat, ?_, ?_, ?_, ?_⟩
    · show Heap.get? _ _ = _
      rw [Heap.get?_push_size _ rfl, hsz]
      simp [rawInt]
    · intro b hb
      simp only [List.mem_cons, List.not_mem_nil, or_false] at hb
      exact .inl hb
    · rintro i v hi ⟨t, rfl⟩
      rw [hlen] at hi
      refine ⟨.int (lo + i), by simp [hi], ?_⟩
      rw [Int.mul_one]
      exact .int _ _
    · intro i h e; exact ⟨_, e⟩
end
end Mine
namespace Mine
open PySem PySem.SeqAt

structure AOk (A : Around) (n : Nat) : Prop where
  handled : A.handled = none
  depth : A.depth + n + 20 < recursionLimit
  units : A.units + 3 * n + 100 < cLine

structure EnvRep (h : Heap) (env : Env) (m : Str → Option Value) : Prop where
  kind : env.scope.kind = .function
  glob : env.globals = mainGlobals
  blt : env.builtins = builtinsNs
  loc : ∃ ml, h.Ns env.locals ml ∧ ∀ x, env.kindOf x = some .local → ml x = m x
  cell : ∀ x, env.kindOf x = some .cell ∨ env.kindOf x = some .free → ∃ c, env.cells.lookup x = some c ∧ h.IsCell c (m x)
  inj : ∀ x y c, env.cells.lookup x = some c → env.cells.lookup y = some c → x = y
  off : ∀ x c, env.cells.lookup x = some c → c ≠ env.locals
  ex : ∀ x c, env.cells.lookup x = some c → ∃ o, h.get? c = some o

theorem EnvRep.keeps {h h' : Heap} {env : Env} {m : Str → Option Value} (R : EnvRep h env m) (hk : ∀ a o, h.get? a = some o → h'.get? a = some o) : EnvRep h' env m where
  kind := R.kind
  glob := R.glob
  blt := R.blt
  loc := let ⟨ml, h1, h2⟩ := R.loc; ⟨ml, h1.keeps hk, h2⟩
  cell := fun x hx => let ⟨c, h1, h2⟩ := R.cell x hx; ⟨c, h1, h2.keeps hk⟩
  inj := R.inj
  off := R.off
  ex := fun x c hc => let ⟨o, ho⟩ := R.ex x c hc; ⟨o, hk _ _ ho⟩

theorem Ns.keepAt {h h' : Heap} {a : Addr} {m : Str → Option Value} (hn : h.Ns a m) (hk : ∀ o, h.get? a = some o → h'.get? a = some o) : h'.Ns a m :=
  let ⟨o, es, ep, ho, r⟩ := hn; ⟨o, es, ep, hk _ ho, r⟩
theorem Cell.keepAt {h h' : Heap} {a : Addr} {v : Option Value} (hn : h.IsCell a v) (hk : ∀ o, h.get? a = some o → h'.get? a = some o) : h'.IsCell a v :=
  let ⟨o, ho, r⟩ := hn; ⟨o, hk _ ho, r⟩

/-- the frame's own places stay -/
theorem EnvRep.keepsAt {h h' : Heap} {env : Env} {m : Str → Option Value} (R : EnvRep h env m) (hk : ∀ a o, (a = env.locals ∨ ∃ x, env.cells.lookup x = some a) → h.get? a = some o → h'.get? a = some o) : EnvRep h' env m where
  kind := R.kind
  glob := R.glob
  blt := R.blt
  loc := let ⟨ml, h1, h2⟩ := R.loc; ⟨ml, Ns.keepAt h1 fun o e => hk _ o (.inl rfl) e, h2⟩
  cell := fun x hx => let ⟨c, h1, h2⟩ := R.cell x hx; ⟨c, h1, Cell.keepAt h2 fun o e => hk _ o (.inr ⟨x, h1⟩) e⟩
  inj := R.inj
  off := R.off
  ex := fun x c hc => let ⟨o, ho⟩ := R.ex x c hc; ⟨o, hk _ _ (.inr ⟨x, hc⟩) ho⟩

section
variable {M : Model} {A : Around} {E : Value → Shared → Prop} {s : Shared}

theorem load_snd {env : Env} {m : Str → Option Value} {x : Str} {v : Value} {pos : Pos} {Q : Value → Shared → Prop} (R : EnvRep s.heap env m) (hx : isVar env.kindOf x = true) (hv : m x = some v) (h : Q v s) :
    wpAny M A (eval (.Name x pos) env) Q E s := by
  unfold isVar at hx
  simp only [Bool.and_eq_true, Bool.or_eq_true, beq_iff_eq, bne_iff_ne] at hx
  obtain ⟨⟨⟨hk, hd⟩, hc⟩, _⟩ := hx
  have hd' : (x == ("__debug__" : Str)) = false := by simpa using hd
  have hc' : (x == ("__classdict__" : Str)) = false := by simpa using hc
  refine wpAny_Name ?_ hd'
  rcases hk with (hk | hk) | hk
  · obtain ⟨ml, h1, h2⟩ := R.loc
    exact wpAny_loadName_local R.kind hk h1 ((h2 x hk).trans hv) h
  · obtain ⟨c, h1, h2⟩ := R.cell x (.inl hk)
    exact wpAny_loadName_cell R.kind hk h1 (hv ▸ h2) h
  · obtain ⟨c, h1, h2⟩ := R.cell x (.inr hk)
    exact wpAny_loadName_free R.kind hk h1 (hv ▸ h2) h hc'

noncomputable def upd (m : Str → Option Value) (x : Str) (v : Value) : Str → Option Value := fun y => if y = x then some v else m y

theorem store_snd {env : Env} {m : Str → Option Value} {x : Str} {v : Value} {Q : Unit → Shared → Prop} (R : EnvRep s.heap env m) (hx : env.kindOf x = some .local ∨ env.kindOf x = some .cell)
    (h : ∀ h' tk dw a, EnvRep h' env (upd m x v) → (a = env.locals ∨ env.cells.lookup x = some a) → Heap.SameBut a s.heap h' → Q () { s with heap := h', toks := tk, drawn := dw }) :
    wpAny M A (storeName env x v) Q E s := by
  rcases hx with hk | hk
  · obtain ⟨ml, h1, h2⟩ := R.loc
    refine wpAny_storeName_local hk h1 (fun h' hn hs => h h' _ s.drawn env.locals ⟨R.kind, R.glob, R.blt, ⟨_, hn, fun y hy => ?_⟩, fun y hy => ?_, R.inj, R.off, fun y c hc => let ⟨o, ho⟩ := R.ex y c hc; ⟨o, (hs.2 c (R.off y c hc)).trans ho⟩⟩ (.inl rfl) hs) (by rw [R.kind]; rfl)
    · unfold upd; by_cases e : y = x
      · simp [e]
      · simp [e, h2 y hy]
    · obtain ⟨c, h3, h4⟩ := R.cell y hy
      have hne : y ≠ x := by rintro rfl; rw [hk] at hy; simp at hy
      refine ⟨c, h3, ?_⟩
      unfold upd; rw [if_neg hne]
      exact h4.sameBut hs (R.off y c h3)
  · obtain ⟨c, h3, h4⟩ := R.cell x (.inl hk)
    refine wpAny_storeName_cell R.kind hk h3 h4 fun h' hc hs => h h' s.toks s.drawn c ⟨R.kind, R.glob, R.blt, ?_, fun y hy => ?_, R.inj, R.off, fun y c' hc' => ?_⟩ (.inr h3) hs
    · obtain ⟨ml, h1, h2⟩ := R.loc
      refine ⟨ml, h1.sameBut hs (fun e => R.off x c h3 e.symm), fun y hy => ?_⟩
      have hne : y ≠ x := by rintro rfl; rw [hk] at hy; simp at hy
      unfold upd; rw [if_neg hne]; exact h2 y hy
    · obtain ⟨c', h5, h6⟩ := R.cell y hy
      by_cases e : y = x
      · subst e
        rw [h3] at h5; cases h5
        exact ⟨c, h3, by simpa [upd] using hc⟩
      · refine ⟨c', h5, ?_⟩
        unfold upd; rw [if_neg e]
        exact h6.sameBut hs fun q => e (R.inj y x c' h5 (q ▸ h3))
    · by_cases e : c' = c
      · obtain ⟨o, ho, _⟩ := hc; exact ⟨o, e ▸ ho⟩
      · obtain ⟨o, ho⟩ := R.ex y c' hc'; exact ⟨o, (hs.2 c' e).trans ho⟩

/-! the closure that a comprehension's block takes -/
noncomputable def clGo (cells : List (Str × Addr)) : List (Str × NameKind) → List (Str × Addr) → List (Str × Addr)
  | [], acc => acc
  | (n, k) :: r, acc => if k == .free then (match cells.lookup n with | some c => clGo cells r ((n, c) :: acc) | none => clGo cells r acc) else clGo cells r acc

theorem closure_go {env : Env} (f : Str × NameKind → List (Str × Addr) → Sem (ForInStep (List (Str × Addr))))
    (hf : ∀ n k cs, f (n, k) cs = if k == .free then (do let c ← cellOf env n; pure (.yield ((n, c) :: cs))) else pure (.yield cs)) :
    ∀ (names : List (Str × NameKind)) (acc : List (Str × Addr)), (∀ p ∈ names, p.2 = .free → ∃ c, env.cells.lookup p.1 = some c) → forIn names acc f = pure (clGo env.cells names acc)
  | [], acc, _ => rfl
  | (n, k) :: r, acc, h => by
    have hr : ∀ p ∈ r, p.2 = .free → ∃ c, env.cells.lookup p.1 = some c := fun p hp => h p (List.mem_cons_of_mem _ hp)
    rw [List.forIn_cons, hf]
    unfold clGo
    by_cases hk : (k == NameKind.free) = true
    · obtain ⟨c, hc⟩ := h (n, k) List.mem_cons_self (by simpa using hk)
      rw [if_pos hk, if_pos hk]
      unfold cellOf
      simp only at hc
      rw [hc]
      simp only [pure_bind]
      exact closure_go f hf r _ hr
    · rw [if_neg hk, if_neg hk, pure_bind]
      exact closure_go f hf r _ hr

theorem closureFor_go {env : Env} {scope : Scope} (h : ∀ p ∈ scope.names, p.2 = .free → ∃ c, env.cells.lookup p.1 = some c) : closureFor scope env = pure (clGo env.cells scope.names []) := by
  unfold closureFor
  simp only []
  rw [closure_go (env := env) _ (fun n k cs => by
    by_cases hk : (k == NameKind.free) = true <;> simp [hk]) scope.names [] h]
  rfl

theorem lookup_cons' {α : Type} (x n : Str) (c : α) (l : List (Str × α)) : ((n, c) :: l).lookup x = if x = n then some c else l.lookup x := by
  rw [List.lookup_cons]
  by_cases h : x = n
  · simp [h]
  · have : (x == n) = false := by simpa using h
    simp [h, this]

theorem clGo_sound {cells : List (Str × Addr)} : ∀ (names : List (Str × NameKind)) (acc : List (Str × Addr)), (∀ x c, acc.lookup x = some c → cells.lookup x = some c) →
    ∀ x c, (clGo cells names acc).lookup x = some c → cells.lookup x = some c
  | [], acc, h => h
  | (n, k) :: r, acc, h => by
    unfold clGo
    split
    · cases hc : cells.lookup n with
      | none => exact clGo_sound r acc h
      | some c =>
        refine clGo_sound r _ fun x c' e => ?_
        rw [lookup_cons'] at e
        split at e
        · rename_i q; cases e; rw [q]; exact hc
        · exact h x c' e
    · exact clGo_sound r acc h

theorem clGo_mem {cells : List (Str × Addr)} : ∀ (names : List (Str × NameKind)) (acc : List (Str × Addr)) (x : Str) (c : Addr), (clGo cells names acc).lookup x = some c → (x, NameKind.free) ∈ names ∨ acc.lookup x = some c
  | [], acc, x, c, h => .inr h
  | (n, k) :: r, acc, x, c, h => by
    unfold clGo at h
    split at h
    · rename_i hk
      have hk' : k = .free := by simpa using hk
      subst hk'
      cases hc : cells.lookup n with
      | none => rw [hc] at h; exact (clGo_mem r acc x c h).imp (.tail _) id
      | some c' =>
        rw [hc] at h
        rcases clGo_mem r _ x c h with e | e
        · exact .inl (.tail _ e)
        · rw [lookup_cons'] at e
          split at e
          · rename_i q; exact .inl (q ▸ .head _)
          · exact .inr e
    · exact (clGo_mem r acc x c h).imp (.tail _) id

theorem clGo_has {cells : List (Str × Addr)} {x : Str} {c : Addr} (hx : cells.lookup x = some c) : ∀ (names : List (Str × NameKind)) (acc : List (Str × Addr)),
    ((x, NameKind.free) ∈ names ∨ acc.lookup x = some c) → (clGo cells names acc).lookup x = some c
  | [], acc, h => h.elim (fun e => nomatch e) id
  | (n, k) :: r, acc, h => by
    unfold clGo
    split
    · cases hc : cells.lookup n with
      | none =>
        refine clGo_has hx r acc (h.imp (fun e => ?_) id)
        rcases List.mem_cons.mp e with e | e
        · cases e; rw [hx] at hc; cases hc
        · exact e
      | some c' =>
        refine clGo_has hx r _ ?_
        rcases h with e | e
        · rcases List.mem_cons.mp e with e | e
          · cases e; rw [hx] at hc; cases hc
            exact .inr (by rw [lookup_cons', if_pos rfl])
          · exact .inl e
        · rw [lookup_cons']
          split
          · rename_i q; rw [← q, hx] at hc; cases hc; exact .inr rfl
          · exact .inr e
    · rename_i hk
      refine clGo_has hx r acc (h.imp (fun e => ?_) id)
      rcases List.mem_cons.mp e with e | e
      · cases e; simp at hk
      · exact e

theorem cellsFrom_app : ∀ (names : List (Str × NameKind)) (n : Nat) (acc : List (Str × Addr)), cellsFrom n names acc = cellsFrom n names [] ++ acc
  | [], _, _ => rfl
  | (x, k) :: r, n, acc => by
    unfold cellsFrom
    split
    · rw [cellsFrom_app r (n + 1) ((x, n) :: acc), cellsFrom_app r (n + 1) [(x, n)]]; simp
    · exact cellsFrom_app r n acc

theorem cellsFrom_mem : ∀ (names : List (Str × NameKind)) (n : Nat) (x : Str) (c : Addr), (x, c) ∈ cellsFrom n names [] → (x, NameKind.cell) ∈ names ∧ n ≤ c
  | [], _, _, _, h => nomatch h
  | (y, k) :: r, n, x, c, h => by
    unfold cellsFrom at h
    split at h
    · rename_i hk
      rw [cellsFrom_app] at h
      rcases List.mem_append.mp h with h | h
      · obtain ⟨h1, h2⟩ := cellsFrom_mem r (n + 1) x c h
        exact ⟨.tail _ h1, by omega⟩
      · simp only [List.mem_cons, List.not_mem_nil, or_false, Prod.mk.injEq] at h
        obtain ⟨rfl, rfl⟩ := h
        have : k = .cell := by simpa using hk
        subst this
        exact ⟨.head _, Nat.le_refl _⟩
    · obtain ⟨h1, h2⟩ := cellsFrom_mem r n x c h
      exact ⟨.tail _ h1, h2⟩

theorem cellsFrom_has : ∀ (names : List (Str × NameKind)) (n : Nat) (x : Str), (x, NameKind.cell) ∈ names → ∃ c, (x, c) ∈ cellsFrom n names []
  | (y, k) :: r, n, x, h => by
    unfold cellsFrom
    rcases List.mem_cons.mp h with e | e
    · cases e
      simp only [beq_self_eq_true, if_true]
      rw [cellsFrom_app]
      exact ⟨n, List.mem_append_right _ (List.mem_singleton.mpr rfl)⟩
    · split
      · obtain ⟨c, hc⟩ := cellsFrom_has r (n + 1) x e
        rw [cellsFrom_app]
        exact ⟨c, List.mem_append_left _ hc⟩
      · exact cellsFrom_has r n x e

theorem lookup_some_of_mem {α : Type} : ∀ {l : List (Str × α)} {x : Str} {c : α}, (x, c) ∈ l → ∃ c', l.lookup x = some c'
  | (y, d) :: r, x, c, h => by
    rw [lookup_cons']
    split
    · exact ⟨_, rfl⟩
    · rename_i hne
      rcases List.mem_cons.mp h with e | e
      · cases e; exact absurd rfl hne
      · exact lookup_some_of_mem e

theorem lookup_app {α : Type} (x : Str) : ∀ (l l' : List (Str × α)), (l ++ l').lookup x = (l.lookup x).or (l'.lookup x)
  | [], l' => by simp
  | (y, c) :: r, l' => by
    rw [List.cons_append, lookup_cons', lookup_cons', lookup_app x r l']
    split <;> simp
end
end Mine
namespace Mine
open PySem PySem.SeqAt

theorem lookup_map {α β : Type} (g : Str → α → β) (x : Str) : ∀ (l : List (Str × α)), (l.map fun p => (p.1, g p.1 p.2)).lookup x = (l.lookup x).map (g x)
  | [] => rfl
  | (y, c) :: r => by
    rw [List.map_cons, lookup_cons', lookup_cons', lookup_map g x r]
    split
    · rename_i h; subst h; rfl
    · rfl

theorem kindC_eq (k : KD) (scope : Scope) (x : Str) : kindC k scope x = (scope.names.lookup x).map fun q => if q == .free && k x == some .cell then .cell else q := by
  unfold kindC
  rw [← lookup_map (fun n q => if q == NameKind.free && k n == some .cell then NameKind.cell else q) x scope.names]
  congr 1
  refine List.map_congr_left fun p _ => ?_
  by_cases h : (p.2 == NameKind.free && k p.1 == some .cell) = true
  · simp [h]
  · simp [h]

theorem relabel_kind {env : Env} {scope : Scope} (hk : env.scope.kind = .function) : (fun x => (relabel scope env).names.lookup x) = kindC env.kindOf scope := by
  funext x
  unfold relabel kindC
  simp only [hk]
  congr 1
  refine List.map_congr_left fun p _ => ?_
  obtain ⟨a, b⟩ := p
  simp

section
variable {M : Model} {A : Around} {E : Value → Shared → Prop} {s : Shared}
theorem newEnvA {scope : Scope} {globals : Addr} {cl : List (Str × Addr)} {qual : Str} {env : Env} {Q : Env → Shared → Prop}
    (h : Q { scope, locals := s.heap.objs.size, globals, cells := cellsFrom (s.heap.objs.size + 1) scope.names cl, qual, func := none, code := env.code, frame := env.frame, builtins := env.builtins }
      { s with heap := pushCells (s.heap.push { cls := .type "dict", data := .dict #[] }) scope.names }) :
    wpAny M A (newFunctionEnv scope globals cl [] qual none .none (some env)) Q E s := by
  simp only [newFunctionEnv, Option.isSome_some, if_true]
  refine wpAny_bind (wpAny_alloc ?_)
  refine wpAny_bind (wpAny_layCells _ (fun name kind cells => by cases hkc : kind == NameKind.cell <;> simp [hkc]) _ _ _ _ ?_)
  rw [show ({ s with heap := s.heap.push { cls := .type "dict", data := .dict #[] } } : Shared).heap.objs.size = s.heap.objs.size + 1 from Heap.size_push ..]
  exact wpAny_pure h
end

theorem cells_facts (h : Heap) (scope : Scope) (o : Obj) :
    CellsOk (pushCells (h.push o) scope.names) (h.objs.size + 1) (cellsFrom (h.objs.size + 1) scope.names []) := by
  have ok := cellsFrom_ok scope.names (h.push o) (h.objs.size + 1) [] ⟨fun _ _ hm => (nomatch hm), List.Pairwise.nil⟩ (by rw [Heap.size_push]; exact Nat.le_refl _)
  rwa [Heap.size_push] at ok

/-- the environment of a comprehension's block -/
theorem compEnv_rep {h : Heap} {env : Env} {m : Str → Option Value} {scope : Scope} {y : Str} (R : EnvRep h env m) (hok : okScope env.kindOf scope y = true) :
    EnvRep (pushCells (h.push { cls := .type "dict", data := .dict #[] }) scope.names)
      { scope := relabel scope env, locals := h.objs.size, globals := env.globals, cells := cellsFrom (h.objs.size + 1) scope.names (clGo env.cells scope.names []), qual := env.qual, func := none, code := env.code, frame := env.frame, builtins := env.builtins }
      (fun x => if scope.names.lookup x = some .free then m x else none) := by
  unfold okScope at hok
  simp only [Bool.and_eq_true, decide_eq_true_eq, beq_iff_eq, List.all_eq_true] at hok
  obtain ⟨⟨⟨⟨hkind, hnd⟩, hy⟩, hfree⟩, _⟩ := hok
  have ok := cells_facts h scope { cls := .type "dict", data := .dict #[] }
  have keep : ∀ b o, h.get? b = some o → (pushCells (h.push { cls := .type "dict", data := .dict #[] }) scope.names).get? b = some o := fun b o e => pushCells_keeps _ _ b o (Heap.get?_push_of_some _ e)
  have uniq : ∀ x k k', (x, k) ∈ scope.names → (x, k') ∈ scope.names → k = k' := by
    intro x k k' h1 h2
    have : ∀ (l : List (Str × NameKind)), (l.map (·.1)).Nodup → (x, k) ∈ l → (x, k') ∈ l → k = k' := by
      intro l
      induction l with
      | nil => intro _ h; nomatch h
      | cons p l ih =>
        intro hn h1 h2
        simp only [List.map_cons, List.nodup_cons] at hn
        rcases List.mem_cons.mp h1 with e1 | e1 <;> rcases List.mem_cons.mp h2 with e2 | e2
        · rw [← e2] at e1; exact (Prod.mk.inj e1).2
        · exact absurd (List.mem_map_of_mem (f := (·.1)) e2) (by rw [← e1] at hn; exact hn.1)
        · exact absurd (List.mem_map_of_mem (f := (·.1)) e1) (by rw [← e2] at hn; exact hn.1)
        · exact ih hn.2 e1 e2
    exact this _ hnd h1 h2
  have own_none : ∀ x, scope.names.lookup x ≠ some .cell → (cellsFrom (h.objs.size + 1) scope.names []).lookup x = none := by
    intro x hx
    cases hc : (cellsFrom (h.objs.size + 1) scope.names []).lookup x with
    | none => rfl
    | some c =>
      exfalso
      have h1 := (cellsFrom_mem _ _ _ _ (mem_of_lookup hc)).1
      obtain ⟨k', h2⟩ := lookup_some_of_mem h1
      have := uniq _ _ _ (mem_of_lookup h2) h1
      rw [this] at h2
      exact hx h2
  have cases_cell : ∀ x c, (cellsFrom (h.objs.size + 1) scope.names (clGo env.cells scope.names [])).lookup x = some c →
      (cellsFrom (h.objs.size + 1) scope.names []).lookup x = some c ∨ ((cellsFrom (h.objs.size + 1) scope.names []).lookup x = none ∧ env.cells.lookup x = some c) := by
    intro x c hc
    rw [cellsFrom_app, lookup_app] at hc
    cases hq : (cellsFrom (h.objs.size + 1) scope.names []).lookup x with
    | some c' => rw [hq] at hc; simp at hc; exact .inl (by rw [hc])
    | none =>
      rw [hq] at hc
      simp only [Option.none_or] at hc
      exact .inr ⟨rfl, clGo_sound _ _ (fun _ _ e => by simp at e) x c hc⟩
  have outer_lt : ∀ x c, env.cells.lookup x = some c → @LT.lt Nat _ c h.objs.size := fun x c hc => let ⟨o, ho⟩ := R.ex x c hc; Heap.lt_size ho
  have own_ge : ∀ x c, (cellsFrom (h.objs.size + 1) scope.names []).lookup x = some c → @LE.le Nat _ (h.objs.size + 1) c := fun x c hc => (ok.empty x c (mem_of_lookup hc)).2
  refine ⟨hkind, R.glob, R.blt, ⟨fun _ => none, ?_, ?_⟩, ?_, ?_, ?_, ?_⟩
  · exact (Heap.Ns.new h (.type "dict")).keeps (pushCells_keeps _ _)
  · intro x hx
    have hx' : kindC env.kindOf scope x = some .local := by rw [← relabel_kind R.kind]; exact hx
    rw [kindC_eq] at hx'
    split
    · rename_i hf; rw [hf] at hx'; simp at hx'; split at hx' <;> cases hx'
    · rfl
  · intro x hx
    have hx' : kindC env.kindOf scope x = some .cell ∨ kindC env.kindOf scope x = some .free := by rw [← relabel_kind R.kind]; exact hx
    rw [kindC_eq] at hx'
    cases hq : scope.names.lookup x with
    | none => rw [hq] at hx'; simp at hx'
    | some k =>
      rw [hq] at hx'
      by_cases hf : k = .free
      · subst hf
        have hm := mem_of_lookup hq
        have hv := hfree _ hm
        simp only [bne_self_eq_false, Bool.false_or, Bool.or_eq_true, beq_iff_eq] at hv
        obtain ⟨c, h1, h2⟩ := R.cell x hv
        refine ⟨c, ?_, ?_⟩
        · show (cellsFrom _ _ _).lookup x = some c
          rw [cellsFrom_app, lookup_app, own_none x (by rw [hq]; simp)]
          simpa using clGo_has h1 scope.names [] (.inl hm)
        · rw [if_pos rfl]; exact h2.keeps keep
      · have hk : k = .cell := by
          have : (k == NameKind.free) = false := by simpa using hf
          simp [this, hf] at hx'
          exact hx'
        subst hk
        obtain ⟨c, hc⟩ := cellsFrom_has scope.names (h.objs.size + 1) x (mem_of_lookup hq)
        obtain ⟨c', hc'⟩ := lookup_some_of_mem hc
        refine ⟨c', ?_, ?_⟩
        · show (cellsFrom _ _ _).lookup x = some c'
          rw [cellsFrom_app, lookup_app, hc']; rfl
        · rw [if_neg (by simp)]
          exact (ok.empty x c' (mem_of_lookup hc')).1
  · intro x y' c h1 h2
    rcases cases_cell x c h1 with e1 | ⟨_, e1⟩ <;> rcases cases_cell y' c h2 with e2 | ⟨_, e2⟩
    · exact name_of_addr ok.apart (mem_of_lookup e1) (mem_of_lookup e2)
    · have := own_ge x c e1; have := outer_lt y' c e2; omega
    · have := own_ge y' c e2; have := outer_lt x c e1; omega
    · exact R.inj x y' c e1 e2
  · intro x c h1 e
    rcases cases_cell x c h1 with e1 | ⟨_, e1⟩
    · have := own_ge x c e1; have e' : @Eq Nat c h.objs.size := e; omega
    · have := outer_lt x c e1; have e' : @Eq Nat c h.objs.size := e; omega
  · intro x c h1
    rcases cases_cell x c h1 with e1 | ⟨_, e1⟩
    · obtain ⟨o, ho, _⟩ := (ok.empty x c (mem_of_lookup e1)).1; exact ⟨o, ho⟩
    · obtain ⟨o, ho⟩ := R.ex x c e1; exact ⟨o, keep _ _ ho⟩
end Mine
namespace Mine
open PySem PySem.SeqAt

theorem compM_snoc (f : D → Option (Option D)) : ∀ (l : List D) (x : D), compM f (l ++ [x]) = (match compM f l, f x with
    | some ds, some (some d) => some (ds ++ [d])
    | some ds, some Option.none => some ds
    | _, _ => Option.none)
  | [], x => by
    simp only [List.nil_append, compM]
    cases f x with
    | none => rfl
    | some o => cases o <;> rfl
  | y :: l, x => by
    rw [List.cons_append, compM, compM, compM_snoc f l x]
    cases f y with
    | none => rfl
    | some o =>
      cases compM f l with
      | none => rfl
      | some ds =>
        cases f x with
        | none => rfl
        | some o' => cases o' <;> cases o <;> rfl
theorem compM_pre {f : D → Option (Option D)} : ∀ {a b : List D} {out : List D}, compM f (a ++ b) = some out → ∃ o, compM f a = some o
  | [], b, out, h => ⟨[], rfl⟩
  | x :: a, b, out, h => by
    rw [List.cons_append, compM] at h
    rw [compM]
    cases hx : f x with
    | none => rw [hx] at h; cases h
    | some o =>
      rw [hx] at h
      cases hab : compM f (a ++ b) with
      | none => rw [hab] at h; cases h
      | some ds =>
        obtain ⟨o', ho'⟩ := compM_pre hab
        rw [ho']
        exact ⟨_, rfl⟩
theorem compM_len {f : D → Option (Option D)} : ∀ {a : List D} {out : List D}, compM f a = some out → out.length ≤ a.length
  | [], out, h => by simp [compM] at h; simp [← h]
  | x :: a, out, h => by
    rw [compM] at h
    cases hx : f x with
    | none => rw [hx] at h; cases h
    | some o =>
      rw [hx] at h
      cases hab : compM f a with
      | none => rw [hab] at h; cases h
      | some ds =>
        rw [hab] at h
        have := compM_len hab
        cases o <;> (cases h; simp; omega)

theorem notSet_folded {e : Expr} {env : Env} (h : notSet e = true) : ∀ x, foldedSetIterable e env x = pure x := by
  intro x
  cases e <;> first | rfl | (cases h)
theorem notSet_marks {e : Expr} {op : CmpOp} (h : notSet e = true) : behindInMarks op e = false := by
  cases e <;> first | rfl | (cases h)

theorem nodup_lookup : ∀ {l : List (Str × NameKind)}, (l.map (·.1)).Nodup → ∀ p ∈ l, l.lookup p.1 = some p.2
  | q :: l, hn, p, hp => by
    simp only [List.map_cons, List.nodup_cons] at hn
    obtain ⟨a, b⟩ := q
    rw [lookup_cons']
    rcases List.mem_cons.mp hp with e | e
    · subst e; simp
    · split
      · rename_i q; exact absurd (List.mem_map_of_mem (f := (·.1)) e) (by rw [q]; exact hn.1)
      · exact nodup_lookup hn.2 p e

section
variable {prog : Program} {w : World} {A : Around} {E : Value → Shared → Prop} {s : Shared} {H : Addr → Prop}

theorem comp_loop {cenv : Env} {m mC0 : Str → Option Value} {free : Str → Prop} {y : Str} {py pos : Pos} {it elt : Expr} {ifs : List Expr} {scope : Scope} {R : Result → Shared → Prop} {its out : List D} {f : D → Option (Option D)}
    {I L : Addr} {fp : List Addr} {P : Nat → Value → Prop} {St : Nat → Heap → Prop} {F : Addr → Prop} {h1 h4 : Heap} {tk4 : Nat} {dw4 : Drawn}
    (W : Walks prog w A I fp [I] its.length P St) (hfp : ∀ b ∈ fp, b = I ∨ (¬ H b ∧ ∃ o, h1.get? b = some o)) (hP : ∀ i v, i < its.length → P i v → ∃ d, its[i]? = some d ∧ Rep w.params h1 H v d)
    (hky : cenv.kindOf y = some .local ∨ cenv.kindOf y = some .cell) (hyf : ¬ free y)
    (hst : St 0 h4) (hacc : h4.PlainList L #[]) (RC : EnvRep h4 cenv mC0) (hfv : ∀ x, free x → mC0 x = m x)
    (FI : F I) (FL : F L) (FC : F cenv.locals) (Fy : ∀ c, cenv.cells.lookup y = some c → F c)
    (nIL : I ≠ L) (nIC : I ≠ cenv.locals) (nLC : L ≠ cenv.locals) (ncell : ∀ x c, cenv.cells.lookup x = some c → c ≠ L ∧ c ≠ I)
    (Ff : ∀ b, F b → h1.get? b = none) (Fx : ∀ b, F b → b ≠ I → ∃ o, h4.get? b = some o) (IC : @LE.le Nat _ I cenv.locals) (hH : Ex h1 H) (k01 : ∀ b o, s.heap.get? b = some o → h1.get? b = some o) (k14 : ∀ b o, h1.get? b = some o → h4.get? b = some o)
    (hlen : its.length ≤ big) (hout : compM f its = some out)
    (helt : ∀ (s₂ : Shared) (mC : Str → Option Value) (H₂ : Addr → Prop) (v : Value) (dv : D) (r : Option D), dv ∈ its → f dv = some r → EnvRep s₂.heap cenv mC → mC y = some v → Rep w.params s₂.heap H₂ v dv →
      (∀ x, free x → mC x = m x) → Ex s₂.heap H₂ → Keeps s s₂ → (∀ a o, s.heap.get? a = some o → H₂ a → H a) → ∀ E' : Value → Shared → Prop,
      wpAny (model prog w) A (forIn ifs true fun c r => if r = true then do let ok ← isTrue c cenv (eval c cenv); pure (ForInStep.yield ok) else pure (ForInStep.yield r))
        (fun ok s₃ => Keeps s₂ s₃ ∧ ok = r.isSome ∧ ∀ dr, r = some dr → wpAny (model prog w) A (eval elt cenv) (fun v' s₄ => Keeps s₃ s₄ ∧ Rep w.params s₄.heap H₂ v' dr) E' s₃) E' s₂)
    (hR : ∀ h' tk dw m', h'.Ns cenv.locals m' → OwnL w.params h' (fun b => H b ∨ F b) L out → (∀ b o, s.heap.get? b = some o → h'.get? b = some o) → R (.ok .next) { s with heap := h', toks := tk, drawn := dw }) :
    codeAny (model prog w) A (.compLoop (.ListComp elt [⟨.Name y py, it, ifs, 0⟩] scope pos) 0 (.ref I) (.ref L) cenv) R { s with heap := h4, toks := tk4, drawn := dw4 } := by
  refine codeAny_compLoop_tests
    (fun k s' => ∃ h tk dw done rest o ys mC, s' = { s with heap := h, toks := tk, drawn := dw } ∧ its = done ++ rest ∧ St done.length h ∧ h.PlainList L ys ∧ compM f done = some o ∧ RepAll w.params h (fun b => H b ∨ F b) ys.toList o ∧ EnvRep h cenv mC ∧
      (∀ x, free x → mC x = m x) ∧ (∀ b o, h1.get? b = some o → h.get? b = some o) ∧ (∀ b, F b → b ≠ I → ∃ o, h.get? b = some o) ∧ k = its.length + 1 - done.length) ?_ (its.length + 1)
    ⟨h4, tk4, dw4, [], its, [], #[], mC0, rfl, rfl, hst, hacc, rfl, by simpa using RepAll.nil, RC, hfv, k14, Fx, rfl⟩
  rintro k s' ⟨h, tk, dw, done, rest, o, ys, mC, rfl, hits, hst', hacc', ho, hys, RC', hfv', k1h, Fx', rfl⟩
  have hysl : ys.size = o.length := by have := hys.length; simpa using this
  have hol : o.length ≤ done.length := compM_len ho
  have hdl : done.length + rest.length = its.length := by rw [hits]; simp
  cases rest with
  | nil =>
    simp only [List.append_nil] at hits
    subst hits
    rw [hout] at ho; cases ho
    refine W.done _ _ _ hst' fun h' tk' hk' => ?_
    obtain ⟨ml, hns, _⟩ := RC'.loc
    refine hR h' tk' dw ml (Ns.keepAt hns fun o e => hk' _ o (by simpa using Ne.symm nIC) e) ?_ fun b o e => hk' b o ?_ (k1h b o (k01 b o e))
    · obtain ⟨n, hL⟩ := hacc'
      refine ⟨ys, n, hk' _ _ (by simpa using Ne.symm nIL) hL, Nat.le_trans hol hlen, ?_⟩
      exact hys.mono (fun a o' hn e => hk' a o' (fun q => hn (.inr (by simp at q; rw [q]; exact FI))) e) fun a o' _ q => q.elim id fun q => .inr (q ▸ FL)
    · intro q
      simp at q
      have := Ff I FI
      rw [← q, k01 b o e] at this; cases this
  | cons dv rest' =>
    have hlt : done.length < its.length := by rw [hits]; simp
    refine W.item done.length _ _ _ hlt hst' fun v h₁ tk₁ hPv hst₁ hk₁ => ?_
    obtain ⟨dv', e1, rv⟩ := hP _ v hlt hPv
    have : dv' = dv := by
      rw [hits] at e1
      simpa using e1.symm
    subst this
    have RC₁ : EnvRep h₁ cenv mC := RC'.keepsAt fun a o' ha e => hk₁ a o' (by
      simp only [List.mem_singleton]
      rcases ha with rfl | ⟨x, hx⟩
      · exact Ne.symm nIC
      · exact (ncell x a hx).2) e
    refine wpAny_assign_Name (store_snd (s := { s with heap := h₁, toks := tk₁, drawn := dw }) RC₁ hky fun h₂ tk₂ dw₂ a RC₂ ha hs₂ => ?_)
    have Fa : F a := ha.elim (fun e => e ▸ FC) fun e => Fy a e
    have aI : a ≠ I := ha.elim (fun e => e ▸ Ne.symm nIC) fun e => (ncell y a e).2
    have aL : a ≠ L := ha.elim (fun e => e ▸ Ne.symm nLC) fun e => (ncell y a e).1
    have nF1 : ∀ b o', h1.get? b = some o' → ¬ F b := fun b o' e q => by have := Ff b q; rw [e] at this; cases this
    have k12 : ∀ b o', h1.get? b = some o' → h₂.get? b = some o' := fun b o' e => (hs₂.2 b (fun q => nF1 b o' e (q ▸ Fa))).trans (hk₁ b o' (by simp only [List.mem_singleton]; rintro rfl; exact nF1 _ _ e FI) (k1h b o' e))
    have hst₂ : St (done.length + 1) h₂ := W.frame _ _ _ hst₁ fun b hb o' e => by
      refine (hs₂.2 b fun q => ?_).trans e
      rcases hfp b hb with e2 | ⟨_, o2, e2⟩
      · exact aI (q ▸ e2)
      · exact nF1 b o2 e2 (q ▸ Fa)
    have Fx₂ : ∀ b, F b → b ≠ I → ∃ o', h₂.get? b = some o' := fun b hb hbI => by
      obtain ⟨o', e⟩ := Fx' b hb hbI
      have e1 := hk₁ b o' (by simpa using hbI) e
      by_cases q : b = a
      · rcases ha with e2 | e2
        · obtain ⟨_, ⟨o2, _, _, e3, _⟩, _⟩ := RC₂.loc
          exact ⟨o2, by rw [q, e2]; exact e3⟩
        · obtain ⟨o2, e3⟩ := RC₂.ex y a e2
          exact ⟨o2, by rw [q]; exact e3⟩
      · exact ⟨o', (hs₂.2 b q).trans e1⟩
    have hmem : dv' ∈ its := by rw [hits]; simp
    have hfd : ∃ r, f dv' = some r ∧ compM f (done ++ [dv']) = some (match r with | some x => o ++ [x] | Option.none => o) := by
      rw [hits, show done ++ dv' :: rest' = (done ++ [dv']) ++ rest' by simp] at hout
      obtain ⟨o', ho'⟩ := compM_pre hout
      have h2 := ho'
      rw [compM_snoc, ho] at ho'
      cases hf : f dv' with
      | none => rw [hf] at ho'; cases ho'
      | some r =>
        refine ⟨r, rfl, ?_⟩
        rw [hf] at ho'
        rw [h2]
        cases r <;> (cases ho'; rfl)
    obtain ⟨r, hfr, hnext⟩ := hfd
    have hH₂ : Ex h₂ (fun b => H b ∨ F b) := fun b hb => hb.elim (fun q => let ⟨b', o', hb', e⟩ := hH b q; ⟨b', o', hb', k12 b' o' e⟩) fun q => by
      by_cases hbI : b = I
      · obtain ⟨o', e⟩ := Fx₂ _ FC (Ne.symm nIC)
        exact ⟨_, o', hbI ▸ IC, e⟩
      · obtain ⟨o', e⟩ := Fx₂ b q hbI
        exact ⟨b, o', Nat.le_refl _, e⟩
    have rv₂ : Rep w.params h₂ (fun b => H b ∨ F b) v dv' := rv.mono (fun b o' _ e => k12 b o' e) fun b o' e q => q.elim id fun q => absurd q (nF1 b o' e)
    refine wpAny_mono (helt { s with heap := h₂, toks := tk₂, drawn := dw₂ } (upd mC y v) (fun b => H b ∨ F b) v dv' r hmem hfr RC₂ (by simp [upd]) rv₂ (fun x hx => by
      have : x ≠ y := fun e => hyf (e ▸ hx)
      simp [upd, this, hfv' x hx]) hH₂ ⟨h₂, tk₂, dw₂, rfl, fun b o' e => k12 b o' (k01 b o' e)⟩ (fun b o' e q => q.elim id fun q => absurd q (nF1 b o' (k01 b o' e))) _) (fun ok s₃ h₃ => ?_) fun _ _ e => e
    obtain ⟨kp3, rfl, he3⟩ := h₃
    obtain ⟨h₃, tk₃, dw₃, rfl, k23⟩ := kp3
    have hys₂ : RepAll w.params h₂ (fun b => H b ∨ F b) ys.toList o := hys.mono (fun b o' hn e => (hs₂.2 b fun q => hn (.inr (q ▸ Fa))).trans (hk₁ b o' (by simp only [List.mem_singleton]; rintro rfl; exact hn (.inr FI)) e)) fun _ _ _ q => q
    have hacc₂ : h₂.PlainList L ys := by
      obtain ⟨n, hL⟩ := hacc'
      exact ⟨n, (hs₂.2 L (Ne.symm aL)).trans (hk₁ _ _ (by simpa using Ne.symm nIL) hL)⟩
    have hacc₃ : h₃.PlainList L ys := let ⟨n, hL⟩ := hacc₂; ⟨n, k23 _ _ hL⟩
    cases r with
    | none =>
      simp only [Option.isSome_none, Bool.false_eq_true, if_false]
      refine ⟨its.length + 1 - (done.length + 1), by omega, h₃, tk₃, dw₃, done ++ [dv'], rest', o, ys, _, rfl, by rw [hits]; simp, ?_, hacc₃, hnext, hys₂.keeps k23, RC₂.keeps k23, ?_, fun b o' e => k23 _ _ (k12 b o' e), fun b hb hbI => let ⟨o', e⟩ := Fx₂ b hb hbI; ⟨o', k23 _ _ e⟩, by simp⟩
      · have := W.frame _ _ h₃ hst₂ fun b _ o' e => k23 b o' e
        simpa using this
      · intro x hx
        have : x ≠ y := fun e => hyf (e ▸ hx)
        simp [upd, this, hfv' x hx]
    | some dr =>
      simp only [Option.isSome_some, if_true]
      refine wpAny_mono (he3 dr rfl) (fun x s₄ h₄ => ?_) fun _ _ e => e
      obtain ⟨⟨h₄, tk₄, dw₄, rfl, k34⟩, rx⟩ := h₄
      have hacc₄ : h₄.PlainList L ys := let ⟨n, hL⟩ := hacc₃; ⟨n, k34 _ _ hL⟩
      refine wpAny_list_append_plain hacc₄ (fun h₅ hl₅ hs₅ => ?_) (by
        have e9 : big = sizeLine := rfl
        omega)
      have notL : ∀ {b}, ¬ (H b ∨ F b) → b ≠ L := fun hn q => hn (.inr (q ▸ FL))
      refine ⟨its.length + 1 - (done.length + 1), by omega, h₅, tk₄, dw₄, done ++ [dv'], rest', o ++ [dr], ys.push x, _, rfl, by rw [hits]; simp, ?_, hl₅, hnext, ?_, (RC₂.keeps fun b o' e => k34 _ _ (k23 b o' e)).keepsAt fun b o' hb e => (hs₅.2 b ?_).trans e, ?_, ?_, ?_, by simp⟩
      · have := W.frame _ _ h₅ hst₂ fun b hb o' e => (hs₅.2 b ?_).trans (k34 _ _ (k23 b o' e))
        · simpa using this
        · rcases hfp b hb with e2 | ⟨_, o2, e2⟩
          · rw [e2]; exact nIL
          · rintro rfl; exact nF1 _ _ e2 FL
      · have r1 := (hys₂.keeps k23).keeps k34
        have r2 : RepAll w.params h₄ (fun b => H b ∨ F b) (ys.toList ++ [x]) (o ++ [dr]) := r1.append (.cons rx .nil)
        have r3 := r2.mono (h' := h₅) (H' := fun b => H b ∨ F b) (fun b o' hn e => (hs₅.2 b (notL hn)).trans e) fun _ _ _ q => q
        simpa using r3
      · rcases hb with rfl | ⟨z, hz⟩
        · exact Ne.symm nLC
        · exact (ncell z b hz).1
      · intro z hz
        have : z ≠ y := fun e => hyf (e ▸ hz)
        simp [upd, this, hfv' z hz]
      · exact fun b o' e => (hs₅.2 b (fun q => nF1 b o' e (q ▸ FL))).trans (k34 _ _ (k23 _ _ (k12 b o' e)))
      · intro b hb hbI
        by_cases q : b = L
        · obtain ⟨n, hL⟩ := hl₅; exact ⟨_, q ▸ hL⟩
        · obtain ⟨o', e⟩ := Fx₂ b hb hbI
          exact ⟨o', (hs₅.2 b q).trans (k34 _ _ (k23 _ _ e))⟩

theorem comp_core {env : Env} {m : Str → Option Value} {scope : Scope} {y : Str} {py pos ppos : Pos} {it elt : Expr} {ifs : List Expr} {use : Option (Value → Sem Unit)} {Q : Value → Shared → Prop} {d : D} {its out : List D} {f : D → Option (Option D)}
    (R : EnvRep s.heap env m) (hok : okScope env.kindOf scope y = true) (hset : notSet it = true) (hh : A.handled = none) (hH : Ex s.heap H)
    (hit : wpAny (model prog w) A (eval it env) (Post w s H d) E s) (hits : d.items = some its) (hlen : its.length ≤ big) (hout : compM f its = some out)
    (helt : ∀ (s₂ : Shared) (cenv : Env) (mC : Str → Option Value) (H₂ : Addr → Prop) (v : Value) (dv : D) (r : Option D), dv ∈ its → f dv = some r → cenv.kindOf = kindC env.kindOf scope → EnvRep s₂.heap cenv mC → mC y = some v → Rep w.params s₂.heap H₂ v dv →
      (∀ x, scope.names.lookup x = some .free → mC x = m x) → Ex s₂.heap H₂ → Keeps s s₂ → (∀ a o, s.heap.get? a = some o → H₂ a → H a) → ∀ E' : Value → Shared → Prop,
      wpAny (model prog w) A (forIn ifs true fun c r => if r = true then do let ok ← isTrue c cenv (eval c cenv); pure (ForInStep.yield ok) else pure (ForInStep.yield r))
        (fun ok s₃ => Keeps s₂ s₃ ∧ ok = r.isSome ∧ ∀ dr, r = some dr → wpAny (model prog w) A (eval elt cenv) (fun v' s₄ => Keeps s₃ s₄ ∧ Rep w.params s₄.heap H₂ v' dr) E' s₃) E' s₂)
    (hQ : ∀ L C h' tk dw m', (∀ b o, s.heap.get? b = some o → @LT.lt Nat _ b L) → s.heap.get? C = none → L ≠ C → h'.Ns C m' → OwnL w.params h' (fun b => H b ∨ b = C) L out → (∀ b o, s.heap.get? b = some o → h'.get? b = some o) →
      compPost (model prog w) A E use Q (.ref L) C (.ok .next) { s with heap := h', toks := tk, drawn := dw }) :
    wpAny (model prog w) A (comprehension (.ListComp elt [⟨.Name y py, it, ifs, 0⟩] scope pos) scope env ppos (newList []) false (eval it env) use) Q E s := by
  have hok' := hok
  unfold okScope at hok'
  simp only [Bool.and_eq_true, decide_eq_true_eq, beq_iff_eq, List.all_eq_true, Bool.or_eq_true] at hok'
  obtain ⟨⟨⟨⟨hkind, hnodup⟩, hy⟩, hfree⟩, _⟩ := hok'
  refine wpAny_comprehension_free (cl := clGo env.cells scope.names []) rfl (notSet_folded hset) (closureFor_go fun p hp hf => ?_) hkind (fun x hx hl => by rw [nodup_lookup hnodup x hx, hl]) ?_
  · have hv := hfree p hp
    simp only [hf, bne_self_eq_false, Bool.false_eq_true, false_or] at hv
    obtain ⟨c, h1, _⟩ := R.cell p.1 hv
    exact ⟨c, h1⟩
  refine wpAny_mono hit (fun xv s₁ h₁ => ?_) fun _ _ e => e
  obtain ⟨k1, rep1⟩ := h₁
  have hiter := iter_snd (prog := prog) (E := E) rep1 hh hits
  refine wpAny_mono hiter (fun itv s₂ h₂ => ?_) fun _ _ e => e
  obtain ⟨I, rfl, IA⟩ := h₂
  obtain ⟨fp, P, St, W, hst, hfp, hP, _⟩ := IA.walk
  refine wpAny_newObj_type (newEnvA ?_)
  dsimp only
  obtain ⟨h2, tk2, dw2, rfl, k12⟩ := IA.keeps
  obtain ⟨h1, tk1, dw1, rfl, k01⟩ := k1
  dsimp only at k12 k01 ⊢
  generalize hh3 : h2.push { cls := .type "list", dict := none, data := .seq ([] : List Value).toArray } = h3
  have R3 : EnvRep h3 env m := (R.keeps k01).keeps fun b o e => hh3 ▸ Heap.get?_push_of_some _ (k12 b o e)
  have RC := compEnv_rep (y := y) R3 hok
  have size3 : h3.objs.size = h2.objs.size + 1 := by rw [← hh3, Heap.size_push]
  obtain ⟨oI, hI⟩ := IA.ex
  dsimp only at hI
  have I_lt : @LT.lt Nat _ I h2.objs.size := Heap.lt_size hI
  have ok := cells_facts h3 scope { cls := .type "dict", data := .dict #[] }
  have k34 : ∀ b o, h3.get? b = some o → (pushCells (h3.push { cls := .type "dict", data := .dict #[] }) scope.names).get? b = some o := fun b o e => pushCells_keeps _ _ b o (Heap.get?_push_of_some _ e)
  have k23 : ∀ b o, h2.get? b = some o → h3.get? b = some o := fun b o e => hh3 ▸ Heap.get?_push_of_some _ e
  have hL3 : h3.get? h2.objs.size = some (lstO #[] 0) := by rw [← hh3]; exact Heap.get?_push_size _ rfl
  have lt1 : ∀ b o, h1.get? b = some o → @LT.lt Nat _ b h2.objs.size := fun b o e => Heap.lt_size (k12 b o e)
  have own_ge : ∀ x c, (x, c) ∈ cellsFrom (h3.objs.size + 1) scope.names [] → @LE.le Nat _ (h3.objs.size + 1) c := fun x c hc => (ok.empty x c hc).2
  have cellb : ∀ x c, (cellsFrom (h3.objs.size + 1) scope.names (clGo env.cells scope.names [])).lookup x = some c → (x, c) ∈ cellsFrom (h3.objs.size + 1) scope.names [] ∨ (∃ o, h1.get? c = some o ∧ True) := by
    intro x c hc
    rw [cellsFrom_app, lookup_app] at hc
    cases hq : (cellsFrom (h3.objs.size + 1) scope.names []).lookup x with
    | some c' => rw [hq] at hc; simp at hc; exact .inl (hc ▸ mem_of_lookup hq)
    | none =>
      rw [hq] at hc
      simp only [Option.none_or] at hc
      obtain ⟨o, ho⟩ := R.ex x c (clGo_sound _ _ (fun _ _ e => by simp at e) x c hc)
      exact .inr ⟨o, k01 _ _ ho, trivial⟩
  have hcellfacts : ∀ x c, (cellsFrom (h3.objs.size + 1) scope.names (clGo env.cells scope.names [])).lookup x = some c → c ≠ h2.objs.size ∧ c ≠ I := by
    intro x c hc
    rcases cellb x c hc with e | ⟨o, e, _⟩
    · have := own_ge x c e
      constructor
      · rintro rfl; omega
      · rintro rfl; omega
    · have := lt1 c o e
      constructor
      · rintro rfl; exact Nat.lt_irrefl _ this
      · rintro rfl; have := IA.fresh; dsimp only at this; rw [e] at this; cases this
  have nIC : I ≠ h3.objs.size := by rintro rfl; omega
  have nLC : h2.objs.size ≠ h3.objs.size := by omega
  have nIL : I ≠ h2.objs.size := by rintro rfl; exact Nat.lt_irrefl _ I_lt
  have hkC : (fun x => (relabel scope env).names.lookup x) = kindC env.kindOf scope := relabel_kind R.kind
  have ynf : scope.names.lookup y ≠ some .free := by rcases hy with e | e <;> (rw [e]; simp)
  have none_of : ∀ b, (∀ o, h1.get? b ≠ some o) → h1.get? b = none := fun b hb => by
    cases e : h1.get? b with
    | none => rfl
    | some o => exact absurd e (hb o)
  have loop : ∀ tk4 dw4, codeAny (model prog w) A (.compLoop (.ListComp elt [⟨.Name y py, it, ifs, 0⟩] scope pos) 0 (.ref I) (.ref h2.objs.size)
      { scope := relabel scope env, locals := h3.objs.size, globals := env.globals, cells := cellsFrom (h3.objs.size + 1) scope.names (clGo env.cells scope.names []), qual := env.qual, func := none, code := env.code, frame := env.frame, builtins := env.builtins })
      (compPost (model prog w) A E use Q (.ref h2.objs.size) h3.objs.size) { s with heap := pushCells (h3.push { cls := .type "dict", data := .dict #[] }) scope.names, toks := tk4, drawn := dw4 } := by
    intro tk4 dw4
    refine comp_loop (s := s) (H := H) (m := m) (free := fun x => scope.names.lookup x = some .free) (F := fun b => b = I ∨ b = h2.objs.size ∨ b = h3.objs.size ∨ ∃ x, (x, b) ∈ cellsFrom (h3.objs.size + 1) scope.names []) (h1 := h1) (mC0 := fun x => if scope.names.lookup x = some .free then m x else none)
      W hfp hP ?_ ynf ?_ ?_ RC (fun x hx => by simp [hx]) (.inl rfl) (.inr (.inl rfl)) (.inr (.inr (.inl rfl))) ?_ nIL nIC nLC hcellfacts ?_ ?_ (by show @LE.le Nat _ I h3.objs.size; omega) (hH.keeps k01) k01 (fun b o e => k34 b o (k23 b o (k12 b o e))) hlen hout ?_ ?_
    · show (fun x => (relabel scope env).names.lookup x) y = _ ∨ (fun x => (relabel scope env).names.lookup x) y = _
      rw [hkC, kindC_eq]
      rcases hy with e | e
      · exact .inl (by rw [e]; rfl)
      · exact .inr (by rw [e]; rfl)
    · refine W.frame _ _ _ hst fun b _ o e => k34 b o (k23 b o e)
    · exact ⟨0, k34 _ _ hL3⟩
    · intro c hc
      rcases cellb y c hc with e | ⟨o, e, _⟩
      · exact .inr (.inr (.inr ⟨y, e⟩))
      · exfalso
        have hc' : (cellsFrom (h3.objs.size + 1) scope.names (clGo env.cells scope.names [])).lookup y = some c := hc
        rw [cellsFrom_app, lookup_app] at hc'
        have hym : scope.names.lookup y = some .cell := by
          rcases hy with e1 | e1
          · exfalso
            have hno : (cellsFrom (h3.objs.size + 1) scope.names []).lookup y = none := by
              cases hq : (cellsFrom (h3.objs.size + 1) scope.names []).lookup y with
              | none => rfl
              | some c' =>
                have h5 := (cellsFrom_mem _ _ _ _ (mem_of_lookup hq)).1
                have h6 := nodup_lookup hnodup _ h5
                simp only at h6
                rw [e1] at h6; cases h6
            rw [hno] at hc'
            simp only [Option.none_or] at hc'
            rcases clGo_mem _ _ _ _ hc' with q | q
            · have h6 := nodup_lookup hnodup _ q
              simp only at h6
              rw [e1] at h6; cases h6
            · simp at q
          · exact e1
        obtain ⟨c2, hc2⟩ := cellsFrom_has scope.names (h3.objs.size + 1) y (mem_of_lookup hym)
        obtain ⟨c3, hc3⟩ := lookup_some_of_mem hc2
        rw [hc3] at hc'
        simp at hc'
        subst hc'
        have := own_ge y c3 (mem_of_lookup hc3)
        have := lt1 c3 o e
        omega
    · intro b hb
      refine none_of b fun o e => ?_
      have := lt1 b o e
      rcases hb with rfl | rfl | rfl | ⟨x, hx⟩
      · have := IA.fresh; dsimp only at this; rw [e] at this; cases this
      · exact Nat.lt_irrefl _ this
      · omega
      · have := own_ge x b hx; omega
    · intro b hb hbI
      rcases hb with rfl | rfl | rfl | ⟨x, hx⟩
      · exact absurd rfl hbI
      · exact ⟨_, k34 _ _ hL3⟩
      · obtain ⟨_, ⟨o, _, _, e, _⟩, _⟩ := RC.loc
        exact ⟨o, e⟩
      · obtain ⟨o, e, _⟩ := (ok.empty x b hx).1
        exact ⟨o, e⟩
    · intro s₂ mC H₂ v dv r hm hf RC' hv rv hfv hx kp hsub E'
      refine helt s₂ _ mC H₂ v dv r hm hf ?_ RC' hv rv hfv hx kp hsub E'
      exact hkC
    · intro h' tk dw m' hns hown hk
      refine hQ h2.objs.size h3.objs.size h' tk dw m' ?_ ?_ nLC hns ?_ hk
      · exact fun b o e => lt1 _ o (k01 _ o e)
      · cases e : s.heap.get? h3.objs.size with
        | none => rfl
        | some o => have := lt1 _ o (k01 _ o e); omega
      · obtain ⟨vs, n, q1, q2, q3⟩ := hown
        exact ⟨vs, n, q1, q2, q3.mono (fun _ _ _ e => e) fun a o _ q => q.elim (fun q => q.elim (fun q => .inl (.inl q)) fun q => .inl (.inr (.inr (.inr (.inl q))))) fun q => .inr q⟩
  refine codeAny_compStart_list (loop _ _) (W.self 0 _ _ _ ?_ (loop _ _))
  exact W.frame _ _ _ hst fun b _ o e => k34 b o (k23 b o e)
end
end Mine
namespace Mine
open PySem PySem.SeqAt

noncomputable def bltNames : List String := ["len", "isinstance", "range", "tuple", "int", "str", "list", "bool", "set", "sum", "max", "min", "sorted"]

structure GOk (mg mb : Str → Option Value) (h : Heap) : Prop where
  g : h.Ns mainGlobals mg
  b : h.Ns builtinsNs mb
  lim : h.NoLimit
  blt : ∀ f ∈ bltNames, mg (Str.ofString f) = none ∧ mb (Str.ofString f) = some (bltVal f)

/-- the heap bears the base; the places in H are laid, and none of the base's -/
structure HOk (base h : Heap) (H : Addr → Prop) : Prop where
  keep : ∀ b o, base.get? b = some o → h.get? b = some o
  ex : Ex h H
  off : ∀ b o, base.get? b = some o → ¬ H b
theorem HOk.keeps {base h h' : Heap} {H : Addr → Prop} (x : HOk base h H) (hk : ∀ a o, h.get? a = some o → h'.get? a = some o) : HOk base h' H :=
  ⟨fun b o e => hk b o (x.keep b o e), x.ex.keeps hk, x.off⟩

structure CSound (prog : Program) (w : World) (base : Heap) (mg : Str → Option Value) (cf : CF) (A : Around) : Prop where
  call : ∀ f ds d fr, cf.call f ds = some (d, fr) → ∃ a o fd, mg (Str.ofString f) = some (.ref a) ∧ base.get? a = some o ∧ o.data = .func fd ∧
    ∀ (s : Shared) (H : Addr → Prop) (vs : List Value) (E : Value → Shared → Prop), HOk base s.heap H → RepAll w.params s.heap H vs ds →
      wpAny (model prog w) A (PySem.call (.ref a) vs) (PostF w s H d fr) E s
  glob : ∀ x d, cf.glob x = some d → ∃ v, mg (Str.ofString x) = some v ∧ Rep w.params base (fun _ => False) v d

/-- what is known of the variables that are read -/
noncomputable def NV (P : Params) (k : KD) (ns : List String) (ρ : List (String × D)) (m : Str → Option Value) (h : Heap) (H : Addr → Prop) : Prop :=
  ∀ x ∈ ns, isVar k (Str.ofString x) = true → ∀ d, ρ.lookup x = some d → ∃ v, m (Str.ofString x) = some v ∧ Rep P h H v d
theorem NV.sub {P : Params} {k : KD} {ns ns' : List String} {ρ : List (String × D)} {m : Str → Option Value} {h : Heap} {H : Addr → Prop} (n : NV P k ns ρ m h H) (hs : ∀ x ∈ ns', x ∈ ns) : NV P k ns' ρ m h H :=
  fun x hx => n x (hs x hx)
theorem NV.keeps {P : Params} {k : KD} {ns : List String} {ρ : List (String × D)} {m : Str → Option Value} {h h' : Heap} {H : Addr → Prop} (n : NV P k ns ρ m h H) (hk : ∀ a o, h.get? a = some o → h'.get? a = some o) : NV P k ns ρ m h' H :=
  fun x hx hv d hd => let ⟨v, h1, h2⟩ := n x hx hv d hd; ⟨v, h1, h2.keeps hk⟩

section
variable {prog : Program} {w : World} {A : Around} {s : Shared} {base : Heap} {mg mb : Str → Option Value} {cf : CF}

/-- a run of an expression is sound -/
noncomputable def SE (prog : Program) (w : World) (A : Around) (base : Heap) (cf : CF) (me : ME) : Prop :=
  ∀ (s : Shared) (env : Env) (e : Expr) (H : Addr → Prop) (ρ : List (String × D)) (m : Str → Option Value) (d : D) (E : Value → Shared → Prop), chkE env.kindOf e me = true → EnvRep s.heap env m →
    HOk base s.heap H → NV w.params env.kindOf me.names ρ m s.heap H → evE cf ρ me = some d → wpAny (model prog w) A (eval e env) (Post w s H d) E s
noncomputable def SEs (prog : Program) (w : World) (A : Around) (base : Heap) (cf : CF) (ms : List ME) : Prop :=
  ∀ (s : Shared) (env : Env) (es : List Expr) (H : Addr → Prop) (ρ : List (String × D)) (m : Str → Option Value) (ds : List D) (E : Value → Shared → Prop), chkEs env.kindOf es ms = true → EnvRep s.heap env m →
    HOk base s.heap H → NV w.params env.kindOf (namesL ms) ρ m s.heap H → evEs cf ρ ms = some ds →
    wpAny (model prog w) A (spliced (es.map fun e => (false, eval e env))) (fun vs s' => Keeps s s' ∧ RepAll w.params s'.heap H vs ds) E s
noncomputable def ST (prog : Program) (w : World) (A : Around) (base : Heap) (cf : CF) (me : ME) : Prop :=
  ∀ (s : Shared) (env : Env) (e : Expr) (H : Addr → Prop) (ρ : List (String × D)) (m : Str → Option Value) (d : D) (t : Bool) (E : Value → Shared → Prop), chkE env.kindOf e me = true → EnvRep s.heap env m →
    HOk base s.heap H → NV w.params env.kindOf me.names ρ m s.heap H → evE cf ρ me = some d → truth d = some t →
    wpAny (model prog w) A (isTrue e env (eval e env)) (fun b s' => Keeps s s' ∧ b = t) E s
noncomputable def SB (prog : Program) (w : World) (A : Around) (base : Heap) (cf : CF) (ms : List ME) : Prop :=
  ∀ (s : Shared) (env : Env) (es : List Expr) (op : BoolOp) (pos : Pos) (H : Addr → Prop) (ρ : List (String × D)) (m : Str → Option Value) (d : D) (E : Value → Shared → Prop), chkEs env.kindOf es ms = true → EnvRep s.heap env m →
    HOk base s.heap H → NV w.params env.kindOf (namesL ms) ρ m s.heap H → evBop cf ρ op ms = some d →
    wpAny (model prog w) A (eval (.BoolOp op es pos) env) (Post w s H d) E s ∧ ∀ t whole, truth d = some t → wpAny (model prog w) A (isTrue (.BoolOp op es pos) env whole) (fun b s' => Keeps s s' ∧ b = t) E s
noncomputable def SC (prog : Program) (w : World) (A : Around) (base : Heap) (cf : CF) (ms : List ME) : Prop :=
  ∀ (s : Shared) (env : Env) (es : List Expr) (H : Addr → Prop) (ρ : List (String × D)) (m : Str → Option Value) (t : Bool) (E : Value → Shared → Prop), chkEs env.kindOf es ms = true → EnvRep s.heap env m →
    HOk base s.heap H → NV w.params env.kindOf (namesL ms) ρ m s.heap H → evCs cf ρ ms = some t →
    wpAny (model prog w) A (forIn es true fun c r => if r = true then do let ok ← isTrue c env (eval c env); pure (ForInStep.yield ok) else pure (ForInStep.yield r)) (fun b s' => Keeps s s' ∧ b = t) E s

/-! leaves -/
theorem se_var (x : String) : SE prog w A base cf (.var x) := by
  intro s env e H ρ m d E hc R hb hn he
  replace hc := inv_var hc; obtain ⟨_, _, rfl, hc⟩ := hc
  · simp only [Bool.and_eq_true, beq_iff_eq] at hc
    obtain ⟨rfl, hv⟩ := hc
    simp only [ev_var, ev_glob, ev_int, ev_str, ev_bool, ev_none, ev_bin, ev_cmp, ev_bop, ev_not, ev_neg, ev_tup, ev_lst, ev_dct, ev_sub, ev_sl, ev_comp, ev_call, ev_isi, ev_blt, ev_lcp] at he
    obtain ⟨v, h1, h2⟩ := hn x (by simp [nm_var, nm_lcp]) hv d he
    exact load_snd R hv h1 ⟨Kp.refl _, h2⟩
theorem se_glob (G : GOk mg mb base) (C : CSound prog w base mg cf A) (x : String) : SE prog w A base cf (.glob x) := by
  intro s env e H ρ m d E hc R hb hn he
  replace hc := inv_glob hc; obtain ⟨_, _, rfl, hc⟩ := hc
  · simp only [Bool.and_eq_true, beq_iff_eq, isGlob, bne_iff_ne] at hc
    obtain ⟨rfl, hv, hd⟩ := hc
    simp only [ev_var, ev_glob, ev_int, ev_str, ev_bool, ev_none, ev_bin, ev_cmp, ev_bop, ev_not, ev_neg, ev_tup, ev_lst, ev_dct, ev_sub, ev_sl, ev_comp, ev_call, ev_isi, ev_blt, ev_lcp] at he
    obtain ⟨v, h1, h2⟩ := C.glob x d he
    refine Calls.Name_function_global R.kind hv (Calls.loadGlobal_global (mg := mg) (by rw [R.glob]; exact G.g.keeps hb.keep) h1 ⟨Kp.refl _, ?_⟩) (by simpa using hd)
    exact h2.mono (fun a o _ e => hb.keep a o e) fun a o e q => absurd q (hb.off a o e)
theorem se_int (i : Int) : SE prog w A base cf (.int i) := by
  intro s env e H ρ m d E hc R hb hn he
  replace hc := inv_int hc; obtain ⟨_, _, rfl⟩ := hc
  · simp only [ev_var, ev_glob, ev_int, ev_str, ev_bool, ev_none, ev_bin, ev_cmp, ev_bop, ev_not, ev_neg, ev_tup, ev_lst, ev_dct, ev_sub, ev_sl, ev_comp, ev_call, ev_isi, ev_blt, ev_lcp] at he; cases he
    exact wpAny_Constant_int ⟨Kp.tok _ _, .int _ _⟩
theorem se_str (x : String) : SE prog w A base cf (.str x) := by
  intro s env e H ρ m d E hc R hb hn he
  replace hc := inv_str hc; obtain ⟨_, _, rfl⟩ := hc
  · simp only [ev_var, ev_glob, ev_int, ev_str, ev_bool, ev_none, ev_bin, ev_cmp, ev_bop, ev_not, ev_neg, ev_tup, ev_lst, ev_dct, ev_sub, ev_sl, ev_comp, ev_call, ev_isi, ev_blt, ev_lcp] at he; cases he
    exact Calls.Constant_str ⟨Kp.tok _ _, .str _ _⟩
theorem se_bool (b : Bool) : SE prog w A base cf (.bool b) := by
  intro s env e H ρ m d E hc R hb hn he
  replace hc := inv_bool hc; obtain ⟨_, _, rfl⟩ := hc
  · simp only [ev_var, ev_glob, ev_int, ev_str, ev_bool, ev_none, ev_bin, ev_cmp, ev_bop, ev_not, ev_neg, ev_tup, ev_lst, ev_dct, ev_sub, ev_sl, ev_comp, ev_call, ev_isi, ev_blt, ev_lcp] at he; cases he
    exact PyProof.Rows.Constant_bool ⟨Kp.refl _, .bool _⟩
theorem se_none : SE prog w A base cf .none := by
  intro s env e H ρ m d E hc R hb hn he
  replace hc := inv_none hc; obtain ⟨_, _, rfl⟩ := hc
  · simp only [ev_var, ev_glob, ev_int, ev_str, ev_bool, ev_none, ev_bin, ev_cmp, ev_bop, ev_not, ev_neg, ev_tup, ev_lst, ev_dct, ev_sub, ev_sl, ev_comp, ev_call, ev_isi, ev_blt, ev_lcp] at he; cases he
    exact PyProof.Rows.Constant_none ⟨Kp.refl _, .none⟩

theorem spliced_ok {es : List Expr} {ms : List ME} {k : KD} (hc : chkEs k es ms = true) (env : Env) : starEach es env = es.map fun e => (false, eval e env) := by
  induction ms generalizing es with
  | nil => cases es with
    | nil => rfl
    | cons _ _ => simp [cs_nil, cs_cons, cs_consn] at hc
  | cons a r ih => cases es with
    | nil => simp [cs_nil, cs_cons, cs_consn] at hc
    | cons e es' =>
      simp only [cs_nil, cs_cons, cs_consn, Bool.and_eq_true] at hc
      have he : ∀ x p, e ≠ .Starred x p := by
        rintro x p rfl
        have := chk_shape hc.1
        cases a <;> cases this
      have : starEach (e :: es') env = (false, eval e env) :: starEach es' env := by
        cases e <;> first | rfl | exact absurd rfl (he _ _)
      rw [this, ih hc.2]; rfl
theorem backTo_ok (pos : Pos) (es : List Expr) (env : Env) : backTo pos (es.map fun e => (false, eval e env)) = es.map fun e => (false, eval e env) := by
  unfold backTo
  rw [List.map_map]
  rfl

/-! nodes -/
noncomputable def SF (prog : Program) (w : World) (A : Around) (base : Heap) (cf : CF) (me : ME) : Prop :=
  ∀ (s : Shared) (env : Env) (e : Expr) (H : Addr → Prop) (ρ : List (String × D)) (m : Str → Option Value) (d : D) (fr : Bool) (E : Value → Shared → Prop), chkE env.kindOf e me = true → EnvRep s.heap env m →
    HOk base s.heap H → NV w.params env.kindOf me.names ρ m s.heap H → evF cf ρ me = some (d, fr) → wpAny (model prog w) A (eval e env) (PostF w s H d fr) E s
theorem sf_bin {op : Operator} {a b : ME} (ha : SE prog w A base cf a) (hb : SE prog w A base cf b) : SF prog w A base cf (.bin op a b) := by
  intro s env e H ρ m d fr E hc R hw hn he
  replace hc := inv_bin hc; obtain ⟨_, _, _, _, rfl, hc⟩ := hc
  · simp only [Bool.and_eq_true, beq_iff_eq] at hc
    obtain ⟨⟨rfl, h1⟩, h2⟩ := hc
    simp only [evF_bin, ev_var, ev_glob, ev_int, ev_str, ev_bool, ev_none, ev_bin, ev_cmp, ev_bop, ev_not, ev_neg, ev_tup, ev_lst, ev_dct, ev_sub, ev_sl, ev_comp, ev_call, ev_isi, ev_blt, ev_lcp, Option.map_eq_some_iff] at he
    obtain ⟨d', he, e'⟩ := he
    cases e'
    split at he
    · rename_i x hx
      split at he
      · rename_i y hy
        refine wpAny_BinOp (wpAny_mono (ha s env _ H ρ m x E h1 R hw (hn.sub fun _ hx => List.mem_append_left _ hx) hx) (fun v s₁ q₁ => ?_) fun _ _ e => e)
        refine wpAny_mono (hb s₁ env _ H ρ m y E h2 (R.keeps (Kp.heap q₁.1)) (hw.keeps (Kp.heap q₁.1)) ((hn.keeps (Kp.heap q₁.1)).sub fun _ hx => List.mem_append_right _ hx) hy) (fun v₂ s₂ q₂ => ?_) fun _ _ e => e
        exact wpAny_mono (bin_snd (q₁.2.keeps (Kp.heap q₂.1)) q₂.2 ((hw.keeps (Kp.heap q₁.1)).keeps (Kp.heap q₂.1)).ex he) (fun v₃ s₃ q₃ => q₃.after (Kp.trans q₁.1 q₂.1)) fun _ _ e => e
      · cases he
    · cases he

theorem se_cmp {op : CmpOp} {a b : ME} (hu : A.units + 1 < cLine) (ha : SE prog w A base cf a) (hb : SE prog w A base cf b) : SE prog w A base cf (.cmp op a b) := by
  intro s env e H ρ m d E hc R hw hn he
  replace hc := inv_cmp hc; obtain ⟨_, _, _, rfl, hc⟩ := hc
  · simp only [Bool.and_eq_true, beq_iff_eq] at hc
    obtain ⟨⟨hs, h1⟩, h2⟩ := hc
    simp only [ev_var, ev_glob, ev_int, ev_str, ev_bool, ev_none, ev_bin, ev_cmp, ev_bop, ev_not, ev_neg, ev_tup, ev_lst, ev_dct, ev_sub, ev_sl, ev_comp, ev_call, ev_isi, ev_blt, ev_lcp] at he
    split at he
    · rename_i x hx
      split at he
      · rename_i y hy
        refine wpAny_Compare1 (wpAny_mono (ha s env _ H ρ m x E h1 R hw (hn.sub fun _ hx => List.mem_append_left _ hx) hx) (fun v s₁ q₁ => ?_) fun _ _ e => e) (notSet_marks hs)
        refine wpAny_mono (hb s₁ env _ H ρ m y E h2 (R.keeps (Kp.heap q₁.1)) (hw.keeps (Kp.heap q₁.1)) ((hn.keeps (Kp.heap q₁.1)).sub fun _ hx => List.mem_append_right _ hx) hy) (fun v₂ s₂ q₂ => ?_) fun _ _ e => e
        refine wpAny_mono (cmp_snd (q₁.2.keeps (Kp.heap q₂.1)) q₂.2 hu he) (fun v₃ s₃ q₃ => ⟨Kp.trans (Kp.trans q₁.1 q₂.1) q₃.1, q₃.2⟩) fun _ _ e => e
      · cases he
    · cases he
theorem st_cmp {op : CmpOp} {a b : ME} (hu : A.units + 1 < cLine) (ha : SE prog w A base cf a) (hb : SE prog w A base cf b) : ST prog w A base cf (.cmp op a b) := by
  intro s env e H ρ m d t E hc R hw hn he ht
  replace hc := inv_cmp hc; obtain ⟨_, _, _, rfl, hc⟩ := hc
  · simp only [Bool.and_eq_true, beq_iff_eq] at hc
    obtain ⟨⟨hs, h1⟩, h2⟩ := hc
    simp only [ev_var, ev_glob, ev_int, ev_str, ev_bool, ev_none, ev_bin, ev_cmp, ev_bop, ev_not, ev_neg, ev_tup, ev_lst, ev_dct, ev_sub, ev_sl, ev_comp, ev_call, ev_isi, ev_blt, ev_lcp] at he
    split at he
    · rename_i x hx
      split at he
      · rename_i y hy
        refine wpAny_isTrue_Compare1 (wpAny_mono (ha s env _ H ρ m x E h1 R hw (hn.sub fun _ hx => List.mem_append_left _ hx) hx) (fun v s₁ q₁ => ?_) fun _ _ e => e) (notSet_marks hs)
        refine wpAny_mono (hb s₁ env _ H ρ m y E h2 (R.keeps (Kp.heap q₁.1)) (hw.keeps (Kp.heap q₁.1)) ((hn.keeps (Kp.heap q₁.1)).sub fun _ hx => List.mem_append_right _ hx) hy) (fun v₂ s₂ q₂ => ?_) fun _ _ e => e
        refine wpAny_mono (cmp_snd (q₁.2.keeps (Kp.heap q₂.1)) q₂.2 hu he) (fun v₃ s₃ q₃ => ?_) fun _ _ e => e
        exact wpAny_mono (truth_snd q₃.2 ht) (fun b s₄ q₄ => ⟨Kp.trans (Kp.trans (Kp.trans q₁.1 q₂.1) q₃.1) q₄.1, q₄.2⟩) fun _ _ e => e
      · cases he
    · cases he
theorem se_not {a : ME} (ha : SE prog w A base cf a) : SE prog w A base cf (.not a) := by
  intro s env e H ρ m d E hc R hw hn he
  replace hc := inv_not hc; obtain ⟨_, _, rfl, hc⟩ := hc
  · simp only [ev_var, ev_glob, ev_int, ev_str, ev_bool, ev_none, ev_bin, ev_cmp, ev_bop, ev_not, ev_neg, ev_tup, ev_lst, ev_dct, ev_sub, ev_sl, ev_comp, ev_call, ev_isi, ev_blt, ev_lcp] at he
    split at he
    · rename_i x hx
      simp only [Option.map_eq_some_iff] at he
      obtain ⟨t, ht, rfl⟩ := he
      refine PyProof.Rows.UnaryOp_ (wpAny_mono (ha s env _ H ρ m x E hc R hw hn hx) (fun v s₁ q₁ => ?_) fun _ _ e => e)
      exact PyProof.Rows.not_of (wpAny_mono (truth_snd q₁.2 ht) (fun b s₂ q₂ => ⟨Kp.trans q₁.1 q₂.1, q₂.2 ▸ .bool _⟩) fun _ _ e => e)
    · cases he
theorem st_not {a : ME} (ha : ST prog w A base cf a) : ST prog w A base cf (.not a) := by
  intro s env e H ρ m d t E hc R hw hn he ht
  replace hc := inv_not hc; obtain ⟨_, _, rfl, hc⟩ := hc
  · simp only [ev_var, ev_glob, ev_int, ev_str, ev_bool, ev_none, ev_bin, ev_cmp, ev_bop, ev_not, ev_neg, ev_tup, ev_lst, ev_dct, ev_sub, ev_sl, ev_comp, ev_call, ev_isi, ev_blt, ev_lcp] at he
    split at he
    · rename_i x hx
      simp only [Option.map_eq_some_iff] at he
      obtain ⟨t', ht', rfl⟩ := he
      cases ht
      exact PyProof.Rows.isTrue_not (wpAny_mono (ha s env _ H ρ m x t' E hc R hw hn hx ht') (fun b s₂ q₂ => ⟨q₂.1, by rw [q₂.2]⟩) fun _ _ e => e)
    · cases he
theorem se_neg {a : ME} (ha : SE prog w A base cf a) : SE prog w A base cf (.neg a) := by
  intro s env e H ρ m d E hc R hw hn he
  replace hc := inv_neg hc; obtain ⟨_, _, rfl, hc⟩ := hc
  · simp only [ev_var, ev_glob, ev_int, ev_str, ev_bool, ev_none, ev_bin, ev_cmp, ev_bop, ev_not, ev_neg, ev_tup, ev_lst, ev_dct, ev_sub, ev_sl, ev_comp, ev_call, ev_isi, ev_blt, ev_lcp] at he
    split at he
    · rename_i i hx
      cases he
      refine PyProof.Rows.UnaryOp_ (wpAny_mono (ha s env _ H ρ m _ E hc R hw hn hx) (fun v s₁ q₁ => ?_) fun _ _ e => e)
      obtain ⟨k, r⟩ := q₁
      cases r
      exact PyProof.Rows.neg_int ⟨Kp.trans k (Kp.tok _ _), .int _ _⟩
    · cases he
theorem ses_nil : SEs prog w A base cf [] := by
  intro s env es H ρ m ds E hc R hw hn he
  cases es with
  | nil => simp only [evs_nil, evs_cons] at he; cases he; exact Calls.spliced_nil ⟨Kp.refl _, .nil⟩
  | cons _ _ => simp [cs_nil, cs_cons, cs_consn] at hc
theorem ses_cons {a : ME} {r : List ME} (ha : SE prog w A base cf a) (hr : SEs prog w A base cf r) : SEs prog w A base cf (a :: r) := by
  intro s env es H ρ m ds E hc R hw hn he
  cases es with
  | nil => simp [cs_nil, cs_cons, cs_consn] at hc
  | cons e es' =>
    simp only [cs_nil, cs_cons, cs_consn, Bool.and_eq_true] at hc
    simp only [evs_nil, evs_cons] at he
    split at he
    · rename_i x hx
      split at he
      · rename_i xs hxs
        cases he
        refine Calls.spliced_cons (wpAny_mono (ha s env _ H ρ m x E hc.1 R hw (hn.sub fun _ hx => List.mem_append_left _ hx) hx) (fun v s₁ q₁ => ?_) fun _ _ e => e)
        refine wpAny_mono (hr s₁ env _ H ρ m xs E hc.2 (R.keeps (Kp.heap q₁.1)) (hw.keeps (Kp.heap q₁.1)) ((hn.keeps (Kp.heap q₁.1)).sub fun _ hx => List.mem_append_right _ hx) hxs) (fun vs s₂ q₂ => ?_) fun _ _ e => e
        exact ⟨Kp.trans q₁.1 q₂.1, .cons (q₁.2.keeps (Kp.heap q₂.1)) q₂.2⟩
      · cases he
    · cases he
theorem se_tup {ms : List ME} (hr : SEs prog w A base cf ms) : SE prog w A base cf (.tup ms) := by
  intro s env e H ρ m d E hc R hw hn he
  replace hc := inv_tup hc; obtain ⟨_, _, _, rfl, hc⟩ := hc
  · simp only [ev_var, ev_glob, ev_int, ev_str, ev_bool, ev_none, ev_bin, ev_cmp, ev_bop, ev_not, ev_neg, ev_tup, ev_lst, ev_dct, ev_sub, ev_sl, ev_comp, ev_call, ev_isi, ev_blt, ev_lcp] at he
    split at he
    · rename_i ds hds
      split at he
      · rename_i hl; cases he
        refine PyProof.Rows.Tuple_ ?_
        rw [spliced_ok hc, backTo_ok]
        refine wpAny_mono (hr s env _ H ρ m ds E hc R hw hn hds) (fun vs s₁ q₁ => ?_) fun _ _ e => e
        have e := q₁.2.length
        refine wpAny_newObj_type ⟨Kp.trans q₁.1 (Kp.push _ _), ?_⟩ (by show vs.toArray.size ≤ sizeLine; rw [List.size_toArray, e]; exact hl)
        exact rep_newTup (hw.keeps (Kp.heap q₁.1)).ex hl (by simpa using q₁.2)
      · cases he
    · cases he
/-- a new list -/
theorem sf_lst {ms : List ME} (hr : SEs prog w A base cf ms) : SF prog w A base cf (.lst ms) := by
  intro s env e H ρ m d fr E hc R hw hn he
  replace hc := inv_lst hc; obtain ⟨_, _, rfl, hc⟩ := hc
  · simp only [evF_lst, ev_var, ev_glob, ev_int, ev_str, ev_bool, ev_none, ev_bin, ev_cmp, ev_bop, ev_not, ev_neg, ev_tup, ev_lst, ev_dct, ev_sub, ev_sl, ev_comp, ev_call, ev_isi, ev_blt, ev_lcp, Option.map_eq_some_iff] at he
    obtain ⟨d', he, e'⟩ := he
    cases e'
    split at he
    · rename_i ds hds
      split at he
      · rename_i hl; cases he
        refine PyProof.Rows.List_ ?_
        rw [spliced_ok hc, backTo_ok]
        refine wpAny_mono (hr s env _ H ρ m ds E hc R hw hn hds) (fun vs s₁ q₁ => ?_) fun _ _ e => e
        have e := q₁.2.length
        have hx := (hw.keeps (Kp.heap q₁.1)).ex
        have own : OwnL w.params (s₁.heap.push (lstO vs.toArray 0)) H s₁.heap.objs.size ds := by
          refine ⟨vs.toArray, 0, Heap.get?_push_size _ rfl, hl, ?_⟩
          have r : RepAll w.params s₁.heap H vs.toArray.toList ds := by simpa using q₁.2
          exact r.mono (fun _ _ _ e => Heap.get?_push_of_some _ e) fun a o e q => q.elim id fun q => absurd (Heap.lt_size e) (q ▸ Nat.lt_irrefl _)
        refine wpAny_newObj_type ⟨Kp.trans q₁.1 (Kp.push _ _), own.rep hx.fresh, fun _ => ⟨_, rfl, ?_, own⟩⟩ (by show vs.toArray.size ≤ sizeLine; rw [List.size_toArray, e]; exact hl)
        cases q : s.heap.get? s₁.heap.objs.size with
        | none => rfl
        | some o => exact absurd (Heap.lt_size (Kp.heap q₁.1 _ _ q)) (Nat.lt_irrefl _)
      · cases he
    · cases he
end
end Mine
namespace Mine
open PySem PySem.SeqAt

section
variable {prog : Program} {w : World} {A : Around} {s : Shared} {base : Heap} {mg mb : Str → Option Value} {cf : CF}

theorem se_of_sf {me : ME} (h : SF prog w A base cf me) (hf : ∀ ρ d, evE cf ρ me = some d → ∃ fr, evF cf ρ me = some (d, fr)) : SE prog w A base cf me := by
  intro s env e H ρ m d E hc R hw hn he
  obtain ⟨fr, hfr⟩ := hf ρ d he
  exact wpAny_mono (h s env e H ρ m d fr E hc R hw hn hfr) (fun _ _ q => ⟨q.1, q.2.1⟩) fun _ _ e => e

theorem subscripted_plain {sl : Expr} {o i : Value} (h : ∀ a b c d, sl ≠ .Slice a b c d) : subscripted sl false o i = operate [o, i] (getItem o i) := by
  cases sl <;> first | rfl | exact absurd rfl (h _ _ _ _)

theorem se_sub {a b : ME} (hu : A.units + 1 < cLine) (ha : SE prog w A base cf a) (hb : SE prog w A base cf b) : SE prog w A base cf (.sub a b) := by
  intro s env e H ρ m d E hc R hw hn he
  replace hc := inv_sub hc; obtain ⟨v, sl, pos, rfl, hns, hc⟩ := hc
  · skip
    simp only [Bool.and_eq_true] at hc
    simp only [ev_var, ev_glob, ev_int, ev_str, ev_bool, ev_none, ev_bin, ev_cmp, ev_bop, ev_not, ev_neg, ev_tup, ev_lst, ev_dct, ev_sub, ev_sl, ev_comp, ev_call, ev_isi, ev_blt, ev_lcp] at he
    split at he
    · rename_i x hx
      split at he
      · rename_i y hy
        refine PyProof.Rows.Subscript_ (wpAny_mono (ha s env _ H ρ m x E hc.1 R hw (hn.sub fun _ hx => List.mem_append_left _ hx) hx) (fun v s₁ q₁ => ?_) fun _ _ e => e)
        refine wpAny_mono (hb s₁ env _ H ρ m y E hc.2 (R.keeps (Kp.heap q₁.1)) (hw.keeps (Kp.heap q₁.1)) ((hn.keeps (Kp.heap q₁.1)).sub fun _ hx => List.mem_append_right _ hx) hy) (fun v₂ s₂ q₂ => ?_) fun _ _ e => e
        obtain ⟨g, T, id, hT, hl⟩ := getItem_snd hu (prog := prog) (w := w) (A := A) (E := E) (q₁.2.keeps (Kp.heap q₂.1)) q₂.2 he
        refine PyProof.Rows.tail_any hT hl (wpAny_mono g (fun v₃ s₃ q₃ => ⟨Kp.trans (Kp.trans q₁.1 q₂.1) q₃.1, q₃.2⟩) fun _ _ e => e) (subscripted_plain fun a b c d q => ?_)
        exact hns a b c d q
      · cases he
    · cases he

/-- a bound of a slice -/
theorem part_snd {a : ME} (ha : SE prog w A base cf a) {s : Shared} {env : Env} {l : Option Expr} {H : Addr → Prop} {ρ : List (String × D)} {m : Str → Option Value} {d : D} {E : Value → Shared → Prop}
    (hc : (match l with | Option.none => a.isNone | some x => chkE env.kindOf x a) = true) (R : EnvRep s.heap env m) (hw : HOk base s.heap H) (hn : NV w.params env.kindOf a.names ρ m s.heap H) (he : evE cf ρ a = some d) :
    wpAny (model prog w) A (evalPart l env) (Post w s H d) E s := by
  cases l with
  | none =>
    have : a = .none := by cases a <;> first | rfl | (cases hc)
    subst this
    simp only [ev_var, ev_glob, ev_int, ev_str, ev_bool, ev_none, ev_bin, ev_cmp, ev_bop, ev_not, ev_neg, ev_tup, ev_lst, ev_dct, ev_sub, ev_sl, ev_comp, ev_call, ev_isi, ev_blt, ev_lcp] at he; cases he
    rw [evalPart_none]
    exact wpAny_pure ⟨Kp.refl _, .none⟩
  | some x => exact ha s env x H ρ m d E hc R hw hn he

theorem part_str {P : Params} {h : Heap} {H : Addr → Prop} {v : Value} {d : D} {a : Option Int} (r : Rep P h H v d) (ha : bndS d = some a) : ∃ l : Option (Int × Tok), v = partValue l ∧ l.map (·.1) = a := by
  cases r <;> simp only [bndS] at ha <;> cases ha
  · exact ⟨none, rfl, rfl⟩
  · exact ⟨some (_, _), rfl, rfl⟩
theorem sl_str {x : Str} {t : Tok} {vl vu : Value} {lo hi d : D} {H : Addr → Prop} {E : Value → Shared → Prop} (rl : Rep w.params s.heap H vl lo) (ru : Rep w.params s.heap H vu hi) (he : slD (.str x) lo hi = some d) {a : Addr}
    (ho : s.heap.get? a = some { cls := .type "slice", data := .fields #[vl, vu, .none] }) : wpAny (model prog w) A (getItem (.str x t) (.ref a)) (PostF w s H d d.isList) E s := by
  simp only [slD] at he
  split at he
  · rename_i hsz
    rw [Option.bind_eq_some_iff] at he
    obtain ⟨a', h1, he⟩ := he
    rw [Option.map_eq_some_iff] at he
    obtain ⟨b', h2, rfl⟩ := he
    obtain ⟨l, rfl, rfl⟩ := part_str rl h1
    obtain ⟨u, rfl, rfl⟩ := part_str ru h2
    exact wpAny_getItem_str_slice (st := none) ⟨_, ho, rfl, rfl⟩ rfl (post_val_or_str ⟨Nat.le_trans (Txt.slice_le _ _ _) hsz, fun t' k => ⟨Kp.tok _ _, .str _ _, fun e => nomatch e⟩⟩)
  · cases he
theorem slice_snd {v : Value} {x : D} {vl vu : Value} {lo hi d : D} {H : Addr → Prop} {E : Value → Shared → Prop} (hH : Ex s.heap H) (rx : Rep w.params s.heap H v x) (rl : Rep w.params s.heap H vl lo) (ru : Rep w.params s.heap H vu hi) (he : slD x lo hi = some d) {a : Addr}
    (ho : s.heap.get? a = some { cls := .type "slice", data := .fields #[vl, vu, .none] }) : wpAny (model prog w) A (getItem v (.ref a)) (PostF w s H d d.isList) E s ∧ ∃ T id, s.TypeIs v T ∧ typeLookup (.type T) "__getitem__" = pure (some (.builtin id)) := by
  cases x <;> first | (cases he; done) | skip
  · skip
    cases rx
    exact ⟨sl_str rl ru he ho, "str", _, typeIs_str _ _ _, F.slot_str_getitem.lookup⟩
theorem sf_sl {a lo hi : ME} (ha : SE prog w A base cf a) (hl : SE prog w A base cf lo) (hh : SE prog w A base cf hi) : SF prog w A base cf (.sl a lo hi) := by
  intro s env e H ρ m d fr E hc R hw hn he
  replace hc := inv_sl hc; obtain ⟨_, _, _, _, _, rfl, hc⟩ := hc
  · rename_i v l u p pos
    simp only [Bool.and_eq_true] at hc
    obtain ⟨⟨h1, h2⟩, h3⟩ := hc
    simp only [evF_sl, ev_var, ev_glob, ev_int, ev_str, ev_bool, ev_none, ev_bin, ev_cmp, ev_bop, ev_not, ev_neg, ev_tup, ev_lst, ev_dct, ev_sub, ev_sl, ev_comp, ev_call, ev_isi, ev_blt, ev_lcp, Option.map_eq_some_iff] at he
    obtain ⟨d', he, e'⟩ := he
    cases e'
    split at he
    · rename_i x hx
      split at he
      · rename_i y hy
        split at he
        · rename_i z hz
          refine PyProof.Rows.Subscript_ (wpAny_mono (ha s env _ H ρ m x E h1 R hw (hn.sub fun _ hx => List.mem_append_left _ (List.mem_append_left _ hx)) hx) (fun v s₁ q₁ => ?_) fun _ _ e => e)
          refine wpAny_Slice ?_
          refine wpAny_mono (part_snd hl h2 (R.keeps (Kp.heap q₁.1)) (hw.keeps (Kp.heap q₁.1)) ((hn.keeps (Kp.heap q₁.1)).sub fun _ hx => List.mem_append_left _ (List.mem_append_right _ hx)) hy) (fun vl s₂ q₂ => ?_) fun _ _ e => e
          have k2 := Kp.trans q₁.1 q₂.1
          refine wpAny_mono (part_snd hh h3 (R.keeps (Kp.heap k2)) (hw.keeps (Kp.heap k2)) ((hn.keeps (Kp.heap k2)).sub fun _ hx => List.mem_append_right _ hx) hz) (fun vu s₃ q₃ => ?_) fun _ _ e => e
          rw [evalPart_none]
          refine wpAny_pure ?_
          have k3 := Kp.trans k2 q₃.1
          have kp := Kp.push s₃ { cls := .type "slice", data := .fields #[vl, vu, .none] }
          have rx := (q₁.2.keeps (Kp.heap (Kp.trans q₂.1 q₃.1))).keeps (Kp.heap kp)
          have rl := (q₂.2.keeps (Kp.heap q₃.1)).keeps (Kp.heap kp)
          have ru := q₃.2.keeps (Kp.heap kp)
          have hex := ((hw.keeps (Kp.heap k3)).keeps (Kp.heap kp)).ex
          have ho := Heap.get?_push_size s₃.heap (o := { cls := .type "slice", data := .fields #[vl, vu, .none] }) rfl
          obtain ⟨g1, T, id, g2, g3⟩ := slice_snd (prog := prog) (A := A) (E := E) (s := { s₃ with heap := s₃.heap.push { cls := .type "slice", data := .fields #[vl, vu, .none] } }) hex rx rl ru he ho
          exact PyProof.Rows.tail_any (ops := [_, _]) g2 g3 (wpAny_mono g1 (fun _ _ q => q.after (Kp.trans k3 kp)) fun _ _ e => e) rfl
        · cases he
      · cases he
    · cases he
end
end Mine
namespace Mine
open PySem PySem.SeqAt

section
variable {prog : Program} {w : World} {A : Around} {s : Shared} {base : Heap} {mg mb : Str → Option Value} {cf : CF}

theorem evalArgs_snd {f : Value} {es : List Expr} {ms : List ME} {env : Env} {pos : Pos} {Q : Args → Shared → Prop} {E : Value → Shared → Prop} (hc : chkEs env.kindOf es ms = true)
    (h : wpAny (model prog w) A (spliced (es.map fun e => (false, eval e env))) (fun vs s' => Q ⟨vs, []⟩ s') E s) :
    wpAny (model prog w) A (evalArgs f true (backTo pos (starEach es env)) []) Q E s := by
  rw [spliced_ok hc, backTo_ok]
  cases es with
  | nil =>
    unfold evalArgs
    show wpAny _ A (spliced [] >>= _) Q E s
    refine wpAny_bind (wpAny_mono h (fun vs s' h' => ?_) fun _ _ x => x)
    refine wpAny_bind (wpAny_pure ?_)
    refine wpAny_holding ?_
    exact wpAny_bind (wpAny_pure (wpAny_bind (wpAny_pure (wpAny_pure h'))))
  | cons e es => exact Calls.evalArgs_plain h

theorem any_false (es : List Expr) (env : Env) : ((es.map fun e => (false, eval e env)).any (·.1)) = false := by
  induction es with
  | nil => rfl
  | cons _ _ ih => simpa using ih

theorem sf_call (G : GOk mg mb base) (C : CSound prog w base mg cf A) {f : String} {ms : List ME} (hr : SEs prog w A base cf ms) : SF prog w A base cf (.call f ms) := by
  intro s env e H ρ m d fr E hc R hw hn he
  replace hc := inv_call hc; obtain ⟨_, _, _, _, rfl, hc⟩ := hc
  · rename_i g gp as pos
    simp only [Bool.and_eq_true, beq_iff_eq, isGlob, bne_iff_ne] at hc
    obtain ⟨⟨rfl, hk, hd⟩, hc⟩ := hc
    simp only [evF_call] at he
    split at he
    · rename_i ds hds
      obtain ⟨a, o, fd, h1, h2, h3, h4⟩ := C.call f ds d fr he
      refine PyProof.Rows.Call_Name rfl (Calls.Name_function_global R.kind hk (Calls.loadGlobal_global (mg := mg) (by rw [R.glob]; exact G.g.keeps hw.keep) h1 ?_) (by simpa using hd))
      refine Calls.callWith_function (o := o) (fd := fd) (evalArgs_snd hc ?_)
      refine wpAny_mono (hr s env as H ρ m ds E hc R hw hn hds) (fun vs s₁ q₁ => ⟨⟨(hw.keeps (Kp.heap q₁.1)).keep _ _ h2, h3⟩, ?_⟩) fun _ _ e => e
      refine wpAny_mono (h4 s₁ H vs E (hw.keeps (Kp.heap q₁.1)) q₁.2) (fun v s₂ q₂ => ⟨Kp.trans q₁.1 q₂.1, q₂.2.1, fun hf => ?_⟩) fun _ _ e => e
      obtain ⟨a', e1, e3, e4⟩ := q₂.2.2 hf
      refine ⟨a', e1, ?_, e4⟩
      cases q : s.heap.get? a' with
      | none => rfl
      | some o' => rw [Kp.heap q₁.1 _ _ q] at e3; cases e3
    · cases he

theorem name_blt (G : GOk mg mb base) {env : Env} {m : Str → Option Value} {H : Addr → Prop} {f : String} {p : Pos} {E : Value → Shared → Prop} {Q : Value → Shared → Prop} (hf : f ∈ bltNames) (R : EnvRep s.heap env m) (hw : HOk base s.heap H)
    (hk : env.kindOf (Str.ofString f) = some .globalImplicit) (hd : Str.ofString f ≠ Str.ofString "__debug__") (h : Q (bltVal f) s) : wpAny (model prog w) A (eval (.Name (Str.ofString f) p) env) Q E s := by
  obtain ⟨h1, h2⟩ := G.blt f hf
  exact Calls.Name_function_global R.kind hk (Calls.loadGlobal_builtin (mg := mg) (mb := mb) (by rw [R.glob]; exact G.g.keeps hw.keep) h1 (by rw [R.blt]; exact G.b.keeps hw.keep) h2 h) (by simpa using hd)

theorem callWith_blt {f : String} {pos : Pos} {es : List Expr} {ms : List ME} {env : Env} {Q : Value → Shared → Prop} {E : Value → Shared → Prop} (hc : chkEs env.kindOf es ms = true)
    (h : wpAny (model prog w) A (spliced (es.map fun e => (false, eval e env))) (fun vs s' => wpAny (model prog w) A (call (bltVal f) vs) Q E s') E s) :
    wpAny (model prog w) A (callWith pos (bltVal f) [] (backTo pos (starEach es env)) []) Q E s := by
  have hp : (backTo pos (starEach es env)).any (·.1) = false := by rw [spliced_ok hc, backTo_ok]; exact any_false _ _
  have key : (∃ id, bltVal f = .builtin id) ∨ ∃ T, bltVal f = .type T := by
    unfold bltVal; split <;> first | exact .inl ⟨_, rfl⟩ | exact .inr ⟨_, rfl⟩
  rcases key with ⟨id, e⟩ | ⟨T, e⟩
  · rw [e] at h ⊢; exact Calls.callWith_builtin hp (evalArgs_snd hc h)
  · rw [e] at h ⊢; exact PyProof.Rows.callWith_type hp (evalArgs_snd hc h)

theorem se_blt (G : GOk mg mb base) (hh : A.handled = none) {f : String} {ms : List ME} (hf : f ∈ bltNames) (hr : SEs prog w A base cf ms) : SE prog w A base cf (.blt f ms) := by
  intro s env e H ρ m d E hc R hw hn he
  replace hc := inv_blt hc; obtain ⟨_, _, _, _, rfl, hc⟩ := hc
  · rename_i g gp as pos
    simp only [Bool.and_eq_true, beq_iff_eq, isGlob, bne_iff_ne] at hc
    obtain ⟨⟨rfl, hk, hd⟩, hc⟩ := hc
    simp only [ev_var, ev_glob, ev_int, ev_str, ev_bool, ev_none, ev_bin, ev_cmp, ev_bop, ev_not, ev_neg, ev_tup, ev_lst, ev_dct, ev_sub, ev_sl, ev_comp, ev_call, ev_isi, ev_blt, ev_lcp] at he
    split at he
    · rename_i ds hds
      refine PyProof.Rows.Call_Name rfl (name_blt G hf R hw hk hd (callWith_blt hc ?_))
      refine wpAny_mono (hr s env as H ρ m ds E hc R hw hn hds) (fun vs s₁ q₁ => ?_) fun _ _ e => e
      exact wpAny_mono (blt_snd hh q₁.2 (hw.keeps (Kp.heap q₁.1)).ex he) (fun v s₂ q₂ => ⟨Kp.trans q₁.1 q₂.1, q₂.2⟩) fun _ _ e => e
    · cases he
theorem sf_lcp (G : GOk mg mb base) (hh : A.handled = none) {a : ME} (hr : SEs prog w A base cf [a]) : SF prog w A base cf (.lcp a) := by
  intro s env e H ρ m d fr E hc R hw hn he
  replace hc := inv_lcp hc; obtain ⟨g, gp, x, pos, rfl, hc, hx⟩ := hc
  simp only [Bool.and_eq_true, beq_iff_eq, isGlob, bne_iff_ne] at hc
  obtain ⟨rfl, hk, hd⟩ := hc
  simp only [evF_lcp, ev_var, ev_glob, ev_int, ev_str, ev_bool, ev_none, ev_bin, ev_cmp, ev_bop, ev_not, ev_neg, ev_tup, ev_lst, ev_dct, ev_sub, ev_sl, ev_comp, ev_call, ev_isi, ev_blt, ev_lcp, Option.map_eq_some_iff] at he
  obtain ⟨d', he, e'⟩ := he
  cases e'
  split at he
  · rename_i dx hdx
    rw [Option.map_eq_some_iff] at he
    obtain ⟨ds, he, rfl⟩ := he
    have hc' : chkEs env.kindOf [x] [a] = true := by simp [cs_nil, cs_cons, cs_consn, hx]
    refine PyProof.Rows.Call_Name rfl (name_blt G (f := "list") (by decide) R hw hk hd (callWith_blt hc' ?_))
    refine wpAny_mono (hr s env [x] H ρ m [dx] E hc' R hw (hn.sub fun y hy => by simpa [nms_nil, nms_cons, nm_var, nm_lcp] using hy) (by simp [evs_nil, evs_cons, hdx])) (fun vs s₁ q₁ => ?_) fun _ _ e => e
    obtain ⟨k, r⟩ := q₁
    cases r with
    | cons r1 r2 =>
      cases r2
      exact wpAny_mono (lst_snd hh r1 (hw.keeps (Kp.heap k)).ex he) (fun v s₂ q₂ => q₂.after k) fun _ _ e => e
  · cases he

theorem se_isi (G : GOk mg mb base) {a : ME} {T : String} (ha : SE prog w A base cf a) : SE prog w A base cf (.isi a T) := by
  intro s env e H ρ m d E hc R hw hn he
  replace hc := inv_isi hc; obtain ⟨_, _, _, _, _, _, rfl, hc⟩ := hc
  · rename_i g gp x t tp pos
    simp only [Bool.and_eq_true, beq_iff_eq, isGlob, bne_iff_ne] at hc
    obtain ⟨⟨⟨⟨rfl, hk, hd⟩, rfl⟩, hk2, hd2⟩, hc⟩ := hc
    simp only [ev_var, ev_glob, ev_int, ev_str, ev_bool, ev_none, ev_bin, ev_cmp, ev_bop, ev_not, ev_neg, ev_tup, ev_lst, ev_dct, ev_sub, ev_sl, ev_comp, ev_call, ev_isi, ev_blt, ev_lcp] at he
    split at he
    · rename_i dx hdx
      simp only [Option.map_eq_some_iff] at he
      obtain ⟨b, hb, rfl⟩ := he
      have hT : T ∈ bltNames ∧ bltVal T = .type T := by
        unfold isiD at hb
        split at hb
        · rename_i h
          rcases h with rfl | rfl | rfl | rfl | rfl <;> exact ⟨by decide, rfl⟩
        · cases hb
      have hs : starEach [x, .Name (Str.ofString T) tp] env = [(false, eval x env), (false, eval (.Name (Str.ofString T) tp) env)] := by
        have := spliced_ok (es := [x]) (ms := [a]) (k := env.kindOf) (by simp [cs_nil, cs_cons, cs_consn, hc]) env
        have hx : ∀ y p, x ≠ .Starred y p := by
          rintro y p rfl
          simp [starEach] at this
        cases x <;> first | rfl | exact absurd rfl (hx _ _)
      refine PyProof.Rows.Call_Name (trees := [(false, eval x env), (false, eval (.Name (Str.ofString T) tp) env)]) (by rw [hs]; rfl) (name_blt G (f := "isinstance") (by decide) R hw hk hd ?_)
      refine Calls.callWith_builtin rfl (Calls.evalArgs_plain (Calls.spliced_cons ?_))
      refine wpAny_mono (ha s env x H ρ m dx E hc R hw hn hdx) (fun v s₁ q₁ => Calls.spliced_cons ?_) fun _ _ e => e
      refine name_blt G hT.1 (R.keeps (Kp.heap q₁.1)) (hw.keeps (Kp.heap q₁.1)) hk2 hd2 (Calls.spliced_nil ?_)
      rw [hT.2]
      exact wpAny_mono (isi_snd q₁.2 hb) (fun v s₂ q₂ => ⟨Kp.trans q₁.1 q₂.1, q₂.2⟩) fun _ _ e => e
    · cases he
end
end Mine
namespace Mine
open PySem PyProof.Rows

/-! halving -/
theorem mid_in {lo hi : Nat} (h : lo < hi) : lo ≤ (lo + hi) / 2 ∧ (lo + hi) / 2 < hi :=
  ⟨(Nat.le_div_iff_mul_le (Nat.succ_pos 1)).mpr (Nat.mul_two lo ▸ Nat.add_le_add_left (Nat.le_of_lt h) lo), Nat.div_lt_of_lt_mul (Nat.two_mul hi ▸ Nat.add_lt_add_right h hi)⟩
theorem mid_less {lo hi m n x : Nat} (h1 : lo ≤ m) (h2 : m < hi) (h3 : hi - lo ≤ n - x) (h4 : x < n) : hi - (m + 1) ≤ n - (x + 1) ∧ m - lo ≤ n - (x + 1) := by omega
/-! a strict weak order on places, and the order with the places as a second key -/
structure Wk (kl : Nat → Nat → Bool) : Prop where
  irr : ∀ p, kl p p = false
  tr : ∀ {p q r}, kl p q = true → kl q r = true → kl p r = true
  neg : ∀ {p q r}, kl p q = false → kl q r = false → kl p r = false

noncomputable def Rk (kl : Nat → Nat → Bool) (p q : Nat) : Prop := kl p q = true ∨ (kl q p = false ∧ p < q)

section
variable {kl : Nat → Nat → Bool}
theorem Wk.asym (W : Wk kl) {p q : Nat} (h : kl p q = true) : kl q p = false := by
  cases e : kl q p with
  | false => rfl
  | true => have := W.tr h e; rw [W.irr] at this; cases this
theorem Wk.lt_le (W : Wk kl) {p q r : Nat} (h : kl p q = true) (h2 : kl r q = false) : kl p r = true := by
  cases e : kl p r with
  | true => rfl
  | false => have := W.neg e h2; rw [h] at this; cases this
theorem Wk.le_lt (W : Wk kl) {p q r : Nat} (h : kl q p = false) (h2 : kl q r = true) : kl p r = true := by
  cases e : kl p r with
  | true => rfl
  | false => have := W.neg h e; rw [h2] at this; cases this
theorem Rk.le (W : Wk kl) {p q : Nat} (h : Rk kl p q) : kl q p = false := h.elim W.asym (·.1)
theorem Rk.tr (W : Wk kl) {p q r : Nat} (h : Rk kl p q) (h2 : Rk kl q r) : Rk kl p r := by
  rcases h with h | ⟨h, l⟩
  · exact .inl (W.lt_le h (h2.le W))
  · rcases h2 with h2 | ⟨h2, l2⟩
    · exact .inl (W.le_lt h h2)
    · exact .inr ⟨W.neg h2 h, Nat.lt_trans l l2⟩
/-! merging two lists -/
structure Mg (R : Nat → Nat → Prop) (T G xs ys : List Nat) : Prop where
  perm : (G ++ (xs ++ ys)).Perm T
  srt : G.Pairwise R
  le : ∀ g ∈ G, ∀ y, y ∈ xs ∨ y ∈ ys → R g y
variable {R : Nat → Nat → Prop} {T G xs ys : List Nat}
theorem Mg.swap (h : Mg R T G xs ys) : Mg R T G ys xs :=
  ⟨(List.Perm.append_left G List.perm_append_comm).trans h.perm, h.srt, fun g hg y hy => h.le g hg y hy.symm⟩
theorem Mg.take {C : List Nat} (h : Mg R T G (C ++ xs) ys) (hs : (C ++ xs).Pairwise R) (hy : ∀ c ∈ C, ∀ y ∈ ys, R c y) : Mg R T (G ++ C) xs ys := by
  have hs' := List.pairwise_append.mp hs
  refine ⟨?_, List.pairwise_append.mpr ⟨h.srt, hs'.1, fun g hg c hc => h.le g hg c (.inl (List.mem_append_left _ hc))⟩, fun g hg y hy' => ?_⟩
  · have := h.perm; rwa [List.append_assoc, ← List.append_assoc C]
  · rcases List.mem_append.mp hg with hg | hg
    · exact h.le g hg y (hy'.imp_left (List.mem_append_right _))
    · exact hy'.elim (hs'.2.2 g hg y) (hy g hg y)
theorem Mg.fin (h : Mg R T G xs []) (hs : xs.Pairwise R) : (G ++ xs).Perm T ∧ (G ++ xs).Pairwise R :=
  ⟨by have := h.perm; rwa [List.append_nil] at this, List.pairwise_append.mpr ⟨h.srt, hs, fun g hg y hy => h.le g hg y (.inl hy)⟩⟩
theorem Mg.len (h : Mg R T G xs ys) : G.length + (xs.length + ys.length) = T.length := by
  have := h.perm.length_eq; rwa [List.length_append, List.length_append] at this
end
end Mine
namespace Mine
open PySem

noncomputable abbrev Ris (xs : Array Nat) : Prop := xs.toList.Pairwise (· < ·)
/-- where j belongs -/
theorem below_go {xs : Array Nat} (hr : Ris xs) (j : Nat) : ∀ (fuel lo hi : Nat), hi - lo ≤ fuel → lo ≤ hi → hi ≤ xs.size → (∀ i (h : i < xs.size), i < lo → xs[i] < j) → (∀ i (h : i < xs.size), hi ≤ i → j ≤ xs[i]) →
    ∃ k, SetTable.below.go xs j fuel lo hi = k ∧ k ≤ xs.size ∧ (∀ i (h : i < xs.size), i < k → xs[i] < j) ∧ (∀ i (h : i < xs.size), k ≤ i → j ≤ xs[i])
  | 0, lo, hi, h1, h2, h3, h4, h5 => by
    have e : lo = hi := Nat.le_antisymm h2 (Nat.le_of_sub_eq_zero (Nat.le_zero.mp h1))
    subst e; exact ⟨lo, rfl, h3, h4, h5⟩
  | fuel + 1, lo, hi, h1, h2, h3, h4, h5 => by
    have mono : ∀ i i' (h : i < xs.size) (h' : i' < xs.size), i < i' → xs[i] < xs[i'] := fun i i' h h' l => by
      have := List.pairwise_iff_getElem.mp hr i i' (by simpa using h) (by simpa using h') l
      simpa using this
    show ∃ k, (if lo < hi then (if xs.getD ((lo + hi) / 2) j < j then SetTable.below.go xs j fuel ((lo + hi) / 2 + 1) hi else SetTable.below.go xs j fuel lo ((lo + hi) / 2)) else lo) = k ∧ _
    by_cases hl : lo < hi
    · rw [if_pos hl]
      have mi := mid_in hl
      have hm : lo ≤ (lo + hi) / 2 ∧ (lo + hi) / 2 < hi ∧ hi - ((lo + hi) / 2 + 1) ≤ fuel ∧ (lo + hi) / 2 - lo ≤ fuel := ⟨mi.1, mi.2, mid_less (x := 0) mi.1 mi.2 h1 (Nat.succ_pos fuel)⟩
      clear mi
      generalize (lo + hi) / 2 = m at hm ⊢
      have hms : m < xs.size := Nat.lt_of_lt_of_le hm.2.1 h3
      have eg : xs.getD m j = xs[m] := by rw [Array.getD_eq_getD_getElem?, getElem?_pos xs m hms]; rfl
      rw [eg]
      by_cases hc : xs[m] < j
      · rw [if_pos hc]
        refine below_go hr j fuel (m + 1) hi hm.2.2.1 hm.2.1 h3 (fun i h q => ?_) h5
        rcases Nat.lt_or_eq_of_le (Nat.le_of_lt_succ q) with q | rfl
        · exact Nat.lt_trans (mono i m h hms q) hc
        · exact hc
      · rw [if_neg hc]
        refine below_go hr j fuel lo m hm.2.2.2 hm.1 (Nat.le_of_lt hms) h4 fun i h q => ?_
        rcases Nat.lt_or_eq_of_le q with q | rfl
        · exact Nat.le_of_lt (Nat.lt_of_le_of_lt (Nat.le_of_not_lt hc) (mono m i hms h q))
        · exact Nat.le_of_not_lt hc
    · rw [if_neg hl]
      have e : lo = hi := Nat.le_antisymm h2 (Nat.le_of_not_lt hl)
      subst e; exact ⟨lo, rfl, h3, h4, h5⟩
theorem below_ok {xs : Array Nat} (hr : Ris xs) (j : Nat) : SetTable.below xs j ≤ xs.size ∧ (∀ i (h : i < xs.size), i < SetTable.below xs j → xs[i] < j) ∧ (∀ i (h : i < xs.size), SetTable.below xs j ≤ i → j ≤ xs[i]) := by
  obtain ⟨k, e, h⟩ := below_go hr j xs.size 0 xs.size (Nat.le_of_eq (Nat.sub_zero _)) (Nat.zero_le _) (Nat.le_refl _) (fun _ _ h => absurd h (Nat.not_lt_zero _)) fun i h q => absurd h (Nat.not_lt_of_le q)
  unfold SetTable.below
  rw [e]; exact h

/-- a table without gaps in the book-keeping: no dummies, its places rising, led unless sets go by the text -/
structure TabOk (bt : Bool) (t : SetTable) : Prop where
  dum : t.dummies = #[]
  ris : Ris t.place
  led : t.led = !bt
theorem has_nil (j : Nat) : SetTable.has #[] j = false := rfl
theorem TabOk.put {bt : Bool} {t : SetTable} (h : TabOk bt t) {j : Nat} (hs : t.slot j = .empty) : TabOk bt (t.put j).1 := by
  have hb := below_ok h.ris j
  have hne : t.place[SetTable.below t.place j]? ≠ some j := fun e => by
    unfold SetTable.slot at hs
    rw [if_pos (by rw [e]; exact beq_self_eq_true _)] at hs; cases hs
  refine ⟨?_, ?_, h.led⟩
  · show (if SetTable.has t.dummies j = true then _ else t.dummies) = #[]
    rw [h.dum, has_nil]; rfl
  · show (SetTable.insertAt t.place (SetTable.below t.place j) j).toList.Pairwise (· < ·)
    rw [SetTable.toList_insertAt]
    generalize SetTable.below t.place j = k at hb hne
    have hris : t.place.toList.Pairwise (· < ·) := h.ris
    have hsp := List.pairwise_append.mp ((List.take_append_drop k t.place.toList).symm ▸ hris)
    have lo : ∀ x ∈ t.place.toList.take k, x < j := fun x hx => by
      obtain ⟨i, hi, rfl⟩ := List.getElem_of_mem hx
      have hi' : i < k := Nat.lt_of_lt_of_le hi (List.length_take_le _ _)
      have := hb.2.1 i (Nat.lt_of_lt_of_le hi' hb.1) hi'
      rw [List.getElem_take]; simpa using this
    have hi : ∀ x ∈ t.place.toList.drop k, j < x := fun x hx => by
      obtain ⟨i, hi, rfl⟩ := List.getElem_of_mem hx
      rw [List.length_drop] at hi
      have hi' : k + i < t.place.size := by simpa using Nat.add_lt_of_lt_sub' hi
      have hk : k < t.place.size := Nat.lt_of_le_of_lt (Nat.le_add_right _ _) hi'
      have h0 := hb.2.2 k hk (Nat.le_refl _)
      have h1 : t.place[k] ≠ j := fun e => hne (by rw [getElem?_pos _ k hk, e])
      have h2 : t.place[k] ≤ t.place[k + i] := by
        rcases Nat.eq_zero_or_pos i with rfl | q
        · exact Nat.le_refl _
        · have := List.pairwise_iff_getElem.mp h.ris k (k + i) (by simpa using hk) (by simpa using hi') (Nat.lt_add_of_pos_right q)
          exact Nat.le_of_lt (by simpa using this)
      rw [List.getElem_drop]
      have : j < t.place[k + i] := Nat.lt_of_lt_of_le (Nat.lt_of_le_of_ne h0 (Ne.symm h1)) h2
      simpa using this
    refine List.pairwise_append.mpr ⟨hsp.1, List.pairwise_cons.mpr ⟨hi, hsp.2.1⟩, fun x hx y hy => ?_⟩
    rcases List.mem_cons.mp hy with rfl | hy
    · exact lo x hx
    · exact hsp.2.2 x hx y hy
theorem ris_range (n : Nat) : Ris (Array.range n) := by
  show (Array.range n).toList.Pairwise _
  rw [Array.toList_range]; exact List.pairwise_lt_range
theorem TabOk.standIn {bt : Bool} {t : SetTable} (h : TabOk bt t) (n : Nat) : TabOk bt (t.standIn n) := ⟨rfl, ris_range n, h.led⟩
theorem TabOk.orStandIn {bt : Bool} {t : SetTable} (h : TabOk bt t) (n : Nat) : TabOk bt (t.orStandIn n) := by
  unfold SetTable.orStandIn; split
  · exact h
  · exact h.standIn n
theorem probe_go {t : SetTable} (hd : t.dummies = #[]) {f : Nat → Int} {h : Int} : ∀ (fuel : Nat) (p : SetTable.Probe) {j : Nat} {d : Option Nat}, p.dummy = none → SetTable.probe.go t f h fuel p = some (.empty j d) → t.slot j = .empty ∧ d = none
  | 0, p, j, d, hp, e => by cases e
  | fuel + 1, p, j, d, hp, e => by
    have adv : ∀ q : SetTable.Probe, q.dummy = none → (t.advance q).dummy = none := fun q hq => by unfold SetTable.advance; split <;> exact hq
    unfold SetTable.probe.go at e
    cases hs : t.slot p.j with
    | empty => rw [hs] at e; cases e; exact ⟨hs, hp⟩
    | dummy =>
      exfalso
      unfold SetTable.slot at hs
      rw [hd, has_nil] at hs
      dsimp only at hs
      split at hs <;> cases hs
    | live i =>
      rw [hs] at e
      dsimp only at e
      split at e
      · cases e
      · exact probe_go hd fuel _ (adv p hp) e
theorem free_ok {bt : Bool} {t : SetTable} (h : TabOk bt t) {x : Int} {j : Nat} {b : Bool} (e : t.freeSlot x = some (j, b)) : t.slot j = .empty := by
  unfold SetTable.freeSlot at e
  split at e
  · rename_i j' d hp
    have := probe_go h.dum _ _ rfl hp
    rw [this.2] at e
    cases e; exact this.1
  · cases e
theorem TabOk.layNew {bt : Bool} {t : SetTable} (h : TabOk bt t) (es : Array (Int × Value)) (x : Int) (v : Value) : TabOk bt (layNew t es x v).2.1 := by
  unfold PySem.layNew
  split
  · rename_i slot wasDummy e
    exact (h.put (free_ok h e)).orStandIn _
  · exact h.standIn _
theorem live_fst {g : Nat → Option Nat} : ∀ l : List Nat, ((l.filterMap fun j => (g j).map (j, ·)).map (·.1)) = l.filter fun j => (g j).isSome
  | [] => rfl
  | j :: l => by
    rw [List.filterMap_cons, List.filter_cons]
    cases e : g j with
    | none => exact live_fst l
    | some y => exact congrArg (j :: ·) (live_fst l)
theorem TabOk.relay {bt : Bool} {t : SetTable} (h : TabOk bt t) (es : Array (Int × Value)) (n : Nat) : TabOk bt (relayAll t es n).2.1 := by
  unfold relayAll
  split
  · rename_i t' order e
    dsimp only
    split
    · unfold SetTable.relaid SetTable.laid at e
      cases ho : SetTable.layClean (SetTable.sizeAbove n - 1) (es.map (·.1)) with
      | none => rw [ho] at e; cases e
      | some owner =>
        rw [ho] at e
        have e' := (Prod.mk.inj (Option.some.inj e)).1
        rw [← e']
        refine ⟨rfl, ?_, h.led⟩
        show ((((List.range (SetTable.sizeAbove n - 1 + 1)).filterMap fun j => (owner.getD j none).map (j, ·)).map (·.1)).toArray).toList.Pairwise (· < ·)
        rw [live_fst]
        exact List.pairwise_lt_range.sublist List.filter_sublist
    · exact h.standIn _
  · exact h.standIn _
end Mine
namespace Mine
open PySem

noncomputable abbrev setO (es : Array (Int × Value)) (ep : Nat) (t : SetTable) : Obj := { cls := .type "set", dict := Option.none, data := .set es ep t, slots := #[] }
noncomputable def keysIn (es : Array (Int × Value)) : List Int := es.toList.map fun e => PyProof.Rows.numOf e.2
/-- a set of ints -/
structure SetI (bt : Bool) (h : Heap) (a : Addr) (es : Array (Int × Value)) : Prop where
  obj : ∃ ep t, h.get? a = some (setO es ep t) ∧ t.fits es.size = true ∧ TabOk bt t
  el : ∀ e ∈ es.toList, ∃ k tok, e = (hashInt k, .int k tok)
  nod : (keysIn es).Nodup

section
variable {prog : Program} {w : World} {A : Around} {E : Value → Shared → Prop} {s : Shared} {bt : Bool} {a : Addr} {es : Array (Int × Value)}

theorem isInt_self (k : Int) (tok : Tok) : Value.isInt k (.int k tok) = true := by simp [Value.isInt]
theorem els_of (h : ∀ e ∈ es.toList, ∃ k tok, e = (hashInt k, .int k tok)) : ElemsOf (intKind prog w) es.toList := fun e he => by
  obtain ⟨k, tok, rfl⟩ := h e he
  exact ⟨⟨k, isInt_self k tok, rfl⟩, rfl⟩
theorem wpAny_storeI {es' : Array (Int × Value)} {ep : Nat} {t t' : SetTable} {Q : Unit → Shared → Prop} (ho : s.heap.get? a = some (setO es ep t)) (hz : es'.size < scanBound)
    (h : ∀ h', Heap.SameBut a s.heap h' → h'.get? a = some (setO es' (ep + 1) t') → Q () { s with heap := h' }) : wpAny (model prog w) A (storeSet a es' t') Q E s := by
  refine wpAny_storeSet_of ho rfl (h _ (Heap.SameBut.update _ _ _) ?_) (fits_of_scanBound hz)
  exact Heap.get?_update_self (Obj.putSet es' t') ho rfl

theorem wpAny_addI {k : Int} {tok : Tok} {Q : Bool → Shared → Prop} (hS : SetI bt s.heap a es) (hroom : es.size + 1 < scanBound)
    (h : ∀ h' es', Heap.SameBut a s.heap h' → SetI bt h' a es' → (keysIn es').Perm (if k ∈ keysIn es then keysIn es else keysIn es ++ [k]) → ∀ b, Q b { s with heap := h' }) :
    wpAny (model prog w) A (setAddHashed a (.int k tok) (hashInt k)) Q E s := by
  obtain ⟨⟨ep, t, ho, hf, hT⟩, hel, hnod⟩ := hS
  have hels := els_of (prog := prog) (w := w) hel
  have hkey : (intKind prog w).is k (.int k tok) = true := isInt_self k tok
  unfold setAddHashed setAddHashedIn
  refine wpAny_holding (wpAny_bind (wpAny_setState_of ho rfl hf ?_))
  dsimp only
  rw [byScan_of (knd := intKind prog w) rfl (Nat.lt_of_succ_lt hroom) hels, if_pos rfl]
  unfold setAddByScan
  refine wpAny_bind (wpAny_bind (wpAny_rule (wpAny_bind (wpAny_setScan_of hkey ho rfl hf hels ?_))))
  have hmem : ∀ e ∈ es.toList, (intKind prog w).is k e.2 = true → k ∈ keysIn es := fun e he q => by
    obtain ⟨k', tok', rfl⟩ := hel e he
    have := Value.isInt_inj (.int k' tok') k k' q (isInt_self k' tok')
    subst this
    exact List.mem_map.mpr ⟨_, he, rfl⟩
  cases hr : List.findIdx? (fun e => (intKind prog w).is k e.2) es.toList with
  | some j =>
    obtain ⟨hj, hpj, _⟩ := List.findIdx?_eq_some_iff_getElem.mp hr
    have hin := hmem _ (List.getElem_mem hj) hpj
    refine wpAny_pure (wpAny_pure ?_)
    exact h s.heap es (Heap.SameBut.refl a s.heap) ⟨⟨ep, t, ho, hf, hT⟩, hel, hnod⟩ (by rw [if_pos hin]) false
  | none =>
    have hnin : k ∉ keysIn es := fun q => by
      obtain ⟨e, he, q⟩ := List.mem_map.mp q
      obtain ⟨k', tok', rfl⟩ := hel e he
      have e' : k' = k := q
      subst e'
      have := List.findIdx?_eq_none_iff.mp hr _ he
      rw [show (intKind prog w).is k' (.int k' tok') = true from isInt_self k' tok'] at this; cases this
    rw [if_neg hnin] at h
    have hperm := layNew_perm t es (hashInt k) (.int k tok)
    have hfits := layNew_fits t es (hashInt k) (.int k tok)
    have hTn := hT.layNew es (hashInt k) (.int k tok)
    dsimp only
    generalize layNew t es (hashInt k) (.int k tok) = L at hperm hfits hTn ⊢
    obtain ⟨es1, t1, wasDummy, gave⟩ := L
    dsimp only at hperm hfits hTn ⊢
    rw [Array.toList_push] at hperm
    have hel1 : ∀ e ∈ es1.toList, ∃ k tok, e = (hashInt k, .int k tok) := fun e he => by
      rcases List.mem_append.mp (hperm.mem_iff.mp he) with he | he
      · exact hel e he
      · rw [List.mem_singleton.mp he]; exact ⟨k, tok, rfl⟩
    have hk1 : (keysIn es1).Perm (keysIn es ++ [k]) := by
      have := hperm.map fun (e : Int × Value) => PyProof.Rows.numOf e.2
      rwa [List.map_append] at this
    have hsz1 : es1.size < scanBound := by
      have := hperm.length_eq
      rw [List.length_append, Array.length_toList, Array.length_toList] at this
      rw [this]; exact hroom
    have hnod1 : ∀ es2, (keysIn es2).Perm (keysIn es ++ [k]) → (keysIn es2).Nodup := fun es2 hp => hp.nodup_iff.mpr (List.nodup_append.mpr ⟨hnod, List.nodup_cons.mpr ⟨List.not_mem_nil, List.nodup_nil⟩, fun x hx y hy e => hnin (by
      rw [List.mem_singleton.mp hy] at e; exact e ▸ hx)⟩)
    have gw : ∀ (b : Bool) {s₁ : Shared} {Q' : Unit → Shared → Prop}, Q' () s₁ → wpAny (model prog w) A (match b with | true => rule "set.scan.the-table-gave-way" | false => pure ()) Q' E s₁ :=
      fun b s₁ Q' hq => by cases b <;> first | exact wpAny_pure hq | exact wpAny_rule hq
    have fin : ∀ t2 : SetTable, t2.fits es1.size = true → TabOk bt t2 → wpAny (model prog w) A (do
        storeSet a es1 t2
        if (!wasDummy && t2.tooFull) = true then do
            (match (relayAll t2 es1 (SetTable.grown es1.size)).2.2 with | true => rule "set.scan.the-table-gave-way" | false => pure ())
            storeSet a (relayAll t2 es1 (SetTable.grown es1.size)).1 (relayAll t2 es1 (SetTable.grown es1.size)).2.1
            pure (some true)
          else pure (some true)) (fun r s' => ∃ h' es', s' = { s with heap := h' } ∧ r = some true ∧ Heap.SameBut a s.heap h' ∧ SetI bt h' a es' ∧ (keysIn es').Perm (keysIn es ++ [k])) E s := fun t2 hf2 hT2 => by
      refine wpAny_bind (wpAny_storeI ho hsz1 fun h1 hs1 ho1 => ?_)
      split
      · have hp2 := relayAll_perm t2 es1 (SetTable.grown es1.size)
        have hf3 := relayAll_fits t2 es1 (SetTable.grown es1.size)
        have hT3 := hT2.relay es1 (SetTable.grown es1.size)
        generalize relayAll t2 es1 (SetTable.grown es1.size) = Rl at hp2 hf3 hT3 ⊢
        obtain ⟨es2, t3, gave2⟩ := Rl
        dsimp only at hp2 hf3 hT3 ⊢
        have hk2 : (keysIn es2).Perm (keysIn es ++ [k]) := (hp2.map fun (e : Int × Value) => PyProof.Rows.numOf e.2).trans hk1
        have hsz2 : es2.size < scanBound := by
          have := hp2.length_eq
          rw [Array.length_toList, Array.length_toList] at this
          rw [this]; exact hsz1
        refine wpAny_bind (gw _ (wpAny_bind (wpAny_storeI (s := { s with heap := h1 }) ho1 hsz2 fun h2 hs2 ho2 => wpAny_pure ?_)))
        exact ⟨h2, es2, rfl, rfl, hs1.trans hs2, ⟨⟨_, t3, ho2, hf3, hT3⟩, fun e he => hel1 e (hp2.mem_iff.mp he), hnod1 es2 hk2⟩, hk2⟩
      · exact wpAny_pure ⟨h1, es1, rfl, rfl, hs1, ⟨⟨_, t2, ho1, hf2, hT2⟩, hel1, hnod1 es1 hk1⟩, hk1⟩
    have done : ∀ r s', (∃ h' es', s' = { s with heap := h' } ∧ r = some true ∧ Heap.SameBut a s.heap h' ∧ SetI bt h' a es' ∧ (keysIn es').Perm (keysIn es ++ [k])) →
        wpAny (model prog w) A (match r with | some added => pure added | none => setAddHashedIn a (.int k tok) (hashInt k) 99999) Q E s' := fun r s' q => by
      obtain ⟨h', es', rfl, rfl, q1, q2, q3⟩ := q
      exact wpAny_pure (h h' es' q1 q2 q3 true)
    refine wpAny_bind (gw _ ?_)
    split
    · refine wpAny_bind ?_
      rw [hashByValue_scannable 8 rfl]
      exact wpAny_pure (wpAny_mono (fin _ hfits hTn) (fun r s' q => done r s' q) fun _ _ e => e)
    · exact wpAny_bind (wpAny_pure (wpAny_mono (fin _ hfits hTn) (fun r s' q => done r s' q) fun _ _ e => e))
end
end Mine
namespace Mine
open PySem

noncomputable def byText (w : World) : Bool := w.params.followText "set-order"
section
variable {prog : Program} {w : World} {A : Around} {E : Value → Shared → Prop} {s : Shared}

theorem wpAny_byText {Q : Bool → Shared → Prop} (h : Q (byText w) s) : wpAny (model prog w) A setsByText Q E s := by
  unfold setsByText
  exact wpAny_bind (wpAny_askSetting (wpAny_pure h))
theorem code_set_new' (a : Value) {Q₁ : Value → Shared → Prop}
    (h : Q₁ (.ref s.heap.objs.size) { s with heap := s.heap.push (setO #[] 0 (.fresh 0 0 (!byText w))) }) :
    codeAny (model prog w) A (.call (.builtin "set.__new__") ⟨[.type "set", a], []⟩) (wants Q₁ E) s := by
  refine codeAny_of_tree ?_
  show wpAny _ A.in1 (do checkBuiltinCall "set.__new__" ⟨[.type "set", a], []⟩; again (.builtin "set.__new__" ⟨[.type "set", a], []⟩)) _ _ s
  refine wpAny_bind (wpAny_of_eq (F.newCall_set_1 a) (wpAny_pure ⟨plainId_quiet F.plain_set_new _, codeAny_builtin F.entry_set_new ?_⟩))
  rw [Around.under_plainId F.plain_set_new _]
  unfold Builtin.«set.__new__» Builtin.Frozenset.newClass
  have hsub := sub_set_self
  obtain ⟨hp, g, d, tk, os⟩ := s
  dsimp only
  wp_walk
  refine wpAny_askSetting (wpAny_pure ?_)
  dsimp only
  simp only [newObj]
  refine wpAny_bind (wpAny_alloc (wpAny_pure ?_))
  exact wpAny_pure h

theorem SetI.move {bt : Bool} {h h' : Heap} {a : Addr} {es : Array (Int × Value)} (S : SetI bt h a es) (k : ∀ o, h.get? a = some o → h'.get? a = some o) : SetI bt h' a es := by
  obtain ⟨ep, t, ho, hf, hT⟩ := S.obj
  exact ⟨⟨ep, t, k _ ho, hf, hT⟩, S.el, S.nod⟩
/-- filling a set from a list of ints -/
theorem fill_loop {R : Result → Shared → Prop} {I : Addr} {fp wr : List Addr} {n : Nat} {P : Nat → Value → Prop} {St : Nat → Heap → Prop} (W : Walks prog w A.in1 I fp wr n P St) (S : Addr) (hSf : S ∉ fp) {bt : Bool}
    {ns : List Int} (hval : ∀ i v, P i v → ∃ k t, ns[i]? = some k ∧ v = .int k t) (hn : ns.length = n) (hb : n + 1 < scanBound)
    (hR : ∀ (h' : Heap) (tk : Nat) es, (∀ b o, b ∉ S :: wr → s.heap.get? b = some o → h'.get? b = some o) → SetI bt h' S es → (∀ k, k ∈ keysIn es ↔ k ∈ ns) → R (.ok (.ret .none)) { s with heap := h', toks := tk }) :
    ∀ (k i : Nat) (h : Heap) (tk : Nat) (es : Array (Int × Value)), n - i = k → i ≤ n → St i h → (∀ b o, b ∉ S :: wr → s.heap.get? b = some o → h.get? b = some o) → SetI bt h S es → (∀ k, k ∈ keysIn es ↔ k ∈ ns.take i) → es.size ≤ i →
      codeAny (model prog w) A (.builtin "set.update.loop" ⟨[.ref S, .ref I], []⟩) R { s with heap := h, toks := tk } := by
  have hSw : S ∉ wr := fun h => hSf (W.sub _ h)
  intro k
  induction k with
  | zero =>
    intro i h tk es hk hi hst hkeep hS hm _
    have hin : i = n := Nat.le_antisymm hi (Nat.le_of_sub_eq_zero hk)
    subst hin
    refine codeAny_builtin PyProof.Rows.F.entry_set_update_loop ?_
    rw [Around.under_plainId PyProof.Rows.F.plain_set_update_loop _]
    show wpAny _ A.in1 (pyNext (.ref I) >>= _) _ _ _
    refine wpAny_bind (W.done _ _ _ hst fun h' tk' hk' => ?_)
    show wpAny _ A.in1 (ret Value.none) _ _ _
    refine wpAny_pure (hR h' tk' es (fun b o hb e => hk' b o (fun q => hb (List.mem_cons_of_mem _ q)) (hkeep b o hb e)) (hS.move fun o e => hk' S o hSw e) fun k => ?_)
    rw [hm k, ← hn, List.take_length]
  | succ k ih =>
    intro i h tk es hk hi hst hkeep hS hm hsz
    have hlt : i < n := Nat.lt_of_sub_pos (hk ▸ Nat.succ_pos k)
    refine codeAny_builtin PyProof.Rows.F.entry_set_update_loop ?_
    rw [Around.under_plainId PyProof.Rows.F.plain_set_update_loop _]
    show wpAny _ A.in1 (pyNext (.ref I) >>= _) _ _ _
    refine wpAny_bind (W.item i _ _ _ hlt hst fun v h₁ tk₁ hP hst₁ hk₁ => ?_)
    obtain ⟨z, t, hz, rfl⟩ := hval i v hP
    show wpAny _ A.in1 (holding [Value.int z t] (setAdd S (.int z t)) >>= _) _ _ _
    refine wpAny_bind (wpAny_holding ?_)
    unfold setAdd
    refine wpAny_holding (wpAny_bind ((intKind prog w).pyHash (k := z) (isInt_self z t) ?_))
    refine wpAny_addI (s := { s with heap := h₁, toks := tk₁ + 1 }) (hS.move fun o e => hk₁ S o hSw e) (Nat.lt_of_le_of_lt (Nat.succ_le_succ (Nat.le_trans hsz hi)) hb) fun h₂ es₂ hs₂ hS₂ hp₂ b => ?_
    refine wpAny_pure ⟨plainId_quiet PyProof.Rows.F.plain_set_update_loop _, ih (i + 1) h₂ (tk₁ + 1) es₂ (by rw [Nat.sub_add_eq, hk]; rfl) hlt (W.frame _ _ _ hst₁ fun b hb o e => ?_) (fun b o hb e => ?_) hS₂ (fun k' => ?_) ?_⟩
    · rw [hs₂.2 b fun q => hSf (q ▸ hb)]; exact e
    · rw [hs₂.2 b fun q => hb (q ▸ List.mem_cons_self)]
      exact hk₁ b o (fun q => hb (List.mem_cons_of_mem _ q)) (hkeep b o hb e)
    · rw [hp₂.mem_iff, List.take_add_one, hz, Option.toList_some, List.mem_append, ← hm k']
      split
      · next q => exact ⟨.inl, fun q' => q'.elim id fun q' => (List.mem_singleton.mp q').symm ▸ q⟩
      · rw [List.mem_append]
    · have := hp₂.length_eq
      unfold keysIn at this
      rw [List.length_map, Array.length_toList] at this
      rw [this]
      split
      · rw [List.length_map, Array.length_toList]; exact Nat.le_succ_of_le hsz
      · rw [List.length_append, List.length_map, Array.length_toList]; exact Nat.succ_le_succ hsz
end
end Mine
namespace Mine
open PySem
section
variable {prog : Program} {w : World} {A : Around} {E : Value → Shared → Prop} {s : Shared}
theorem setI_fresh {h : Heap} {a : Addr} {b : Bool} (ho : h.get? a = some (setO #[] 0 (.fresh 0 0 (!b)))) : SetI b h a #[] :=
  ⟨⟨_, _, ho, rfl, ⟨rfl, .nil, rfl⟩⟩, fun _ he => by simp at he, .nil⟩
set_option maxRecDepth 100000 in
set_option maxHeartbeats 3200000 in
/-- set(l) of a list of ints -/
theorem call_setI {l : Addr} {items : Array Value} {n : Nat} {ns : List Int} {Q : Value → Shared → Prop} (hh : A.handled = none) (hl : s.heap.get? l = some (lstO items n)) (hi : ∀ (i : Nat) (v : Value), items[i]? = some v → ∃ (k : Int) (t : Tok), ns[i]? = some k ∧ v = Value.int k t)
    (hn : ns.length = items.size) (hb : items.size + 1 < scanBound)
    (h : ∀ (h' : Heap) (tk : Nat) es, (∀ b o, s.heap.get? b = some o → h'.get? b = some o) → SetI (byText w) h' s.heap.objs.size es → (∀ k, k ∈ keysIn es ↔ k ∈ ns) → Q (.ref s.heap.objs.size) { s with heap := h', toks := tk }) :
    wpAny (model prog w) A (call (.type "set") [.ref l]) Q E s := by
  obtain ⟨c, tl, hmro⟩ := F.called_set.mro
  have hmade := F.called_set.made
  have hsub := F.called_set.sub
  refine wpAny_call (codeAny_of_tree ?_)
  show wpAny _ _ (callAny (.type "set") _) _ _ _
  refine wpAny_pure ⟨Code.quiet_builtin _ (by decide +kernel), codeAny_builtin F.entry_type_call ?_⟩
  rw [Around.under_plain (weight_type_call_type "set" [.ref l] []) rfl]
  have h1 := F.called_set.notType
  have h2 := F.called_set.canCreate
  have hct := F.typeCall_set_1 (.ref l)
  repeat (any_goals (first | assumption | wp_step))
  generalize hS0 : s.heap.push (setO #[] 0 (.fresh 0 0 (!byText w))) = hS
  have hget : hS.get? s.heap.objs.size = some (setO #[] 0 (.fresh 0 0 (!byText w))) := hS0 ▸ Heap.get?_push_size _ rfl
  have hsz : hS.objs.size = s.heap.objs.size + 1 := hS0 ▸ Heap.size_push ..
  have hold : ∀ b o, s.heap.get? b = some o → hS.get? b = some o := fun b o e => hS0 ▸ Heap.get?_push_of_some _ e
  refine codeAny_mono (code_set_new' (.ref l) (E := E) (Q₁ := fun obj s₁ => obj = .ref s.heap.objs.size ∧ s₁ = { s with heap := hS }) ⟨rfl, by rw [hS0]⟩) fun r s₁ hr => ?_
  cases r with
  | error e => exact hr
  | ok fl =>
    cases fl with
    | ret obj =>
      obtain ⟨rfl, rfl⟩ := hr
      have hT : Shared.TypeIs { s with heap := hS } (.ref s.heap.objs.size) "set" := ⟨_, hget, rfl⟩
      have hli := F.called_set.init.lookup
      have hbi := F.called_set.init.bind (.ref s.heap.objs.size)
      repeat (any_goals (first | assumption | wp_step))
      refine codeAny_mono (codeAny_call_builtin (R := wants (fun r s₂ => r = .none ∧ Q (.ref s.heap.objs.size) s₂) E) F.called_set.init.plain F.entry_set_init (check_set_init_1 hT ?_)) fun r₂ s₂ hr₂ => ?_
      · have hol := hold l _ hl
        have hsls := F.sub_list_set
        have hslf := F.sub_list_frozenset
        have hne : (Value.type "list" == Value.type "dict") = false := by decide
        have hl1 : hS.IsList l items := ⟨_, hol, rfl, n, rfl⟩
        unfold Builtin.«set.__init__» noKeywords Builtin.Frozenset.updateFrom
        generalize hPI : pyIter = PI
        wp_walk
        subst hPI
        refine wpAny_pyIter_list hl1 ?_
        refine wpAny_bind (wpAny_runValue ?_)
        have hlS : l < s.heap.objs.size := Heap.lt_size hl
        have hneI : l ≠ hS.objs.size := by rw [hsz]; exact Nat.ne_of_lt (Nat.lt_succ_of_lt hlS)
        have hh3 : A.in1.in1.in1.handled = none := hh
        refine fill_loop (s := { s with heap := s.heap }) (Walks.list hh3 _ l hneI items) s.heap.objs.size ?_ (bt := byText w) hi hn hb (fun h' tk es hk hS' hm => ?_) (items.size - 0) 0 _ _ #[] rfl (Nat.zero_le _)
          ⟨⟨_, Heap.get?_push_size _ rfl, rfl, rfl⟩, hl1.push _⟩ (fun b o _ e => Heap.get?_push_of_some _ (hold b o e)) (setI_fresh (Heap.get?_push_of_some _ hget)) (fun k => by simp [keysIn]) (Nat.le_refl _)
        · rw [hsz]; simp only [List.mem_cons, List.not_mem_nil, or_false, not_or]
          exact ⟨Nat.ne_of_lt (Nat.lt_succ_self _), Nat.ne_of_gt hlS⟩
        · refine wpAny_pure ?_
          show wpAny _ _ (ret Value.none) _ _ _
          refine wpAny_pure ⟨rfl, h h' tk es (fun b o e => hk b o ?_ e) hS' hm⟩
          have hb := Heap.lt_size e
          rw [hsz]; simp only [List.mem_cons, List.not_mem_nil, or_false, not_or]
          exact ⟨Nat.ne_of_lt hb, Nat.ne_of_lt (Nat.lt_succ_of_lt hb)⟩
      · cases r₂ with
        | error e => exact hr₂
        | ok fl₂ =>
          cases fl₂ with
          | ret r =>
            obtain ⟨rfl, hq⟩ := hr₂
            repeat (any_goals (first | assumption | wp_step))
          | _ => exact hr₂.elim
    | _ => exact hr.elim
end
end Mine
namespace Mine
open PySem
set_option maxRecDepth 100000

theorem slot_setit_next : Slot "set_iterator" "__next__" "set_iterator.__next__" :=
  .of (owner := "set_iterator") (n := "__next__") (by rw [typeLookup_type, builtinLookup_eq_fast]; kernel_rfl) (by decide +kernel) (by decide +kernel) (by decide +kernel)
    (by first | exact .inl (by decide +kernel) | exact .inr (by decide +kernel)) (by rw [isSubtype_type]; kernel_rfl)
theorem slot_setit_iter : Slot "set_iterator" "__iter__" "set_iterator.__iter__" :=
  .of (owner := "set_iterator") (n := "__iter__") (by rw [typeLookup_type, builtinLookup_eq_fast]; kernel_rfl) (by decide +kernel) (by decide +kernel) (by decide +kernel)
    (by first | exact .inl (by decide +kernel) | exact .inr (by decide +kernel)) (by rw [isSubtype_type]; kernel_rfl)
theorem entry_setit_next : entryFor table "set_iterator.__next__" = some Builtin.«set_iterator.__next__» := entryFor_of_tree (by kernel_rfl)
theorem entry_set_iter : entryFor table "set.__iter__" = some Builtin.«frozenset.__iter__» :=
  entryFor_alias (id' := "frozenset.__iter__") (by kernel_rfl) rfl (by decide +kernel) (by kernel_rfl)
theorem entry_setit_iter : entryFor table "set_iterator.__iter__" = some Builtin.«dict_keyiterator.__iter__» :=
  entryFor_alias (id' := "dict_keyiterator.__iter__") (by kernel_rfl) rfl (by decide +kernel) (by kernel_rfl)
theorem args_setit_iter (a : Value) : argsOk "set_iterator.__iter__" ⟨[a], []⟩ := by unfold argsOk; kernel_rfl
theorem args_setit_next (a : Value) : argsOk "set_iterator.__next__" ⟨[a], []⟩ := by unfold argsOk; kernel_rfl

noncomputable abbrev setItO (first : Value) (a : Addr) (i n ep : Nat) : Obj := { cls := .type "set_iterator", dict := Option.none, data := .fields #[first, .int i 0, .ref a, .int n 0, .int ep 0], slots := #[] }

section
variable {prog : Program} {w : World} {A : Around} {E : Value → Shared → Prop} {s : Shared} {I a : Addr} {first : Value} {i ep : Nat} {es : Array (Int × Value)} {t : SetTable} {Q : Option Value → Shared → Prop}

/-- the iterator's next, up to its road -/
theorem next_core (hit : s.heap.get? I = some (setItO first a i es.size ep)) (hs : s.heap.get? a = some (setO es ep t)) (hf : t.fits es.size = true)
    (h : wpAny (model prog w) A.in1 (if let .int slot _ := first then do
        match ← setNext a slot.toNat (i : Int).toNat (ep : Int).toNat with
        | some (x, next) =>
          setField (.ref I) 0 (rawInt next)
          setField (.ref I) 1 (rawInt ((i : Int) + 1))
          ret x
        | none => setField (.ref I) 2 .none; raiseNew (← newExc (.type "StopIteration") [])
      else do
        let some places ← seqItems? first | unsupported "internal:set_iterator"
        match places[(i : Int).toNat]? with
        | some (.int place _) =>
          let x ← setNextDrawn a place.toNat (ep : Int).toNat
          setField (.ref I) 1 (rawInt ((i : Int) + 1))
          ret x
        | some _ => unsupported "internal:set_iterator"
        | none => setField (.ref I) 0 (rawInt 0); setField (.ref I) 2 .none; raiseNew (← newExc (.type "StopIteration") []))
      (fun fin s' => ∃ v, fin = .done (.ret v) ∧ Q (some v) s') (fun e s' => wpAny (model prog w) A (do if ← isInstance e (.type "StopIteration") then pure none else throw e) Q E s') s) :
    wpAny (model prog w) A (pyNext (.ref I)) Q E s := by
  have hT : s.TypeIs (.ref I) "set_iterator" := ⟨_, hit, rfl⟩
  unfold pyNext
  refine wpAny_bind (wpAny_attempt (wpAny_callSpecial?_slot (name := Str.ofString "__next__") hT slot_setit_next (wpAny_call_entry slot_setit_next hT entry_setit_next ?_ (args_setit_next _))))
  refine wpAny_bind (wpAny_pure (wpAny_bind (wpAny_fieldsOf hit rfl ?_)))
  refine wpAny_bind (wpAny_setEntries_of hs rfl hf ?_)
  show wpAny _ _ (if (((es.size : Nat) : Int) != ((es.size : Nat) : Int)) = true then _ else _) _ _ _
  rw [if_neg (by simp)]
  exact wpAny_mono h (fun fin s' q => by obtain ⟨v, e, q⟩ := q; exact ⟨v, e, wpAny_pure q⟩) fun e s' q => q
/-- the iterator stops -/
theorem stop_core (hh : A.handled = none) {h₁ : Heap} (h : ∀ h', (∀ b o, h₁.get? b = some o → h'.get? b = some o) → Q none { s with heap := h' }) {Q' : Fin → Shared → Prop} :
    wpAny (model prog w) A.in1 (do raiseNew (← newExc (.type "StopIteration") [])) Q'
      (fun e s' => wpAny (model prog w) A (do if ← isInstance e (.type "StopIteration") then pure none else throw e) Q E s') { s with heap := h₁ } := by
  refine wpAny_bind ?_
  simp only [newExc, newTuple]
  refine wpAny_bind (wpAny_newObj_type ?_ (by size_fits))
  refine wpAny_bind (m := firstArgMember _ _) (wpAny_of_eq (a := Value.none) (by first | rfl | (simp only [firstArgMember]; rfl)) ?_)
  refine wpAny_newObj_type ?_ (by size_fits)
  simp only [raiseNew]
  refine wpAny_bind (wpAny_handled ?_)
  rw [show A.in1.handled = none from hh]
  refine wpAny_bind (wpAny_pure (wpAny_throw ?_))
  refine wpAny_bind (wpAny_isInstance (T := "StopIteration") (b := true) ⟨_, Heap.get?_push_size _ rfl, rfl⟩ isSubtype_stop ?_)
  exact wpAny_pure (h _ fun b o e => Heap.get?_push_of_some _ (Heap.get?_push_of_some _ e))
theorem next_int {slot j : Nat} {x : Value} (hit : s.heap.get? I = some (setItO (.int slot 0) a i es.size ep)) (hs : s.heap.get? a = some (setO es ep t)) (hf : t.fits es.size = true)
    (hN : ∀ (E' : Value → Shared → Prop) (Q' : Option (Value × Nat) → Shared → Prop), Q' (some (x, j)) s → wpAny (model prog w) A.in1 (setNext a slot i ep) Q' E' s)
    (hQ : ∀ h', h'.get? I = some (setItO (.int j 0) a (i + 1) es.size ep) → Heap.SameBut I s.heap h' → Q (some x) { s with heap := h' }) : wpAny (model prog w) A (pyNext (.ref I)) Q E s := by
  refine next_core hit hs hf (wpAny_bind (hN _ _ ?_))
  refine wpAny_bind (wpAny_setField_rec hit (by simp) fun h₁ e₁ s₁ => wpAny_bind (wpAny_setField_rec (s := { s with heap := h₁ }) e₁ (by simp) fun h₂ e₂ s₂ => ?_))
  exact wpAny_pure ⟨x, rfl, hQ h₂ e₂ (s₁.trans s₂)⟩
theorem next_int_end (hh : A.handled = none) {slot : Nat} (hit : s.heap.get? I = some (setItO (.int slot 0) a i es.size ep)) (hs : s.heap.get? a = some (setO es ep t)) (hf : t.fits es.size = true)
    (hN : ∀ (E' : Value → Shared → Prop) (Q' : Option (Value × Nat) → Shared → Prop), Q' none s → wpAny (model prog w) A.in1 (setNext a slot i ep) Q' E' s)
    (hQ : ∀ h', (∀ b o, b ≠ I → s.heap.get? b = some o → h'.get? b = some o) → Q none { s with heap := h' }) : wpAny (model prog w) A (pyNext (.ref I)) Q E s := by
  refine next_core hit hs hf (wpAny_bind (hN _ _ ?_))
  refine wpAny_bind (wpAny_setField_rec hit (by simp) fun h₁ e₁ s₁ => stop_core hh fun h' hk => hQ h' fun b o hb e => hk b o ((s₁.2 b hb).trans e))
theorem next_dr {T : Addr} {ps : Array Value} {n' pl : Nat} {tok : Tok} {x : Int × Value} (hit : s.heap.get? I = some (setItO (.ref T) a i es.size ep)) (hs : s.heap.get? a = some (setO es ep t)) (hf : t.fits es.size = true)
    (hT : s.heap.get? T = some (tupO ps n')) (hp : ps[i]? = some (.int pl tok)) (hx : es[pl]? = some x)
    (hQ : ∀ h', h'.get? I = some (setItO (.ref T) a (i + 1) es.size ep) → Heap.SameBut I s.heap h' → Q (some x.2) { s with heap := h' }) : wpAny (model prog w) A (pyNext (.ref I)) Q E s := by
  refine next_core hit hs hf (wpAny_bind (wpAny_seqItems hT rfl ?_))
  show wpAny _ _ (match ps[i]? with | some (Value.int place tok) => _ | some val => _ | none => _) _ _ _
  rw [hp]
  refine wpAny_bind ?_
  unfold setNextDrawn
  refine wpAny_bind (wpAny_setState_of hs rfl hf ?_)
  show wpAny _ _ (if (ep != ep) = true then _ else _) _ _ _
  rw [if_neg (by simp)]
  show wpAny _ _ (match es[pl]? with | some (_, x) => _ | _ => _) _ _ _
  rw [hx]
  refine wpAny_pure (wpAny_bind (wpAny_setField_rec hit (by simp) fun h₁ e₁ s₁ => ?_))
  exact wpAny_pure ⟨x.2, rfl, hQ h₁ e₁ s₁⟩
theorem next_dr_end (hh : A.handled = none) {T : Addr} {ps : Array Value} {n' : Nat} (hit : s.heap.get? I = some (setItO (.ref T) a i es.size ep)) (hs : s.heap.get? a = some (setO es ep t)) (hf : t.fits es.size = true)
    (hT : s.heap.get? T = some (tupO ps n')) (hp : ps[i]? = none)
    (hQ : ∀ h', (∀ b o, b ≠ I → s.heap.get? b = some o → h'.get? b = some o) → Q none { s with heap := h' }) : wpAny (model prog w) A (pyNext (.ref I)) Q E s := by
  refine next_core hit hs hf (wpAny_bind (wpAny_seqItems hT rfl ?_))
  show wpAny _ _ (match ps[i]? with | some (Value.int place tok) => _ | some val => _ | none => _) _ _ _
  rw [hp]
  refine wpAny_bind (wpAny_setField_rec hit (by simp) fun h₁ e₁ s₁ => wpAny_bind (wpAny_setField_rec (s := { s with heap := h₁ }) e₁ (by simp) fun h₂ e₂ s₂ => ?_))
  exact stop_core hh fun h' hk => hQ h' fun b o hb e => hk b o (((s₁.trans s₂).2 b hb).trans e)
end
end Mine
namespace Mine
open PySem

section
variable {prog : Program} {w : World} {A : Around} {E : Value → Shared → Prop} {s : Shared}
theorem wpAny_chooseI {src : Source} {n : Nat} {Q : Nat → Shared → Prop} (hn : 0 < n) (h : ∀ i dw, i < n → Q i { s with drawn := dw }) : wpAny (model prog w) A (choose src n) Q E s := fun _ _ _ => by
  unfold choose
  rw [Sem.wp_choose]
  exact ⟨Nat.ne_of_gt hn, h _ _ (Nat.mod_lt _ hn)⟩
theorem erase_perm {α : Type} {x : α} : ∀ {l : List α} {i : Nat}, l[i]? = some x → (x :: l.eraseIdx i).Perm l
  | [], _, h => by simp at h
  | y :: l, 0, h => by cases h; exact List.Perm.refl _
  | y :: l, i + 1, h => (List.Perm.swap y x (l.eraseIdx i)).trans (List.Perm.cons y (erase_perm h))
theorem draw_ok {α : Type} {Q : List α → Shared → Prop} : ∀ (n : Nat) (xs : List α) (dw : Drawn), xs.length = n → (∀ ys dw', ys.Perm xs → Q ys { s with drawn := dw' }) → wpAny (model prog w) A (drawOrder n xs) Q E { s with drawn := dw }
  | 0, xs, dw, hn, h => wpAny_pure (h [] dw (by rw [List.eq_nil_of_length_eq_zero hn]))
  | n + 1, [], dw, hn, h => nomatch hn
  | n + 1, x :: xs, dw, hn, h => by
    unfold drawOrder
    refine wpAny_bind (wpAny_chooseI (s := { s with drawn := dw }) (Nat.succ_pos _) fun i dw₁ hi => ?_)
    have e : (x :: xs)[i]? = some (x :: xs)[i] := List.getElem?_eq_getElem hi
    rw [e]
    refine wpAny_bind (draw_ok n _ dw₁ ?_ fun ys dw₂ hp => wpAny_pure (h _ dw₂ ((List.Perm.cons _ hp).trans (erase_perm e))))
    rw [List.length_eraseIdx, if_pos hi, hn]; rfl
theorem pick_go {α : Type} (next : Nat → Nat) : ∀ (fuel k : Nat) (left : List α) (out : Array α), left.length = fuel → (pickOrder.go next fuel k left out).toList.Perm (out.toList ++ left)
  | 0, k, left, out, h => by rw [List.eq_nil_of_length_eq_zero h, List.append_nil]; exact List.Perm.refl _
  | fuel + 1, k, left, out, h => by
    have hi : next k % left.length < left.length := Nat.mod_lt _ (h ▸ Nat.succ_pos _)
    have e : left[next k % left.length]? = some left[next k % left.length] := List.getElem?_eq_getElem hi
    unfold pickOrder.go
    rw [e]
    refine (pick_go next fuel (k + 1) _ _ (by rw [List.length_eraseIdx, if_pos hi, h]; rfl)).trans ?_
    rw [Array.toList_push, List.append_assoc]
    exact List.Perm.append_left _ (erase_perm e)
theorem pick_perm {α : Type} (next : Nat → Nat) (xs : Array α) : (pickOrder next xs).toList.Perm xs.toList := pick_go next _ 0 xs.toList #[] (Array.length_toList ..)

/-- the places where the walk by the table stands -/
noncomputable def slotAt (t : SetTable) (i : Nat) : Nat := match i with | 0 => 0 | i + 1 => t.place.getD i 0 + 1
theorem below_slot {t : SetTable} (hr : Ris t.place) {i : Nat} (hi : i ≤ t.place.size) : SetTable.below t.place (slotAt t i) = i := by
  have hb := below_ok hr (slotAt t i)
  have mono : ∀ i i' (h : i < t.place.size) (h' : i' < t.place.size), i < i' → t.place[i] < t.place[i'] := fun i i' h h' l => by
    have := List.pairwise_iff_getElem.mp hr i i' (by simpa using h) (by simpa using h') l
    simpa using this
  rcases Nat.lt_trichotomy (SetTable.below t.place (slotAt t i)) i with h | h | h
  · exfalso
    cases i with
    | zero => exact Nat.not_lt_zero _ h
    | succ j =>
      have hj : j < t.place.size := hi
      have e : slotAt t (j + 1) = t.place[j] + 1 := by unfold slotAt; dsimp only; rw [Array.getD_eq_getD_getElem?, getElem?_pos _ j hj]; rfl
      have := hb.2.2 j hj (Nat.le_of_lt_succ h)
      rw [e] at this
      exact Nat.not_succ_le_self _ this
  · exact h
  · exfalso
    have hlt : i < t.place.size := Nat.lt_of_lt_of_le h hb.1
    have := hb.2.1 i hlt h
    cases i with
    | zero => exact Nat.not_lt_zero _ this
    | succ j =>
      have hj : j < t.place.size := Nat.lt_of_succ_lt hlt
      have e : slotAt t (j + 1) = t.place[j] + 1 := by unfold slotAt; dsimp only; rw [Array.getD_eq_getD_getElem?, getElem?_pos _ j hj]; rfl
      rw [e] at this
      exact Nat.lt_irrefl _ (Nat.lt_of_lt_of_le (mono j (j + 1) hj hlt (Nat.lt_succ_self _)) (Nat.le_of_lt_succ this))

section
variable {a : Addr} {es : Array (Int × Value)} {ep i : Nat} {t : SetTable}
theorem next_text (hb : byText w = true) (hs : s.heap.get? a = some (setO es ep t)) (hf : t.fits es.size = true) {Q : Option (Value × Nat) → Shared → Prop}
    (h : Q (((pickOrder (w.params.setOrder a ep) es)[i]?).map fun e => (e.2, 0)) s) : wpAny (model prog w) A (setNext a 0 i ep) Q E s := by
  unfold setNext
  refine wpAny_bind (wpAny_setState_of hs rfl hf (wpAny_bind (wpAny_byText ?_)))
  rw [hb]
  show wpAny _ _ (if (ep != ep) = true then _ else _) _ _ _
  rw [if_neg (by simp)]
  refine wpAny_bind ?_
  unfold setWalk
  refine wpAny_bind (wpAny_setState_of hs rfl hf (wpAny_bind (wpAny_byText ?_)))
  rw [hb]
  exact wpAny_bind (wpAny_askSetting (wpAny_pure (wpAny_pure h)))
theorem next_tab (hb : byText w = false) (hd : (!t.plain && decide (es.size > 1)) = false) (hs : s.heap.get? a = some (setO es ep t)) (hf : t.fits es.size = true) (hT : TabOk false t) (hi : i ≤ es.size) {Q : Option (Value × Nat) → Shared → Prop}
    (h : Q (es[i]?.map fun e => (e.2, slotAt t (i + 1))) s) : wpAny (model prog w) A (setNext a (slotAt t i) i ep) Q E s := by
  have hsz : t.place.size = es.size := by
    simp only [SetTable.fits, Bool.and_eq_true, beq_iff_eq] at hf; exact hf.1
  unfold setNext
  refine wpAny_bind (wpAny_setState_of hs rfl hf (wpAny_bind (wpAny_byText ?_)))
  rw [hb]
  refine wpAny_ite_split (fun q => absurd q Bool.false_ne_true) fun _ => ?_
  refine wpAny_ite_split (fun q => absurd (hd ▸ q : false = true) Bool.false_ne_true) fun _ => ?_
  refine wpAny_bind ?_
  show wpAny _ _ (if (!t.led && !es.isEmpty) = true then unsupported "set:maker-not-led" else pure ()) _ _ _
  rw [hT.led, if_neg (by simp)]
  refine wpAny_pure (wpAny_pure ?_)
  rw [below_slot hT.ris (hsz ▸ hi)]
  rcases Nat.lt_or_eq_of_le hi with hl | rfl
  · have h1 : es[i]? = some es[i] := getElem?_pos es i hl
    have h2 : t.place[i]? = some t.place[i] := getElem?_pos _ i (hsz ▸ hl)
    rw [h1] at h
    rw [h1, h2]
    have e : slotAt t (i + 1) = t.place[i]'(hsz ▸ hl) + 1 := by unfold slotAt; dsimp only; rw [Array.getD_eq_getD_getElem?, h2]; rfl
    rw [e] at h
    exact h
  · have h1 : es[es.size]? = none := Array.getElem?_size
    rw [h1] at h ⊢
    exact h
end
end
end Mine
namespace Mine
open PySem

section
variable {prog : Program} {w : World} {A : Around} {E : Value → Shared → Prop} {s : Shared}

theorem setit_self {I a : Addr} {first : Value} {i n ep : Nat} {Q : Value → Shared → Prop} (hit : s.heap.get? I = some (setItO first a i n ep)) (h : Q (.ref I) s) : wpAny (model prog w) A (pyIter (.ref I)) Q E s := by
  have hT : s.TypeIs (.ref I) "set_iterator" := ⟨_, hit, rfl⟩
  refine wpAny_pyIter_slot hT slot_setit_iter (wpAny_call_entry slot_setit_iter hT entry_setit_iter ?_ (args_setit_iter _))
  show wpAny _ _ (ret (.ref I)) _ _ s
  exact wpAny_pure ⟨_, rfl, "set_iterator", _, hT, slot_setit_next.lookup, h⟩

theorem walks_text (hh : A.handled = none) {I a : Addr} (hne : a ≠ I) {es : Array (Int × Value)} {ep : Nat} {t : SetTable} (hb : byText w = true) (hf : t.fits es.size = true) :
    Walks prog w A I [I, a] [I] es.size (fun i v => ((pickOrder (w.params.setOrder a ep) es).toList.map (·.2))[i]? = some v) (fun i h => h.get? I = some (setItO (.int 0 0) a i es.size ep) ∧ h.get? a = some (setO es ep t)) where
  sub := fun b hb => by rw [List.mem_singleton.mp hb]; exact List.mem_cons_self
  frame := fun _ _ _ st hk => ⟨hk I List.mem_cons_self _ st.1, hk a (List.mem_cons_of_mem _ List.mem_cons_self) _ st.2⟩
  item := fun i s Q E hi st hQ => by
    have hl : (pickOrder (w.params.setOrder a ep) es).size = es.size := by have := (pick_perm (w.params.setOrder a ep) es).length_eq; rwa [Array.length_toList, Array.length_toList] at this
    have e : (pickOrder (w.params.setOrder a ep) es)[i]? = some ((pickOrder (w.params.setOrder a ep) es)[i]'(hl.symm ▸ hi)) := getElem?_pos _ i _
    refine next_int (j := 0) st.1 st.2 hf (fun E' Q' q => next_text hb st.2 hf (by rw [e]; exact q)) fun h' hit' hs' => hQ _ h' s.toks ?_ ⟨hit', (hs'.2 a hne).trans st.2⟩ fun b o hb e => (hs'.2 b fun q => hb (q ▸ List.mem_cons_self)).trans e
    rw [List.getElem?_map, Array.getElem?_toList, e]; rfl
  done := fun s Q E st hQ => by
    have hl : (pickOrder (w.params.setOrder a ep) es).size = es.size := by have := (pick_perm (w.params.setOrder a ep) es).length_eq; rwa [Array.length_toList, Array.length_toList] at this
    refine next_int_end hh st.1 st.2 hf (fun E' Q' q => next_text hb st.2 hf (by rw [Array.getElem?_eq_none (Nat.le_of_eq hl)]; exact q)) fun h' hk => hQ h' s.toks fun b o hb e => hk b o (fun q => hb (q ▸ List.mem_cons_self)) e
  self := fun _ _ _ _ st hQ => setit_self st.1 hQ
theorem walks_tab (hh : A.handled = none) {I a : Addr} (hne : a ≠ I) {es : Array (Int × Value)} {ep : Nat} {t : SetTable} (hb : byText w = false) (hd : (!t.plain && decide (es.size > 1)) = false) (hf : t.fits es.size = true) (hT : TabOk false t) :
    Walks prog w A I [I, a] [I] es.size (fun i v => (es.toList.map (·.2))[i]? = some v) (fun i h => i ≤ es.size ∧ h.get? I = some (setItO (.int (slotAt t i) 0) a i es.size ep) ∧ h.get? a = some (setO es ep t)) where
  sub := fun b hb => by rw [List.mem_singleton.mp hb]; exact List.mem_cons_self
  frame := fun _ _ _ st hk => ⟨st.1, hk I List.mem_cons_self _ st.2.1, hk a (List.mem_cons_of_mem _ List.mem_cons_self) _ st.2.2⟩
  item := fun i s Q E hi st hQ => by
    have e : es[i]? = some es[i] := getElem?_pos _ i hi
    refine next_int st.2.1 st.2.2 hf (fun E' Q' q => next_tab hb hd st.2.2 hf hT st.1 (by rw [e]; exact q)) fun h' hit' hs' => hQ _ h' s.toks ?_ ⟨hi, hit', (hs'.2 a hne).trans st.2.2⟩ fun b o hb e => (hs'.2 b fun q => hb (q ▸ List.mem_cons_self)).trans e
    rw [List.getElem?_map, Array.getElem?_toList, e]; rfl
  done := fun s Q E st hQ =>
    next_int_end hh st.2.1 st.2.2 hf (fun E' Q' q => next_tab hb hd st.2.2 hf hT st.1 (by rw [Array.getElem?_size]; exact q)) fun h' hk => hQ h' s.toks fun b o hb e => hk b o (fun q => hb (q ▸ List.mem_cons_self)) e
  self := fun _ _ _ _ st hQ => setit_self st.2.1 hQ
theorem walks_dr (hh : A.handled = none) {I a T : Addr} (hne : a ≠ I) (hnT : T ≠ I) {es : Array (Int × Value)} {ep n' : Nat} {t : SetTable} {ys : List Nat} (hp : ys.Perm (List.range es.size)) (hf : t.fits es.size = true) :
    Walks prog w A I [I, a, T] [I] es.size (fun i v => ((ys.map fun j => es.getD j (0, .none)).map (·.2))[i]? = some v)
      (fun i h => h.get? I = some (setItO (.ref T) a i es.size ep) ∧ h.get? a = some (setO es ep t) ∧ h.get? T = some (tupO (ys.map fun (i : Nat) => rawInt i).toArray n')) where
  sub := fun b hb => by rw [List.mem_singleton.mp hb]; exact List.mem_cons_self
  frame := fun _ _ _ st hk => ⟨hk I List.mem_cons_self _ st.1, hk a (List.mem_cons_of_mem _ List.mem_cons_self) _ st.2.1, hk T (List.mem_cons_of_mem _ (List.mem_cons_of_mem _ List.mem_cons_self)) _ st.2.2⟩
  item := fun i s Q E hi st hQ => by
    have hl : ys.length = es.size := hp.length_eq.trans List.length_range
    obtain ⟨y, e⟩ : ∃ y, ys[i]? = some y := ⟨_, List.getElem?_eq_getElem (hl.symm ▸ hi)⟩
    have hm : y < es.size := List.mem_range.mp (hp.mem_iff.mp (List.mem_of_getElem? e))
    have e2 : es[y]? = some (es[y]'hm) := getElem?_pos es y hm
    refine next_dr st.1 st.2.1 hf st.2.2 (by rw [List.getElem?_toArray, List.getElem?_map, e]; rfl) e2 fun h' hit' hs' => hQ _ h' s.toks ?_ ⟨hit', (hs'.2 a hne).trans st.2.1, (hs'.2 T hnT).trans st.2.2⟩ fun b o hb e => (hs'.2 b fun q => hb (q ▸ List.mem_cons_self)).trans e
    rw [List.getElem?_map, List.getElem?_map, e]
    show some (es.getD _ _).2 = _
    rw [Array.getD_eq_getD_getElem?, e2]; rfl
  done := fun s Q E st hQ => by
    have hl : ys.length = es.size := hp.length_eq.trans List.length_range
    refine next_dr_end hh st.1 st.2.1 hf st.2.2 ?_ fun h' hk => hQ h' s.toks fun b o hb e => hk b o (fun q => hb (q ▸ List.mem_cons_self)) e
    rw [List.getElem?_toArray]; exact List.getElem?_eq_none (by rw [List.length_map, hl]; exact Nat.le_refl _)
  self := fun _ _ _ _ st hQ => setit_self st.1 hQ

theorem perm_get {es : Array (Int × Value)} {ys : List Nat} (hp : ys.Perm (List.range es.size)) : ((ys.map fun j => es.getD j (0, .none)).map (·.2)).Perm (es.toList.map (·.2)) := by
  refine List.Perm.map _ ((hp.map _).trans (List.Perm.of_eq ?_))
  apply List.ext_getElem
  · simp
  · intro i h1 h2
    have hi : i < es.size := by simpa using h2
    rw [List.getElem_map, List.getElem_range, Array.getD_eq_getD_getElem?, getElem?_pos es i hi, Array.getElem_toList]; rfl

/-- iter of a set of ints -/
theorem iter_setI {a : Addr} {es : Array (Int × Value)} {Q : Value → Shared → Prop} (hS : SetI (byText w) s.heap a es) (hz : es.size < scanBound)
    (h : ∀ (h' : Heap) (dw : Drawn) (I : Addr) (fp : List Addr) (xs : List Value) (St : Nat → Heap → Prop), (∀ b o, s.heap.get? b = some o → h'.get? b = some o) → s.heap.objs.size ≤ I → (∀ b ∈ fp, b = a ∨ s.heap.objs.size ≤ b) → xs.Perm (es.toList.map (·.2)) →
      (∀ A' : Around, A'.handled = none → Walks prog w A' I fp [I] es.size (fun i v => xs[i]? = some v) St) → St 0 h' → Q (.ref I) { s with heap := h', drawn := dw }) : wpAny (model prog w) A (pyIter (.ref a)) Q E s := by
  obtain ⟨⟨ep, t, ho, hf, hT⟩, _, _⟩ := hS
  have hTy : s.TypeIs (.ref a) "set" := ⟨_, ho, rfl⟩
  have hlt : a < s.heap.objs.size := Heap.lt_size ho
  refine wpAny_pyIter_slot hTy F.slot_set_iter (wpAny_call_entry F.slot_set_iter hTy entry_set_iter ?_ (F.args_set_iter_1 _))
  unfold Builtin.«frozenset.__iter__» Builtin.Frozenset.slot0
  refine wpAny_bind (wpAny_bind (wpAny_pure (wpAny_pure ?_)))
  refine wpAny_bind ?_
  unfold Builtin.Frozenset.sizeOf
  refine wpAny_bind (wpAny_setEntries_of ho rfl hf (wpAny_pure ?_))
  refine wpAny_bind ?_
  unfold setDrawn
  refine wpAny_bind (wpAny_setState_of ho rfl hf (wpAny_bind (wpAny_byText (wpAny_pure ?_))))
  refine wpAny_ite_split (fun q => ?_) fun q => ?_
  · replace q : (!byText w && (!t.plain && decide (es.size > 1))) = true := q
    refine wpAny_bind (draw_ok es.size (List.range es.size) s.drawn List.length_range fun ys dw hp => wpAny_bind (wpAny_newTuple ?_ (by
      rw [List.length_map, hp.length_eq, List.length_range]; exact fits_of_scanBound hz)))
    refine wpAny_bind (wpAny_setEpoch_of (o := setO es ep t) (Heap.get?_push_of_some _ ho) rfl hf ?_)
    refine wpAny_bind ?_
    unfold newFields
    refine wpAny_newObj_type (wpAny_pure ⟨_, rfl, "set_iterator", _, ⟨_, Heap.get?_push_size _ rfl, rfl⟩, slot_setit_next.lookup, ?_⟩)
    generalize hh1 : s.heap.push { cls := .type "tuple", data := .seq (ys.map fun (i : Nat) => rawInt i).toArray } = h₁
    have hT1 : h₁.get? s.heap.objs.size = some (tupO (ys.map fun (i : Nat) => rawInt i).toArray 0) := hh1 ▸ Heap.get?_push_size _ rfl
    have hz1 : h₁.objs.size = s.heap.objs.size + 1 := hh1 ▸ Heap.size_push ..
    have hk1 : ∀ b o, s.heap.get? b = some o → h₁.get? b = some o := fun b o e => hh1 ▸ Heap.get?_push_of_some _ e
    refine h (h₁.push (setItO (.ref s.heap.objs.size) a 0 es.size ep)) dw h₁.objs.size [h₁.objs.size, a, s.heap.objs.size] _ _ (fun b o e => Heap.get?_push_of_some _ (hk1 b o e)) (hz1.symm ▸ Nat.le_succ _) (fun b hb => ?_) (perm_get hp)
      (fun A' hA => walks_dr (n' := 0) (t := t) (ep := ep) hA (hz1.symm ▸ Nat.ne_of_lt (Nat.lt_succ_of_lt hlt)) (hz1.symm ▸ Nat.ne_of_lt (Nat.lt_succ_self _)) hp hf) ⟨Heap.get?_push_size _ rfl, Heap.get?_push_of_some _ (hk1 _ _ ho), Heap.get?_push_of_some _ hT1⟩
    rcases List.mem_cons.mp hb with rfl | hb
    · exact .inr (hz1.symm ▸ Nat.le_succ _)
    · rcases List.mem_cons.mp hb with rfl | hb
      · exact .inl rfl
      · rw [List.mem_singleton.mp hb]; exact .inr (Nat.le_refl _)
  · replace q : ¬ (!byText w && (!t.plain && decide (es.size > 1))) = true := q
    refine wpAny_bind (wpAny_pure (wpAny_bind (wpAny_setEpoch_of ho rfl hf ?_)))
    refine wpAny_bind ?_
    unfold newFields
    refine wpAny_newObj_type (wpAny_pure ⟨_, rfl, "set_iterator", _, ⟨_, Heap.get?_push_size _ rfl, rfl⟩, slot_setit_next.lookup, ?_⟩)
    have hfp : ∀ b ∈ [s.heap.objs.size, a], b = a ∨ s.heap.objs.size ≤ b := fun b hb => by
      rcases List.mem_cons.mp hb with rfl | hb
      · exact .inr (Nat.le_refl _)
      · exact .inl (List.mem_singleton.mp hb)
    have hne : a ≠ s.heap.objs.size := Nat.ne_of_lt hlt
    have go := fun xs St => h (s.heap.push (setItO (.int 0 0) a 0 es.size ep)) s.drawn s.heap.objs.size [s.heap.objs.size, a] xs St (fun b o e => Heap.get?_push_of_some _ e) (Nat.le_refl _) hfp
    cases hb : byText w with
    | true => exact go _ _ ((pick_perm (w.params.setOrder a ep) es).map _) (fun A' hA => walks_text (t := t) hA hne hb hf) ⟨Heap.get?_push_size _ rfl, Heap.get?_push_of_some _ ho⟩
    | false =>
      rw [hb] at q hT
      have hd : (!t.plain && decide (es.size > 1)) = false := by simpa using q
      exact go _ _ (List.Perm.refl _) (fun A' hA => walks_tab (t := t) (ep := ep) hA hne hb hd hf hT) ⟨Nat.zero_le _, Heap.get?_push_size _ rfl, Heap.get?_push_of_some _ ho⟩
end
end Mine
namespace Mine
open PySem

section
variable {prog : Program} {w : World} {A : Around} {E : Value → Shared → Prop} {s : Shared}
set_option maxRecDepth 100000 in
theorem hint_set {r : Addr} {Q : Bool → Shared → Prop} (hT : s.TypeIs (.ref r) "set") (h : Q false s) : wpAny (model prog w) A (Builtin.List.listLengthHint (.ref r)) Q E s := by
  unfold Builtin.List.listLengthHint
  refine wpAny_bind (wpAny_specialOf hT F.slot_set_len.lookup ?_)
  generalize hid : ("set.__len__" : String) = id0
  wp_delta
  rw [show splitId id0 = some ("set", "__len__") from by subst hid; decide +kernel]
  subst hid
  refine wpAny_bind (wpAny_isInstance (T := "set") (b := true) hT (by rw [isSubtype_type]; kernel_rfl) ?_)
  refine wpAny_ite_split (fun hab => absurd hab (by decide)) (fun _ => ?_)
  refine wpAny_ite_split (fun _ => ?_) (fun hab => absurd (by decide +kernel) hab)
  refine wpAny_bind (wpAny_typeOf hT ?_)
  exact wpAny_pure h

theorem items_list {xs : List Value} {acc : Array Value} (h : ItemsOf (fun i v => xs[i]? = some v) acc xs.length) : acc.toList = xs := by
  apply List.ext_getElem?
  intro i
  rcases Nat.lt_or_ge i xs.length with hi | hi
  · have hi' : i < acc.size := h.1.symm ▸ hi
    rw [Array.getElem?_toList, getElem?_pos acc i hi', h.2 i _ (getElem?_pos acc i hi')]
  · rw [Array.getElem?_toList, Array.getElem?_eq_none (h.1.symm ▸ hi), List.getElem?_eq_none hi]

theorem extend_setI {R : Result → Shared → Prop} {a S : Addr} {es : Array (Int × Value)} (hh : A.handled = none) (hS : SetI (byText w) s.heap a es) (hz : es.size < scanBound) (hSa : S ≠ a) (res : Value) (hL : s.heap.get? S = some (lstO #[] 0))
    (hR : ∀ h' tk dw acc' c', (∀ b o, b ≠ S → s.heap.get? b = some o → h'.get? b = some o) → h'.get? S = some (lstO acc' c') → acc'.toList.Perm (es.toList.map (·.2)) → R (.ok (.ret res)) { s with heap := h', toks := tk, drawn := dw }) :
    wpAny (model prog w) A.in1 (Builtin.List.listExtendWith (.ref S) (.ref a) res)
      (fun fin s' => match fin with | .done f => R (.ok f) s' | .again c' => c'.quiet = true ∧ codeAny (model prog w) A c' R s') (fun e s' => R (.error e) s') s := by
  have hT : s.TypeIs (.ref a) "set" := by obtain ⟨ep, t, ho, _⟩ := hS.obj; exact ⟨_, ho, rfl⟩
  have hSlt : S < s.heap.objs.size := Heap.lt_size hL
  unfold Builtin.List.listExtendWith
  refine wpAny_bind (wpAny_typeOf hT ?_)
  have h1 : Builtin.List.listSameRef (.ref S) (.ref a) = false := by simp [Builtin.List.listSameRef, hSa]
  have h2 : (Value.type "set" == Value.type "list") = false := by decide
  have h3 : (Value.type "set" == Value.type "tuple") = false := by decide
  rw [h1, h2, h3]
  simp only [Bool.or_false, Bool.false_eq_true, if_false]
  refine wpAny_bind (iter_setI hS hz fun h₁ dw I fp xs St hk hI hfp hp W st => ?_)
  have hSI : S ≠ I := Nat.ne_of_lt (Nat.lt_of_lt_of_le hSlt hI)
  have hSf : S ∉ fp := fun q => (hfp S q).elim hSa fun q => Nat.lt_irrefl _ (Nat.lt_of_lt_of_le hSlt q)
  have hl : xs.length = es.size := by rw [hp.length_eq, List.length_map, Array.length_toList]
  have key : ∀ (h : Heap) (c₁ tk : Nat), St 0 h → (∀ b o, b ≠ S → s.heap.get? b = some o → h.get? b = some o) → h.get? S = some (lstO #[] c₁) →
      codeAny (model prog w) A (.builtin "list.extend.loop" ⟨[.ref S, .ref I, res], []⟩) R { s with heap := h, toks := tk, drawn := dw } := by
    intro h c₁ tk hst hk hS₁
    refine codeAny_extend_loopS (W A.in1 hh).toS (fits_of_scanBound hz) S hSf res es.size 0 _ #[] c₁ rfl (Nat.zero_le _) hst hS₁ (ItemsOf.nil _) fun s' acc' c' hm hS' hacc => ?_
    rw [Moved.eq_with hm]
    refine hR s'.heap s'.toks dw acc' c' (fun b o hb e => hm.heap b o (fun hmem => ?_) (hk b o hb e)) hS' ?_
    · rcases List.mem_cons.mp hmem with e' | hmem
      · exact hb e'
      · exact absurd (Heap.lt_size e) (by rw [List.mem_singleton.mp hmem]; exact Nat.not_lt_of_le hI)
    · rw [← hl] at hacc; rw [items_list hacc]; exact hp
  have hS₁ := hk _ _ hL
  refine wpAny_bind (wpAny_holding (hint_set (s := { s with heap := h₁, drawn := dw }) (by obtain ⟨ep, t, ho, _⟩ := hS.obj; exact ⟨_, hk _ _ ho, rfl⟩) ?_))
  refine wpAny_ite_split (fun _ => ?_) (fun _ => wpAny_pure ⟨plainId_quiet PySem.F.plain_extend_loop _, key _ 0 _ st (fun b o _ e => hk b o e) hS₁⟩)
  refine wpAny_bind (wpAny_rule (wpAny_bind ?_))
  show wpAny _ _ (updateSeq S (·.push .none) >>= fun _ => updateSeq S (·.pop)) _ _ _
  refine wpAny_bind (wpAny_updateSeq hS₁ rfl ?_)
  have hS₂ := Heap.get?_update_self (Obj.mapSeq (·.push Value.none)) hS₁ rfl
  refine wpAny_updateSeq (hz := by seq_fits) hS₂ rfl ?_
  have hS₃ := Heap.get?_update_self (Obj.mapSeq (·.pop)) hS₂ rfl
  refine wpAny_pure ⟨plainId_quiet PySem.F.plain_extend_loop _, key _ _ _ ?_ (fun b o hb e => ?_) hS₃⟩
  · refine (W A.in1 hh).frame 0 _ _ st fun b hb o e => ?_
    have hbS : b ≠ S := fun h => hSf (h ▸ hb)
    exact (Heap.get?_update_other _ _ (Ne.symm hbS)).trans ((Heap.get?_update_other _ _ (Ne.symm hbS)).trans e)
  · exact (Heap.get?_update_other _ _ (Ne.symm hb)).trans ((Heap.get?_update_other _ _ (Ne.symm hb)).trans (hk b o e))

theorem collect_setI {a : Addr} {es : Array (Int × Value)} {Q : List Value → Shared → Prop} (hh : A.handled = none) (hS : SetI (byText w) s.heap a es) (hz : es.size < scanBound)
    (h : ∀ h' tk dw xs, (∀ b o, s.heap.get? b = some o → h'.get? b = some o) → xs.Perm (es.toList.map (·.2)) → Q xs { s with heap := h', toks := tk, drawn := dw }) : wpAny (model prog w) A (collect (.ref a)) Q E s := by
  have hlt : a < s.heap.objs.size := by obtain ⟨ep, t, ho, _⟩ := hS.obj; exact Heap.lt_size ho
  unfold collect
  refine wpAny_bind (wpAny_runValue (codeAny_builtin PyProof.Rows.entry_proto_collect' ?_))
  show wpAny _ _ (do again (.builtin "list.__iadd__" ⟨[← newList [], .ref a], []⟩)) _ _ s
  refine wpAny_bind (wpAny_newList (wpAny_pure ⟨Code.quiet_builtin _ (by decide +kernel), codeAny_builtin PyProof.Rows.entry_list_iadd' ?_⟩))
  rw [Around.under_plainId (show plainId "list.__iadd__" = true by decide +kernel) _]
  show wpAny _ _ (Builtin.List.listExtendWith (.ref s.heap.objs.size) (.ref a) (.ref s.heap.objs.size)) _ _ _
  refine extend_setI (R := fun r s' => match r with
    | .ok (.ret v) => wpAny (model prog w) A (match v with
      | .ref a => do
        match (← load a).data with
        | .seq xs _ => pure xs.toList
        | _ => unsupported "internal:collect"
      | _ => unsupported "internal:collect") Q E s'
    | .ok _ => False
    | .error e => E e s') (A := A) (s := { s with heap := s.heap.push (lstO #[] 0) }) hh (hS.move fun o e => Heap.get?_push_of_some _ e) hz (Nat.ne_of_gt hlt) _ (Heap.get?_push_size _ rfl) fun h' tk dw acc' c' hk hL hp => ?_
  show wpAny (model prog w) A (do
      let o ← load s.heap.objs.size
      match o.data with
      | .seq xs _ => pure xs.toList
      | _ => unsupported "internal:collect") Q E { s with heap := h', toks := tk, drawn := dw }
  refine wpAny_bind (wpAny_load hL (wpAny_pure (h h' tk dw _ (fun b o e => hk b o (Nat.ne_of_lt (Heap.lt_size e)) (Heap.get?_push_of_some _ e)) hp)))
end
end Mine
namespace Mine
open PySem PyProof.Rows

noncomputable def gallopG (beyond : Nat → StateT SortSt Sem (Option Bool)) (n hint : Nat) : StateT SortSt Sem (Option Nat) := do
  let mut lastofs := 0
  let mut ofs := 1
  let mut lo := 0
  let mut hi := 0
  let some right ← beyond hint | return none
  if right then
    let maxofs := n - hint
    for _ in [0:n] do
      if ofs ≥ maxofs then break
      let some more ← beyond (hint + ofs) | return none
      if !more then break
      lastofs := ofs
      ofs := 2 * ofs + 1
    lo := hint + lastofs + 1
    hi := hint + min ofs maxofs
  else
    let maxofs := hint + 1
    for _ in [0:n] do
      if ofs ≥ maxofs then break
      let some found ← beyond (hint - ofs) | return none
      if found then break
      lastofs := ofs
      ofs := 2 * ofs + 1
    lo := hint + 1 - min ofs maxofs
    hi := hint - lastofs
  for _ in [0:n] do
    if lo ≥ hi then break
    let m := lo + (hi - lo) / 2
    let some more ← beyond m | return none
    if more then lo := m + 1 else hi := m
  return some hi

noncomputable def gallop' : Bool → Keyed → Array Keyed → Nat → Nat → Nat → StateT SortSt Sem (Option Nat) := sortPriv% PySem.Builtin.gallop
theorem gallop'_eq (left : Bool) (key : Keyed) (arr : Array Keyed) (base n hint : Nat) :
    gallop' left key arr base n hint = gallopG (fun i => do
      let x ← elem' arr (base + i)
      if left then lt' x key else return (← lt' key x).map (!·)) n hint := rfl

section
variable {M : Model} {A : Around} {E : Value → Shared → Prop} {s : Shared}

/-- the search ends at the border of b -/
structure Brd (b : Nat → Bool) (n k : Nat) : Prop where
  le : k ≤ n
  lo : ∀ i, i < k → b i = true
  hi : ∀ i, k ≤ i → i < n → b i = false

theorem wpS_gallopG {st : SortSt} {beyond : Nat → StateT SortSt Sem (Option Bool)} {b : Nat → Bool} {n hint : Nat} {Q : Option Nat → SortSt → Prop} (hh : hint < n)
    (hb : ∀ i, i < n → ∀ Q : Option Bool → SortSt → Prop, Q (some (b i)) st → wpS M A E s (beyond i) Q st)
    (mono : ∀ i j, i ≤ j → j < n → b j = true → b i = true)
    (h : ∀ k, Brd b n k → Q (some k) st) : wpS M A E s (gallopG beyond n hint) Q st := by
  have up : ∀ i j, i ≤ j → j < n → b i = false → b j = false := fun i j h1 h2 e => by
    cases e2 : b j with
    | false => rfl
    | true => rw [mono i j h1 h2 e2] at e; cases e
  have fin : ∀ lo hi : Nat, lo ≤ hi → hi ≤ n → (∀ i, i < lo → b i = true) → (∀ i, hi ≤ i → i < n → b i = false) →
      wpS M A E s (do
        let mut lo := lo
        let mut hi := hi
        for _ in [0:n] do
          if lo ≥ hi then break
          let m := lo + (hi - lo) / 2
          let some more ← beyond m | return none
          if more then lo := m + 1 else hi := m
        return some hi : StateT SortSt Sem (Option Nat)) Q st := by
    intro lo hi h1 h2 h3 h4
    refine wpS_bind (wpS_mono (wpS_forRange (I := fun x c st' => st' = st ∧ ∃ hi lo, c = (none, lo, hi) ∧ lo ≤ hi ∧ hi ≤ n ∧ hi - lo ≤ n - x ∧ (∀ i, i < lo → b i = true) ∧ (∀ i, hi ≤ i → i < n → b i = false))
      (Q := fun c st' => st' = st ∧ ∃ hi lo, c = (none, lo, hi) ∧ Brd b n hi) ?step ?fin ⟨rfl, hi, lo, rfl, h1, h2, Nat.le_trans (Nat.sub_le _ _) h2, h3, h4⟩) ?post)
    case post => rintro c st' ⟨rfl, hi, lo, rfl, hB⟩; exact wpS_pure (h hi hB)
    case fin =>
      rintro c st' ⟨rfl, hi, lo, rfl, a1, a2, a3, a4, a5⟩
      have e : lo = hi := by omega
      subst e
      exact ⟨rfl, lo, lo, rfl, a2, a4, a5⟩
    case step =>
      rintro x c st' _ hx ⟨rfl, hi, lo, rfl, a1, a2, a3, a4, a5⟩
      dsimp only
      by_cases hge : lo ≥ hi
      · rw [if_pos hge]
        have e : lo = hi := Nat.le_antisymm a1 hge
        subst e
        exact wpS_pure ⟨rfl, lo, lo, rfl, a2, a4, a5⟩
      · rw [if_neg hge]
        have hlt := Nat.lt_of_not_le hge
        have m2 : lo + (hi - lo) / 2 < hi := Nat.add_lt_of_lt_sub' (Nat.div_lt_self (Nat.sub_pos_of_lt hlt) (Nat.lt_succ_self 1))
        have m1 : lo ≤ lo + (hi - lo) / 2 ∧ lo + (hi - lo) / 2 < hi ∧ hi - (lo + (hi - lo) / 2 + 1) ≤ n - (x + 1) ∧ lo + (hi - lo) / 2 - lo ≤ n - (x + 1) := ⟨Nat.le_add_right _ _, m2, mid_less (Nat.le_add_right _ _) m2 a3 hx⟩
        generalize lo + (hi - lo) / 2 = m at m1
        refine wpS_bind (hb m (Nat.lt_of_lt_of_le m1.2.1 a2) _ ?_)
        cases e : b m with
        | true => exact wpS_pure ⟨rfl, hi, m + 1, rfl, m1.2.1, a2, m1.2.2.1, fun i hi' => mono i m (Nat.le_of_lt_succ hi') (Nat.lt_of_lt_of_le m1.2.1 a2) e, a5⟩
        | false => exact wpS_pure ⟨rfl, m, lo, rfl, m1.1, Nat.le_trans (Nat.le_of_lt m1.2.1) a2, m1.2.2.2, a4, fun i h1 h2 => up m i h1 h2 e⟩
  unfold gallopG
  refine wpS_bind (hb hint hh _ ?_)
  dsimp only
  cases er : b hint with
  | true =>
    simp only [if_true]
    refine wpS_bind (wpS_mono (wpS_forRange (I := fun x c st' => st' = st ∧ ∃ l o, c = (none, l, o) ∧ l < o ∧ x < o ∧ hint + l < n ∧ b (hint + l) = true)
      (Q := fun c st' => st' = st ∧ ∃ l o, c = (none, l, o) ∧ l < o ∧ hint + l < n ∧ b (hint + l) = true ∧ (n - hint ≤ o ∨ (hint + o < n ∧ b (hint + o) = false))) ?step1 ?fin1 ⟨rfl, 0, 1, rfl, Nat.zero_lt_one, Nat.zero_lt_one, hh, er⟩) ?post1)
    case post1 =>
      rintro c st' ⟨rfl, l, o, rfl, a1, a2, a3, a4⟩
      refine fin (hint + l + 1) (hint + min o (n - hint)) (by omega) (by omega) (fun i hi => mono i _ (Nat.le_of_lt_succ hi) a2 a3) (fun i h1 h2 => ?_)
      rcases a4 with a4 | ⟨a4, a5⟩
      · exact absurd h2 (by omega)
      · exact up (hint + o) i (by omega) h2 a5
    case fin1 =>
      rintro c st' ⟨rfl, l, o, rfl, a1, a2, a3, a4⟩
      exact ⟨rfl, l, o, rfl, a1, a3, a4, .inl (by omega)⟩
    case step1 =>
      rintro x c st' _ hx ⟨rfl, l, o, rfl, a1, a2, a3, a4⟩
      dsimp only
      by_cases hge : o ≥ n - hint
      · rw [if_pos hge]; exact wpS_pure ⟨rfl, l, o, rfl, a1, a3, a4, .inl hge⟩
      · rw [if_neg hge]
        have ho : hint + o < n := by omega
        refine wpS_bind (hb _ ho _ ?_)
        cases e : b (hint + o) with
        | true => exact wpS_pure ⟨rfl, o, 2 * o + 1, rfl, by omega, by omega, ho, e⟩
        | false => exact wpS_pure ⟨rfl, l, o, rfl, a1, a3, a4, .inr ⟨ho, e⟩⟩
  | false =>
    simp only [Bool.false_eq_true, if_false]
    refine wpS_bind (wpS_mono (wpS_forRange (I := fun x c st' => st' = st ∧ ∃ l o, c = (none, l, o) ∧ l < o ∧ x < o ∧ b (hint - l) = false)
      (Q := fun c st' => st' = st ∧ ∃ l o, c = (none, l, o) ∧ l < o ∧ b (hint - l) = false ∧ (hint + 1 ≤ o ∨ b (hint - o) = true)) ?step2 ?fin2 ⟨rfl, 0, 1, rfl, Nat.zero_lt_one, Nat.zero_lt_one, er⟩) ?post2)
    case post2 =>
      rintro c st' ⟨rfl, l, o, rfl, a1, a3, a4⟩
      refine fin (hint + 1 - min o (hint + 1)) (hint - l) (by omega) (by omega) (fun i hi => ?_) (fun i h1 h2 => up _ i h1 h2 a3)
      rcases a4 with a4 | a4
      · exact absurd hi (by omega)
      · exact mono i (hint - o) (by omega) (by omega) a4
    case fin2 =>
      rintro c st' ⟨rfl, l, o, rfl, a1, a2, a4⟩
      exact ⟨rfl, l, o, rfl, a1, a4, .inl (by omega)⟩
    case step2 =>
      rintro x c st' _ hx ⟨rfl, l, o, rfl, a1, a2, a4⟩
      dsimp only
      by_cases hge : o ≥ hint + 1
      · rw [if_pos hge]; exact wpS_pure ⟨rfl, l, o, rfl, a1, a4, .inl hge⟩
      · rw [if_neg hge]
        refine wpS_bind (hb _ (by omega) _ ?_)
        cases e : b (hint - o) with
        | false => exact wpS_pure ⟨rfl, o, 2 * o + 1, rfl, by omega, by omega, e⟩
        | true => exact wpS_pure ⟨rfl, l, o, rfl, a1, a4, .inr e⟩
end
end Mine
namespace Mine
open PySem PyProof.Rows

noncomputable def tag (F : Nat → Keyed) (L : List Nat) : Array Keyed := (L.map F).toArray
section
variable {F : Nat → Keyed}
theorem tag_size (L : List Nat) : (tag F L).size = L.length := by simp [tag]
theorem tag_get {L : List Nat} {i p : Nat} (h : L[i]? = some p) : (tag F L)[i]? = some (F p) := by simp [tag, h]
theorem tag_app (L K : List Nat) : tag F L ++ tag F K = tag F (L ++ K) := by simp [tag]
theorem tag_push (L : List Nat) (p : Nat) : (tag F L).push (F p) = tag F (L ++ [p]) := by simp [tag]
theorem tag_rev (L : List Nat) : (tag F L).reverse = tag F L.reverse := by simp [tag]
theorem tag_ext (L : List Nat) (i j : Nat) : (tag F L).extract i j = tag F ((L.take j).drop i) := by
  apply Array.ext'
  simp [tag, List.drop_take, List.extract_eq_take_drop]
theorem tag_ext_all (L : List Nat) (i : Nat) : (tag F L).extract i (tag F L).size = tag F (L.drop i) := by
  rw [tag_ext, tag_size, List.take_length]

/-- all but the gallop figure is as before -/
structure Sm (st st' : SortSt) : Prop where
  kind : kindOf st' = kindOf st
  arr : arrOf st' = arrOf st
  pend : pendingOf st' = pendingOf st
  failed : failedOf st' = failedOf st
theorem Sm.rfl' (st : SortSt) : Sm st st := ⟨rfl, rfl, rfl, rfl⟩

noncomputable def setMinGallop' : Nat → StateT SortSt Sem Unit := sortPriv% PySem.Builtin.setMinGallop
theorem setMinGallop'_eq (g : Nat) : setMinGallop' g = modify fun s => SortSt.mk' (kindOf s) (arrOf s) (pendingOf s) g (failedOf s) := rfl

section
variable {M : Model} {A : Around} {E : Value → Shared → Prop} {s : Shared}
theorem wpS_setMin {st st₀ : SortSt} {g : Nat} {Q : Unit → SortSt → Prop} (hs : Sm st₀ st) (h : ∀ st', Sm st₀ st' → Q () st') : wpS M A E s (setMinGallop' g) Q st := by
  rw [setMinGallop'_eq]; exact wpS_modify (h _ ⟨hs.kind, hs.arr, hs.pend, hs.failed⟩)
theorem wpS_elem {st : SortSt} {arr : Array Keyed} {i : Nat} {x : Keyed} {Q : Keyed → SortSt → Prop} (e : arr[i]? = some x) (h : Q x st) : wpS M A E s (elem' arr i) Q st := by
  rw [elem'_eq, e]; exact wpS_pure h
end

/-- comparing is by kl -/
noncomputable def Cmp (M : Model) (A : Around) (E : Value → Shared → Prop) (s : Shared) (kd : SortKind) (F : Nat → Keyed) (n : Nat) (kl : Nat → Nat → Bool) : Prop :=
  ∀ (st : SortSt) (p q : Nat), kindOf st = kd → p < n → q < n → ∀ Q : Option Bool → SortSt → Prop, Q (some (kl p q)) st → wpS M A E s (lt' (F p) (F q)) Q st

section
variable {M : Model} {A : Around} {E : Value → Shared → Prop} {s : Shared} {kd : SortKind} {n : Nat} {kl : Nat → Nat → Bool}
theorem getD_mem {L : List Nat} {i : Nat} (h : i < L.length) : L[i]? = some (L.getD i 0) ∧ L.getD i 0 ∈ L := by
  have e2 : L.getD i 0 = L[i] := (List.getElem_eq_getD 0).symm
  rw [e2]; exact ⟨List.getElem?_eq_getElem h, List.getElem_mem h⟩
theorem wpS_gallopR {st : SortSt} {left : Bool} {L : List Nat} {key base len hint : Nat} {Q : Option Nat → SortSt → Prop} (W : Wk kl) (C : Cmp M A E s kd F n kl) (hk : kindOf st = kd)
    (hn : ∀ p ∈ L, p < n) (hkey : key < n) (hs : ∀ i j, i < j → j < len → Rk kl (L.getD (base + i) 0) (L.getD (base + j) 0)) (hlen : base + len ≤ L.length) (hh : hint < len)
    (h : ∀ k, Brd (fun i => if left then kl (L.getD (base + i) 0) key else !kl key (L.getD (base + i) 0)) len k → Q (some k) st) :
    wpS M A E s (gallop' left (F key) (tag F L) base len hint) Q st := by
  have mem := fun i (hi : i < len) => getD_mem (Nat.lt_of_lt_of_le (Nat.add_lt_add_left hi base) hlen)
  rw [gallop'_eq]
  refine wpS_gallopG hh (fun i hi Q' hq => ?_) (fun i j hij hj e => ?_) h
  · refine wpS_bind (wpS_elem (tag_get (mem i hi).1) ?_)
    cases left with
    | true => exact C st _ _ hk (hn _ (mem i hi).2) hkey _ hq
    | false => exact wpS_bind (C st _ _ hk hkey (hn _ (mem i hi).2) _ (wpS_pure hq))
  · rcases Nat.lt_or_eq_of_le hij with hlt | rfl
    · have r := hs i j hlt hj
      cases left with
      | true => exact W.le_lt (r.le W) e
      | false =>
        have e' : kl key (L.getD (base + j) 0) = false := by simpa using e
        show (!kl key (L.getD (base + i) 0)) = true
        rw [W.neg e' (r.le W)]; rfl
    · exact e
theorem wpS_gallop {st : SortSt} {left : Bool} {L : List Nat} {key base len hint : Nat} {Q : Option Nat → SortSt → Prop} (W : Wk kl) (C : Cmp M A E s kd F n kl) (hk : kindOf st = kd)
    (hn : ∀ p ∈ L, p < n) (hkey : key < n) (hs : L.Pairwise (Rk kl)) (hlen : base + len ≤ L.length) (hh : hint < len)
    (h : ∀ k, Brd (fun i => if left then kl (L.getD (base + i) 0) key else !kl key (L.getD (base + i) 0)) len k → Q (some k) st) :
    wpS M A E s (gallop' left (F key) (tag F L) base len hint) Q st :=
  wpS_gallopR W C hk hn hkey (fun i j hij hj => by
    have hj' : base + j < L.length := Nat.lt_of_lt_of_le (Nat.add_lt_add_left hj base) hlen
    have hij' := Nat.add_lt_add_left hij base
    have := List.pairwise_iff_getElem.mp hs (base + i) (base + j) (Nat.lt_trans hij' hj') hj' hij'
    rwa [List.getElem_eq_getD 0, List.getElem_eq_getD 0] at this) hlen hh h
end
end
end Mine
namespace Mine
open PySem PyProof.Rows

noncomputable abbrev KA := Array Keyed
noncomputable abbrev M5 := Option KA × KA × Nat × Nat × Nat
noncomputable abbrev M6 := Option KA × KA × Nat × Nat × Nat × Nat
noncomputable abbrev M7 := Option KA × KA × Nat × Nat × Nat × Nat × Nat
noncomputable abbrev lDone (a b : KA) (out : KA) (ia ib : Nat) : KA := out ++ a.extract ia a.size ++ b.extract ib b.size

noncomputable def loT1 (a b : KA) (g : Nat) (out : KA) (ia ib ac bc : Nat) : StateT SortSt Sem (ForInStep M6) := do
  let y ← elem' b ib
  let x ← elem' a ia
  let r ← lt' y x
  match r with
  | some w =>
    if w = true then do
      let y ← elem' b ib
      if (ib + 1 == b.size) = true then pure (.done (some (lDone a b (out.push y) ia (ib + 1)), out.push y, ia, ib + 1, 0, bc + 1))
      else if bc + 1 ≥ g then pure (.done (none, out.push y, ia, ib + 1, 0, bc + 1)) else pure (.yield (none, out.push y, ia, ib + 1, 0, bc + 1))
    else do
      let x ← elem' a ia
      if (ia + 1 + 1 == a.size) = true then pure (.done (some (lDone b a (out.push x) ib (ia + 1)), out.push x, ia + 1, ib, ac + 1, 0))
      else if ac + 1 ≥ g then pure (.done (none, out.push x, ia + 1, ib, ac + 1, 0)) else pure (.yield (none, out.push x, ia + 1, ib, ac + 1, 0))
  | _ => pure (.done (some (lDone a b out ia ib), out, ia, ib, ac, bc))
noncomputable def loC (a b : KA) (out : KA) (ia ib g ac bc : Nat) : StateT SortSt Sem (ForInStep M7) := do
  let x ← elem' a ia
  if (ia + 1 + 1 == a.size) = true then pure (.done (some (lDone b a (out.push x) ib (ia + 1)), out.push x, ia + 1, ib, g, ac, bc))
  else if (decide (ac < 7) && decide (bc < 7)) = true then pure (.done (none, out.push x, ia + 1, ib, g, ac, bc)) else pure (.yield (none, out.push x, ia + 1, ib, g, ac, bc))
noncomputable def loB (a b : KA) (out : KA) (ia ib g ac bc : Nat) : StateT SortSt Sem (ForInStep M7) := do
  let y ← elem' b ib
  if (ib + 1 == b.size) = true then pure (.done (some (lDone a b (out.push y) ia (ib + 1)), out.push y, ia, ib + 1, g, ac, bc))
  else do
    let x ← elem' a ia
    let r ← gallop' true x b (ib + 1) (b.size - (ib + 1)) 0
    match r with
    | some k =>
      if k > 0 then
        if (ib + 1 + k == b.size) = true then pure (.done (some (lDone a b (out.push y ++ b.extract (ib + 1) (ib + 1 + k)) ia (ib + 1 + k)), out.push y ++ b.extract (ib + 1) (ib + 1 + k), ia, ib + 1 + k, g, ac, k))
        else loC a b (out.push y ++ b.extract (ib + 1) (ib + 1 + k)) ia (ib + 1 + k) g ac k
      else loC a b (out.push y) ia (ib + 1) g ac k
    | _ => pure (.done (some (lDone a b (out.push y) ia (ib + 1)), out.push y, ia, ib + 1, g, ac, bc))
noncomputable def loA (a b : KA) (out : KA) (ia ib g ac bc : Nat) : StateT SortSt Sem (ForInStep M7) := do
  setMinGallop' g
  let y ← elem' b ib
  let r ← gallop' false y a ia (a.size - ia) 0
  match r with
  | some k =>
    if k > 0 then
      if (ia + k + 1 == a.size) = true then pure (.done (some (lDone b a (out ++ a.extract ia (ia + k)) ib (ia + k)), out ++ a.extract ia (ia + k), ia + k, ib, g, k, bc))
      else if (ia + k == a.size) = true then pure (.done (some (lDone a b (out ++ a.extract ia (ia + k)) (ia + k) ib), out ++ a.extract ia (ia + k), ia + k, ib, g, k, bc))
      else loB a b (out ++ a.extract ia (ia + k)) (ia + k) ib g k bc
    else loB a b out ia ib g k bc
  | _ => pure (.done (some (lDone a b out ia ib), out, ia, ib, g, ac, bc))
noncomputable def loT2 (a b : KA) (out : KA) (ia ib g ac bc : Nat) : StateT SortSt Sem (ForInStep M7) :=
  if g > 1 then loA a b out ia ib (g - 1) ac bc else loA a b out ia ib g ac bc
noncomputable def loT (a b : KA) (out : KA) (ia ib g : Nat) : StateT SortSt Sem (ForInStep M5) := do
  let c ← forIn [:a.size + b.size] ((none, out, ia, ib, 0, 0) : M6) fun _ c => loT1 a b g c.2.1 c.2.2.1 c.2.2.2.1 c.2.2.2.2.1 c.2.2.2.2.2
  match c.1 with
  | some r => pure (.done (some r, c.2.1, c.2.2.1, c.2.2.2.1, g))
  | none => do
    liftM (rule "list.sort.gallop")
    let c ← forIn [:a.size + b.size] ((none, c.2.1, c.2.2.1, c.2.2.2.1, g + 1, c.2.2.2.2.1, c.2.2.2.2.2) : M7) fun _ c => loT2 a b c.2.1 c.2.2.1 c.2.2.2.1 c.2.2.2.2.1 c.2.2.2.2.2.1 c.2.2.2.2.2.2
    match c.1 with
    | some r => pure (.done (some r, c.2.1, c.2.2.1, c.2.2.2.1, c.2.2.2.2.1))
    | none => do
      setMinGallop' (c.2.2.2.2.1 + 1)
      pure (.yield (none, c.2.1, c.2.2.1, c.2.2.2.1, c.2.2.2.2.1 + 1))

noncomputable def mergeLo' : KA → KA → StateT SortSt Sem KA := sortPriv% PySem.Builtin.mergeLo
theorem mergeLo'_eq (a b : KA) : mergeLo' a b = (do
  rule "list.sort.merge-lo"
  let y ← elem' b 0
  if (1 == b.size) = true then return lDone a b #[y] 0 1
  if (0 + 1 == a.size) = true then return lDone b a #[y] 1 0
  let g := gallopOf (← get)
  let c ← forIn [:a.size + b.size] ((none, #[y], 0, 1, g) : M5) fun _ c => loT a b c.2.1 c.2.2.1 c.2.2.2.1 c.2.2.2.2
  match c.1 with
  | some r => pure r
  | none => unsupported "internal:list.sort.merge-bound") := by
  have h0 : mergeLo' a b = (do
      rule "list.sort.merge-lo"
      let total := a.size + b.size
      let done (out : Array Keyed) (ia ib : Nat) := out ++ a.extract ia a.size ++ b.extract ib b.size
      let lastOfA (out : Array Keyed) (ia ib : Nat) := out ++ b.extract ib b.size ++ a.extract ia a.size
      let mut out : Array Keyed := #[← elem' b 0]
      let mut ia := 0
      let mut ib := 1
      if ib == b.size then return done out ia ib
      if ia + 1 == a.size then return lastOfA out ia ib
      let mut minGallop := gallopOf (← get)
      for _ in [0:total] do
        let mut acount := 0
        let mut bcount := 0
        for _ in [0:total] do
          let some bWins ← lt' (← elem' b ib) (← elem' a ia) | return done out ia ib
          if bWins then
            out := out.push (← elem' b ib); ib := ib + 1; bcount := bcount + 1; acount := 0
            if ib == b.size then return done out ia ib
            if bcount ≥ minGallop then break
          else
            out := out.push (← elem' a ia); ia := ia + 1; acount := acount + 1; bcount := 0
            if ia + 1 == a.size then return lastOfA out ia ib
            if acount ≥ minGallop then break
        rule "list.sort.gallop"
        minGallop := minGallop + 1
        for _ in [0:total] do
          if minGallop > 1 then minGallop := minGallop - 1
          setMinGallop' minGallop
          let some k ← gallop' false (← elem' b ib) a ia (a.size - ia) 0 | return done out ia ib
          acount := k
          if k > 0 then
            out := out ++ a.extract ia (ia + k); ia := ia + k
            if ia + 1 == a.size then return lastOfA out ia ib
            if ia == a.size then return done out ia ib
          out := out.push (← elem' b ib); ib := ib + 1
          if ib == b.size then return done out ia ib
          let some k ← gallop' true (← elem' a ia) b ib (b.size - ib) 0 | return done out ia ib
          bcount := k
          if k > 0 then
            out := out ++ b.extract ib (ib + k); ib := ib + k
            if ib == b.size then return done out ia ib
          out := out.push (← elem' a ia); ia := ia + 1
          if ia + 1 == a.size then return lastOfA out ia ib
          if acount < 7 && bcount < 7 then break
        minGallop := minGallop + 1
        setMinGallop' minGallop
      unsupported "internal:list.sort.merge-bound") := rfl
  rw [h0]
  refine congrArg (bind _) (funext fun _ => congrArg (bind _) (funext fun y => ?_))
  dsimp only
  refine congrArg (ite _ _) (congrArg (ite _ _) (congrArg (bind _) (funext fun g => ?_)))
  refine congr (congrArg bind (congrArg (forIn _ _) (funext fun x => funext fun c => ?_))) (funext fun c => by obtain ⟨r, c⟩ := c; cases r <;> rfl)
  unfold loT
  refine congr (congrArg bind rfl) (funext fun c => ?_)
  obtain ⟨r, c⟩ := c
  cases r with
  | some r => rfl
  | none =>
    refine congrArg (bind _) (funext fun _ => ?_)
    refine congr (congrArg bind ?_) (funext fun c => by obtain ⟨r, c⟩ := c; cases r <;> rfl)
    rfl
end Mine
namespace Mine
open PySem PyProof.Rows

/-- what is asked of the two lists that are merged -/
structure Two (kl : Nat → Nat → Bool) (n : Nat) (X Y : List Nat) : Prop where
  sx : X.Pairwise (Rk kl)
  sy : Y.Pairwise (Rk kl)
  lt : ∀ p ∈ X, ∀ q ∈ Y, p < q
  bx : ∀ p ∈ X, p < n
  by_ : ∀ p ∈ Y, p < n
  last : ∀ q ∈ Y, ∀ x, X[X.length - 1]? = some x → kl q x = true
  first : ∀ p ∈ X, ∀ y, Y[0]? = some y → kl y p = true

section
variable {F : Nat → Keyed} {M : Model} {A : Around} {E : Value → Shared → Prop} {s : Shared} {kd : SortKind} {n : Nat} {kl : Nat → Nat → Bool} {X Y : List Nat}

noncomputable def GoodM (F : Nat → Keyed) (kl : Nat → Nat → Bool) (X Y : List Nat) (st₀ : SortSt) (r : KA) (st : SortSt) : Prop :=
  ∃ T, r = tag F T ∧ T.Perm (X ++ Y) ∧ T.Pairwise (Rk kl) ∧ Sm st₀ st
/-- between two turns -/
structure Mid (F : Nat → Keyed) (kl : Nat → Nat → Bool) (X Y : List Nat) (st₀ : SortSt) (len : Nat) (out : KA) (ia ib : Nat) (st : SortSt) : Prop where
  sm : Sm st₀ st
  hia : ia + 1 < X.length
  hib : ib < Y.length
  mg : ∃ G, out = tag F G ∧ len ≤ G.length ∧ Mg (Rk kl) (X ++ Y) G (X.drop ia) (Y.drop ib)

theorem Mid.lt {st₀ st : SortSt} {len : Nat} {out : KA} {ia ib : Nat} (h : Mid F kl X Y st₀ len out ia ib st) : len < X.length + Y.length := by
  obtain ⟨G, _, hl, hm⟩ := h.mg
  have := hm.len
  rw [List.length_drop, List.length_drop, List.length_append] at this
  have := h.hib
  omega
theorem drop_head {L : List Nat} {i : Nat} (h : i < L.length) : ∃ p, L[i]? = some p ∧ L.drop i = p :: L.drop (i + 1) :=
  ⟨L[i], List.getElem?_eq_getElem h, List.drop_eq_getElem_cons h⟩
theorem drop_srt {L : List Nat} {R : Nat → Nat → Prop} (h : L.Pairwise R) (i : Nat) : (L.drop i).Pairwise R := h.sublist (List.drop_sublist _ _)

/-- one list is at its end -/
theorem fin_done {st₀ st : SortSt} {G : List Nat} {ia ib : Nat} (T : Two kl n X Y) (hs : Sm st₀ st) (h : Mg (Rk kl) (X ++ Y) G (X.drop ia) (Y.drop ib)) (e : ia = X.length ∨ ib = Y.length) :
    GoodM F kl X Y st₀ (lDone (tag F X) (tag F Y) (tag F G) ia ib) st := by
  refine ⟨G ++ X.drop ia ++ Y.drop ib, by rw [lDone, tag_ext_all, tag_ext_all, tag_app, tag_app], ?_⟩
  rcases e with e | e <;> subst e
  · rw [List.drop_length] at h ⊢; rw [List.append_nil]; exact ⟨(h.swap.fin (drop_srt T.sy _)).1, (h.swap.fin (drop_srt T.sy _)).2, hs⟩
  · rw [List.drop_length] at h ⊢; rw [List.append_nil]; exact ⟨(h.fin (drop_srt T.sx _)).1, (h.fin (drop_srt T.sx _)).2, hs⟩
theorem fin_last {st₀ st : SortSt} {G : List Nat} {ia ib : Nat} (T : Two kl n X Y) (hs : Sm st₀ st) (h : Mg (Rk kl) (X ++ Y) G (X.drop ia) (Y.drop ib)) (e : ia + 1 = X.length) :
    GoodM F kl X Y st₀ (lDone (tag F Y) (tag F X) (tag F G) ib ia) st := by
  refine ⟨G ++ Y.drop ib ++ X.drop ia, by rw [lDone, tag_ext_all, tag_ext_all, tag_app, tag_app], ?_⟩
  obtain ⟨p, hp, hd⟩ := drop_head (L := X) (i := ia) (e ▸ Nat.lt_succ_self _)
  rw [e, List.drop_length] at hd
  have hl : ∀ y ∈ Y.drop ib, Rk kl y p := fun y hy => .inl (T.last y (List.mem_of_mem_drop hy) p (by rw [← e]; exact hp))
  rw [hd] at h ⊢
  have h2 : Mg (Rk kl) (X ++ Y) (G ++ Y.drop ib) [] [p] := by
    have h3 := h.swap
    rw [← List.append_nil (Y.drop ib)] at h3
    refine h3.take (by rw [List.append_nil]; exact drop_srt T.sy _) fun c hc y hy => ?_
    rw [List.mem_singleton.mp hy]; exact hl c hc
  exact ⟨(h2.swap.fin (List.pairwise_singleton _ _)).1, (h2.swap.fin (List.pairwise_singleton _ _)).2, hs⟩

theorem mg_y {G : List Nat} {ia ib y : Nat} (T : Two kl n X Y) (h : Mg (Rk kl) (X ++ Y) G (X.drop ia) (Y.drop ib)) (hy : Y.drop ib = y :: Y.drop (ib + 1)) (hl : ∀ x ∈ X.drop ia, kl y x = true) :
    Mg (Rk kl) (X ++ Y) (G ++ [y]) (X.drop ia) (Y.drop (ib + 1)) := by
  have h' := h.swap
  rw [hy] at h'
  exact (h'.take (C := [y]) (by have := drop_srt T.sy ib; rw [hy] at this; exact this) fun c hc x hx => by rw [List.mem_singleton.mp hc]; exact .inl (hl x hx)).swap
theorem mg_x {G : List Nat} {ia ib x : Nat} (T : Two kl n X Y) (h : Mg (Rk kl) (X ++ Y) G (X.drop ia) (Y.drop ib)) (hx : X.drop ia = x :: X.drop (ia + 1)) (hl : ∀ y ∈ Y.drop ib, kl y x = false) :
    Mg (Rk kl) (X ++ Y) (G ++ [x]) (X.drop (ia + 1)) (Y.drop ib) := by
  have h' := h
  rw [hx] at h'
  refine h'.take (C := [x]) (by have := drop_srt T.sx ia; rw [hx] at this; exact this) fun c hc y hy => ?_
  rw [List.mem_singleton.mp hc]
  exact .inr ⟨hl y hy, T.lt x (List.mem_of_mem_drop (hx ▸ List.mem_cons_self)) y (List.mem_of_mem_drop hy)⟩
theorem mg_xs {G : List Nat} {ia ib k : Nat} (T : Two kl n X Y) (h : Mg (Rk kl) (X ++ Y) G (X.drop ia) (Y.drop ib)) (hl : ∀ x ∈ (X.drop ia).take k, ∀ y ∈ Y.drop ib, kl y x = false) :
    Mg (Rk kl) (X ++ Y) (G ++ (X.drop ia).take k) (X.drop (ia + k)) (Y.drop ib) := by
  have h' := h
  rw [← List.take_append_drop k (X.drop ia), List.drop_drop] at h'
  refine h'.take (by rw [← List.drop_drop, List.take_append_drop]; exact drop_srt T.sx ia) fun c hc y hy => ?_
  exact .inr ⟨hl c hc y hy, T.lt c (List.mem_of_mem_drop (List.mem_of_mem_take hc)) y (List.mem_of_mem_drop hy)⟩
theorem mg_ys {G : List Nat} {ia ib k : Nat} (T : Two kl n X Y) (h : Mg (Rk kl) (X ++ Y) G (X.drop ia) (Y.drop ib)) (hl : ∀ y ∈ (Y.drop ib).take k, ∀ x ∈ X.drop ia, kl y x = true) :
    Mg (Rk kl) (X ++ Y) (G ++ (Y.drop ib).take k) (X.drop ia) (Y.drop (ib + k)) := by
  have h' := h.swap
  rw [← List.take_append_drop k (Y.drop ib), List.drop_drop] at h'
  exact (h'.take (by rw [← List.drop_drop, List.take_append_drop]; exact drop_srt T.sy ib) fun c hc x hx => .inl (hl c hc x hx)).swap

theorem head_le (W : Wk kl) {L : List Nat} {i p : Nat} (hs : L.Pairwise (Rk kl)) (h : L.drop i = p :: L.drop (i + 1)) : ∀ x ∈ L.drop i, kl x p = false := fun x hx => by
  have hs' := drop_srt hs i
  rw [h] at hs' hx
  rcases List.mem_cons.mp hx with rfl | hx
  · exact W.irr _
  · exact ((List.pairwise_cons.mp hs').1 x hx).le W
/-- the border of a search, over the list's rest -/
theorem brd_take {L : List Nat} {b : Nat → Bool} {i k : Nat} (h : Brd (fun j => b (L.getD (i + j) 0)) (L.length - i) k) : (∀ x ∈ (L.drop i).take k, b x = true) ∧ (∀ x ∈ L.drop (i + k), b x = false) := by
  constructor
  · intro x hx
    obtain ⟨j, hj, rfl⟩ := List.getElem_of_mem hx
    have hj' : j < k := Nat.lt_of_lt_of_le hj (List.length_take_le _ _)
    have := h.lo j hj'
    rw [List.getElem_take, List.getElem_drop, List.getElem_eq_getD 0]; exact this
  · intro x hx
    obtain ⟨j, hj, rfl⟩ := List.getElem_of_mem hx
    rw [List.length_drop] at hj
    have := h.hi (k + j) (Nat.le_add_right _ _) (by omega)
    rw [List.getElem_drop, List.getElem_eq_getD 0]
    rwa [← Nat.add_assoc] at this
end
end Mine
namespace Mine
open PySem PyProof.Rows

section
variable {F : Nat → Keyed} {M : Model} {A : Around} {E : Value → Shared → Prop} {s : Shared} {kd : SortKind} {n : Nat} {kl : Nat → Nat → Bool} {X Y : List Nat} {st₀ : SortSt}

noncomputable def Ok (F : Nat → Keyed) (kl : Nat → Nat → Bool) (X Y : List Nat) (st₀ : SortSt) (len : Nat) (o : Option KA) (out : KA) (ia ib : Nat) (st : SortSt) : Prop := match o with
  | some r => GoodM F kl X Y st₀ r st
  | none => Mid F kl X Y st₀ len out ia ib st
noncomputable def P6 (F : Nat → Keyed) (kl : Nat → Nat → Bool) (X Y : List Nat) (st₀ : SortSt) (len : Nat) (r : ForInStep M6) (st : SortSt) : Prop := match r with
  | .done c => Ok F kl X Y st₀ len c.1 c.2.1 c.2.2.1 c.2.2.2.1 st
  | .yield c => Mid F kl X Y st₀ len c.2.1 c.2.2.1 c.2.2.2.1 st
noncomputable def P7 (F : Nat → Keyed) (kl : Nat → Nat → Bool) (X Y : List Nat) (st₀ : SortSt) (len : Nat) (r : ForInStep M7) (st : SortSt) : Prop := match r with
  | .done c => Ok F kl X Y st₀ len c.1 c.2.1 c.2.2.1 c.2.2.2.1 st
  | .yield c => Mid F kl X Y st₀ len c.2.1 c.2.2.1 c.2.2.2.1 st
theorem len_push {G : List Nat} {len : Nat} (h : len ≤ G.length) (x : Nat) : len + 1 ≤ (G ++ [x]).length := by
  rw [List.length_append]; exact Nat.succ_le_succ h
theorem len_app {G : List Nat} {len : Nat} (h : len ≤ G.length) (x : List Nat) : len ≤ (G ++ x).length := by
  rw [List.length_append]; exact Nat.le_trans h (Nat.le_add_right _ _)
theorem beq_size {F : Nat → Keyed} {i : Nat} {L : List Nat} : ((i == (tag F L).size) = true) ↔ i = L.length := by rw [tag_size]; exact beq_iff_eq
theorem mem_at {L : List Nat} {i p : Nat} (h : L[i]? = some p) : p ∈ L := List.mem_of_getElem? h

variable (W : Wk kl) (C : Cmp M A E s kd F n kl) (T : Two kl n X Y) (hk₀ : kindOf st₀ = kd)
include W C T hk₀

theorem loT1_ok {st : SortSt} {len g ia ib ac bc : Nat} {out : KA} (h : Mid F kl X Y st₀ len out ia ib st) :
    wpS M A E s (loT1 (tag F X) (tag F Y) g out ia ib ac bc) (P6 F kl X Y st₀ (len + 1)) st := by
  obtain ⟨hs, hia, hib, G, rfl, hl, hm⟩ := h
  obtain ⟨x, hx, hxd⟩ := drop_head (Nat.lt_of_succ_lt hia)
  obtain ⟨y, hy, hyd⟩ := drop_head hib
  refine wpS_bind (wpS_elem (tag_get hy) (wpS_bind (wpS_elem (tag_get hx) (wpS_bind (C st y x (hs.kind.trans hk₀) (T.by_ y (mem_at hy)) (T.bx x (mem_at hx)) _ ?_)))))
  cases e : kl y x with
  | true =>
    have hm' := mg_y T hm hyd fun x' hx' => W.lt_le e (head_le W T.sx hxd x' hx')
    refine wpS_bind (wpS_elem (tag_get hy) ?_)
    rw [tag_push]
    split
    · next he => exact wpS_pure (fin_done T hs hm' (.inr (beq_size.mp he)))
    · next he =>
      have hM : Mid F kl X Y st₀ (len + 1) (tag F (G ++ [y])) ia (ib + 1) st := ⟨hs, hia, Nat.lt_of_le_of_ne hib fun e => he (beq_size.mpr e), _, rfl, len_push hl y, hm'⟩
      split <;> exact wpS_pure hM
  | false =>
    have hm' := mg_x T hm hxd fun y' hy' => W.neg (head_le W T.sy hyd y' hy') e
    refine wpS_bind (wpS_elem (tag_get hx) ?_)
    rw [tag_push]
    split
    · next he => exact wpS_pure (fin_last T hs hm' (beq_size.mp he))
    · next he =>
      have hM : Mid F kl X Y st₀ (len + 1) (tag F (G ++ [x])) (ia + 1) ib st := ⟨hs, Nat.lt_of_le_of_ne hia fun e => he (beq_size.mpr e), hib, _, rfl, len_push hl x, hm'⟩
      split <;> exact wpS_pure hM

omit W C hk₀ in
theorem loC_ok {st : SortSt} {len g ia ib ac bc : Nat} {out : KA} (h : Mid F kl X Y st₀ len out ia ib st) (hx : ∀ x, X[ia]? = some x → ∀ y ∈ Y.drop ib, kl y x = false) :
    wpS M A E s (loC (tag F X) (tag F Y) out ia ib g ac bc) (P7 F kl X Y st₀ (len + 1)) st := by
  obtain ⟨hs, hia, hib, G, rfl, hl, hm⟩ := h
  obtain ⟨x, hx', hxd⟩ := drop_head (Nat.lt_of_succ_lt hia)
  have hm' := mg_x T hm hxd (hx x hx')
  refine wpS_bind (wpS_elem (tag_get hx') ?_)
  rw [tag_push]
  split
  · next he => exact wpS_pure (fin_last T hs hm' (beq_size.mp he))
  · next he =>
    have hM : Mid F kl X Y st₀ (len + 1) (tag F (G ++ [x])) (ia + 1) ib st := ⟨hs, Nat.lt_of_le_of_ne hia fun e => he (beq_size.mpr e), hib, _, rfl, len_push hl x, hm'⟩
    split <;> exact wpS_pure hM

theorem loB_ok {st : SortSt} {len g ia ib ac bc : Nat} {out : KA} (h : Mid F kl X Y st₀ len out ia ib st) (hy : ∀ y, Y[ib]? = some y → ∀ x ∈ X.drop ia, kl y x = true) :
    wpS M A E s (loB (tag F X) (tag F Y) out ia ib g ac bc) (P7 F kl X Y st₀ (len + 1)) st := by
  obtain ⟨hs, hia, hib, G, rfl, hl, hm⟩ := h
  obtain ⟨x, hx, hxd⟩ := drop_head (Nat.lt_of_succ_lt hia)
  obtain ⟨y, hy', hyd⟩ := drop_head hib
  have hm' := mg_y T hm hyd (hy y hy')
  refine wpS_bind (wpS_elem (tag_get hy') ?_)
  rw [tag_push]
  split
  · next he => exact wpS_pure (fin_done T hs hm' (.inr (beq_size.mp he)))
  · next he =>
    have hib' : ib + 1 < Y.length := Nat.lt_of_le_of_ne hib fun e => he (beq_size.mpr e)
    refine wpS_bind (wpS_elem (tag_get hx) ?_)
    rw [tag_size]
    refine wpS_bind (wpS_gallop W C (hs.kind.trans hk₀) T.by_ (T.bx x (mem_at hx)) T.sy (Nat.le_of_eq (Nat.add_sub_cancel' hib)) (Nat.sub_pos_of_lt hib') fun k hk => ?_)
    have hb := brd_take (b := fun z => kl z x) hk
    dsimp only
    split
    · next hk0 =>
      have hm2 := mg_ys T hm' (k := k) fun y' hy'' x' hx' => W.lt_le (hb.1 y' hy'') (head_le W T.sx hxd x' hx')
      have et : (tag F (G ++ [y])) ++ (tag F Y).extract (ib + 1) (ib + 1 + k) = tag F (G ++ [y] ++ (Y.drop (ib + 1)).take k) := by
        rw [tag_ext, tag_app, List.drop_take, Nat.add_sub_cancel_left]
      rw [et]
      split
      · next he2 => exact wpS_pure (fin_done T hs hm2 (.inr (beq_iff_eq.mp he2)))
      · next he2 =>
        have hib2 : ib + 1 + k < Y.length := Nat.lt_of_le_of_ne (Nat.add_le_of_le_sub' hib hk.le) fun e => he2 (beq_iff_eq.mpr e)
        exact loC_ok T ⟨hs, hia, hib2, _, rfl, Nat.le_trans (Nat.le_succ _) (len_app (len_push hl y) _), hm2⟩ fun x' hx' y' hy'' => by rw [hx] at hx'; cases hx'; exact hb.2 y' hy''
    · next hk0 =>
      have ek : k = 0 := Nat.eq_zero_of_not_pos hk0
      subst ek
      exact loC_ok T ⟨hs, hia, hib', _, rfl, Nat.le_trans (Nat.le_succ _) (len_push hl y), hm'⟩ fun x' hx' y' hy'' => by rw [hx] at hx'; cases hx'; exact hb.2 y' hy''

theorem loA_ok {st : SortSt} {len g ia ib ac bc : Nat} {out : KA} (h : Mid F kl X Y st₀ len out ia ib st) :
    wpS M A E s (loA (tag F X) (tag F Y) out ia ib g ac bc) (P7 F kl X Y st₀ (len + 1)) st := by
  obtain ⟨hs, hia, hib, G, rfl, hl, hm⟩ := h
  obtain ⟨y, hy, hyd⟩ := drop_head hib
  have hia' := Nat.lt_of_succ_lt hia
  refine wpS_bind (wpS_setMin hs fun st hs => wpS_bind (wpS_elem (tag_get hy) ?_))
  rw [tag_size]
  refine wpS_bind (wpS_gallop W C (hs.kind.trans hk₀) T.bx (T.by_ y (mem_at hy)) T.sx (Nat.le_of_eq (Nat.add_sub_cancel' (Nat.le_of_lt hia'))) (Nat.sub_pos_of_lt hia') fun k hk => ?_)
  have hb := brd_take (b := fun z => !kl y z) hk
  have hb2 : ∀ x ∈ X.drop (ia + k), kl y x = true := fun x hx => by have := hb.2 x hx; cases e : kl y x with
    | true => rfl
    | false => rw [e] at this; cases this
  dsimp only
  split
  · next hk0 =>
    have hm2 := mg_xs T hm (k := k) fun x' hx' y' hy' => W.neg (head_le W T.sy hyd y' hy') (by have := hb.1 x' hx'; cases e : kl y x' with
      | false => rfl
      | true => rw [e] at this; cases this)
    have et : (tag F G) ++ (tag F X).extract ia (ia + k) = tag F (G ++ (X.drop ia).take k) := by
      rw [tag_ext, tag_app, List.drop_take, Nat.add_sub_cancel_left]
    rw [et]
    split
    · next he => exact wpS_pure (fin_last T hs hm2 (beq_iff_eq.mp he))
    · next he =>
      split
      · next he2 => exact wpS_pure (fin_done T hs hm2 (.inl (beq_iff_eq.mp he2)))
      · next he2 =>
        have h1 : ia + k < X.length := Nat.lt_of_le_of_ne (Nat.add_le_of_le_sub' (Nat.le_of_lt hia') hk.le) fun e => he2 (beq_iff_eq.mpr e)
        have h2 : ia + k + 1 < X.length := Nat.lt_of_le_of_ne h1 fun e => he (beq_iff_eq.mpr e)
        exact loB_ok W C T hk₀ ⟨hs, h2, hib, _, rfl, len_app hl _, hm2⟩ fun y' hy' x' hx' => by rw [hy] at hy'; cases hy'; exact hb2 x' hx'
  · next hk0 =>
    have ek : k = 0 := Nat.eq_zero_of_not_pos hk0
    subst ek
    exact loB_ok W C T hk₀ ⟨hs, hia, hib, _, rfl, hl, hm⟩ fun y' hy' x' hx' => by rw [hy] at hy'; cases hy'; exact hb2 x' hx'

theorem loT_ok {st : SortSt} {len g ia ib : Nat} {out : KA} (h : Mid F kl X Y st₀ len out ia ib st) :
    wpS M A E s (loT (tag F X) (tag F Y) out ia ib g) (fun r st => match r with
      | .done c => ∃ r, c.1 = some r ∧ GoodM F kl X Y st₀ r st
      | .yield c => Mid F kl X Y st₀ (len + 1) c.2.1 c.2.2.1 c.2.2.2.1 st) st := by
  have over : ∀ {l out ia ib st} {P : Prop}, X.length + Y.length ≤ l → Mid F kl X Y st₀ l out ia ib st → P := fun h1 h2 => absurd h2.lt (Nat.not_lt_of_le h1)
  refine wpS_bind (wpS_mono (wpS_forRange (I := fun x (c : M6) st => Mid F kl X Y st₀ (len + x) c.2.1 c.2.2.1 c.2.2.2.1 st)
    (Q := fun c st => Ok F kl X Y st₀ (len + 1) c.1 c.2.1 c.2.2.1 c.2.2.2.1 st) (fun x c st _ _ hI => wpS_mono (loT1_ok W C T hk₀ hI) fun r st' hr => ?_) (fun c st hI => ?_) h) fun c st' hc => ?_)
  · cases r with
    | done c =>
      obtain ⟨o, c⟩ := c
      cases o with
      | some r => exact hr
      | none => exact ⟨hr.sm, hr.hia, hr.hib, hr.mg.imp fun G hG => ⟨hG.1, Nat.le_trans (Nat.add_le_add_left (Nat.le_add_left _ _) _) hG.2.1, hG.2.2⟩⟩
    | yield c => exact hr
  · rw [tag_size, tag_size, Nat.max_eq_right (Nat.zero_le _)] at hI
    exact over (Nat.le_add_left _ _) hI
  · obtain ⟨o, c⟩ := c
    cases o with
    | some r => exact wpS_pure ⟨r, rfl, hc⟩
    | none =>
      refine wpS_bind (wpS_lift (wpAny_rule ⟨rfl, ?_⟩))
      refine wpS_bind (wpS_mono (wpS_forRange (I := fun x (c : M7) st => Mid F kl X Y st₀ (len + 1 + x) c.2.1 c.2.2.1 c.2.2.2.1 st)
        (Q := fun c st => Ok F kl X Y st₀ (len + 1) c.1 c.2.1 c.2.2.1 c.2.2.2.1 st) (fun x c st _ _ hI => ?_) (fun c st hI => ?_) hc) fun c st' hc => ?_)
      · have key : wpS M A E s (loT2 (tag F X) (tag F Y) c.2.1 c.2.2.1 c.2.2.2.1 c.2.2.2.2.1 c.2.2.2.2.2.1 c.2.2.2.2.2.2) (P7 F kl X Y st₀ (len + 1 + x + 1)) st := by
          unfold loT2; split <;> exact loA_ok W C T hk₀ hI
        refine wpS_mono key fun r st' hr => ?_
        cases r with
        | done c =>
          obtain ⟨o, c⟩ := c
          cases o with
          | some r => exact hr
          | none => exact ⟨hr.sm, hr.hia, hr.hib, hr.mg.imp fun G hG => ⟨hG.1, Nat.le_trans (Nat.le_add_right _ (x + 1)) hG.2.1, hG.2.2⟩⟩
        | yield c => exact hr
      · rw [tag_size, tag_size, Nat.max_eq_right (Nat.zero_le _)] at hI
        exact over (Nat.le_add_left _ _) hI
      · obtain ⟨o, c⟩ := c
        cases o with
        | some r => exact wpS_pure ⟨r, rfl, hc⟩
        | none => exact wpS_bind (wpS_setMin hc.sm fun st'' hs => wpS_pure ⟨hs, hc.hia, hc.hib, hc.mg⟩)

theorem mergeLo_ok {st : SortSt} (hs : Sm st₀ st) (hX : 0 < X.length) (hY : 0 < Y.length) : wpS M A E s (mergeLo' (tag F X) (tag F Y)) (GoodM F kl X Y st₀) st := by
  rw [mergeLo'_eq]
  obtain ⟨y, hy, hyd⟩ := drop_head hY
  have hm : Mg (Rk kl) (X ++ Y) [] (X.drop 0) (Y.drop 0) := ⟨List.Perm.refl _, .nil, fun _ h => nomatch h⟩
  have hm' := mg_y T hm hyd fun x hx => T.first x (List.mem_of_mem_drop hx) y hy
  refine wpS_bind (wpS_lift (wpAny_rule ⟨rfl, wpS_bind (wpS_elem (tag_get hy) ?_)⟩))
  show wpS M A E s (if (1 == (tag F Y).size) = true then _ else _) _ _
  split
  · next he => exact wpS_pure (fin_done (G := [y]) T hs hm' (.inr (beq_size.mp he)))
  · next he =>
    split
    · next he2 => exact wpS_pure (fin_last (G := [y]) T hs hm' (beq_size.mp he2))
    · next he2 =>
      refine wpS_bind (wpS_get ?_)
      refine wpS_bind (wpS_mono (wpS_forRange (I := fun x (c : M5) st => Mid F kl X Y st₀ x c.2.1 c.2.2.1 c.2.2.2.1 st)
        (Q := fun c st => ∃ r, c.1 = some r ∧ GoodM F kl X Y st₀ r st) (fun x c st _ hx hI => ?_) (fun c st hI => ?_)
        ⟨hs, Nat.lt_of_le_of_ne hX fun e => he2 (beq_size.mpr e), Nat.lt_of_le_of_ne hY fun e => he (beq_size.mpr e), [y], rfl, Nat.zero_le _, hm'⟩) fun c st' hc => ?_)
      · refine wpS_mono (loT_ok W C T hk₀ hI) fun r st' hr => ?_
        cases r with
        | done c => exact hr
        | yield c => exact hr
      · rw [tag_size, tag_size, Nat.max_eq_right (Nat.zero_le _)] at hI
        exact absurd hI.lt (Nat.lt_irrefl _)
      · obtain ⟨r, e, hr⟩ := hc
        rw [e]; exact wpS_pure hr
end
end Mine
namespace Mine
open PySem PyProof.Rows

noncomputable abbrev hDone (a b : KA) (out : KA) (na nb : Nat) : KA := a.extract 0 na ++ b.extract 0 nb ++ out.reverse

noncomputable def hiT1 (a b : KA) (g : Nat) (na nb : Nat) (out : KA) (ac bc : Nat) : StateT SortSt Sem (ForInStep (Option KA × Nat × Nat × KA × Nat × Nat)) := do
  let y ← elem' b (nb - 1)
  let x ← elem' a (na - 1)
  let r ← lt' y x
  match r with
  | some w =>
    if w = true then do
      let x ← elem' a (na - 1)
      if (na - 1 == 0) = true then pure (.done (some (hDone a b (out.push x) (na - 1) nb), na - 1, nb, out.push x, ac + 1, 0))
      else if ac + 1 ≥ g then pure (.done (none, na - 1, nb, out.push x, ac + 1, 0)) else pure (.yield (none, na - 1, nb, out.push x, ac + 1, 0))
    else do
      let y ← elem' b (nb - 1)
      if (nb - 1 == 1) = true then pure (.done (some (hDone b a (out.push y) (nb - 1) na), na, nb - 1, out.push y, 0, bc + 1))
      else if bc + 1 ≥ g then pure (.done (none, na, nb - 1, out.push y, 0, bc + 1)) else pure (.yield (none, na, nb - 1, out.push y, 0, bc + 1))
  | _ => pure (.done (some (hDone a b out na nb), na, nb, out, ac, bc))
noncomputable abbrev H7 := Option KA × Nat × Nat × KA × Nat × Nat × Nat
noncomputable abbrev H6 := Option KA × Nat × Nat × KA × Nat × Nat
noncomputable abbrev H5 := Option KA × Nat × Nat × KA × Nat
noncomputable def hiC (a b : KA) (na nb : Nat) (out : KA) (g ac bc : Nat) : StateT SortSt Sem (ForInStep H7) := do
  let x ← elem' a (na - 1)
  if (na - 1 == 0) = true then pure (.done (some (hDone a b (out.push x) (na - 1) nb), na - 1, nb, out.push x, g, ac, bc))
  else if (decide (ac < 7) && decide (bc < 7)) = true then pure (.done (none, na - 1, nb, out.push x, g, ac, bc)) else pure (.yield (none, na - 1, nb, out.push x, g, ac, bc))
noncomputable def hiB (a b : KA) (na nb : Nat) (out : KA) (g ac bc : Nat) : StateT SortSt Sem (ForInStep H7) := do
  let y ← elem' b (nb - 1)
  if (nb - 1 == 1) = true then pure (.done (some (hDone b a (out.push y) (nb - 1) na), na, nb - 1, out.push y, g, ac, bc))
  else do
    let x ← elem' a (na - 1)
    let r ← gallop' true x b 0 (nb - 1) (nb - 1 - 1)
    match r with
    | some k =>
      if nb - 1 - k > 0 then
        if (k == 1) = true then pure (.done (some (hDone b a (out.push y ++ (b.extract k (nb - 1)).reverse) k na), na, k, out.push y ++ (b.extract k (nb - 1)).reverse, g, ac, nb - 1 - k))
        else if (k == 0) = true then pure (.done (some (hDone a b (out.push y ++ (b.extract k (nb - 1)).reverse) na k), na, k, out.push y ++ (b.extract k (nb - 1)).reverse, g, ac, nb - 1 - k))
        else hiC a b na k (out.push y ++ (b.extract k (nb - 1)).reverse) g ac (nb - 1 - k)
      else hiC a b na (nb - 1) (out.push y) g ac (nb - 1 - k)
    | _ => pure (.done (some (hDone a b (out.push y) na (nb - 1)), na, nb - 1, out.push y, g, ac, bc))
noncomputable def hiA (a b : KA) (na nb : Nat) (out : KA) (g ac bc : Nat) : StateT SortSt Sem (ForInStep H7) := do
  setMinGallop' g
  let y ← elem' b (nb - 1)
  let r ← gallop' false y a 0 na (na - 1)
  match r with
  | some k =>
    if na - k > 0 then
      if (k == 0) = true then pure (.done (some (hDone a b (out ++ (a.extract k na).reverse) k nb), k, nb, out ++ (a.extract k na).reverse, g, na - k, bc))
      else hiB a b k nb (out ++ (a.extract k na).reverse) g (na - k) bc
    else hiB a b na nb out g (na - k) bc
  | _ => pure (.done (some (hDone a b out na nb), na, nb, out, g, ac, bc))
noncomputable def hiT2 (a b : KA) (na nb : Nat) (out : KA) (g ac bc : Nat) : StateT SortSt Sem (ForInStep H7) :=
  if g > 1 then hiA a b na nb out (g - 1) ac bc else hiA a b na nb out g ac bc
noncomputable def hiT (a b : KA) (na nb : Nat) (out : KA) (g : Nat) : StateT SortSt Sem (ForInStep H5) := do
  let c ← forIn [:a.size + b.size] ((none, na, nb, out, 0, 0) : H6) fun _ c => hiT1 a b g c.2.1 c.2.2.1 c.2.2.2.1 c.2.2.2.2.1 c.2.2.2.2.2
  match c.1 with
  | some r => pure (.done (some r, c.2.1, c.2.2.1, c.2.2.2.1, g))
  | none => do
    liftM (rule "list.sort.gallop")
    let c ← forIn [:a.size + b.size] ((none, c.2.1, c.2.2.1, c.2.2.2.1, g + 1, c.2.2.2.2.1, c.2.2.2.2.2) : H7) fun _ c => hiT2 a b c.2.1 c.2.2.1 c.2.2.2.1 c.2.2.2.2.1 c.2.2.2.2.2.1 c.2.2.2.2.2.2
    match c.1 with
    | some r => pure (.done (some r, c.2.1, c.2.2.1, c.2.2.2.1, c.2.2.2.2.1))
    | none => do
      setMinGallop' (c.2.2.2.2.1 + 1)
      pure (.yield (none, c.2.1, c.2.2.1, c.2.2.2.1, c.2.2.2.2.1 + 1))

noncomputable def mergeHi' : KA → KA → StateT SortSt Sem KA := sortPriv% PySem.Builtin.mergeHi
theorem mergeHi'_eq (a b : KA) : mergeHi' a b = (do
  rule "list.sort.merge-hi"
  let x ← elem' a (a.size - 1)
  if (a.size - 1 == 0) = true then return hDone a b #[x] (a.size - 1) b.size
  if (b.size == 1) = true then return hDone b a #[x] b.size (a.size - 1)
  let g := gallopOf (← get)
  let c ← forIn [:a.size + b.size] ((none, a.size - 1, b.size, #[x], g) : H5) fun _ c => hiT a b c.2.1 c.2.2.1 c.2.2.2.1 c.2.2.2.2
  match c.1 with
  | some r => pure r
  | none => unsupported "internal:list.sort.merge-bound") := by
  have h0 : mergeHi' a b = (do
    rule "list.sort.merge-hi"
    let total := a.size + b.size
    let done (out : Array Keyed) (na nb : Nat) := a.extract 0 na ++ b.extract 0 nb ++ out.reverse
    let firstOfB (out : Array Keyed) (na nb : Nat) := b.extract 0 nb ++ a.extract 0 na ++ out.reverse
    let mut na := a.size - 1
    let mut nb := b.size
    let mut out : Array Keyed := #[← elem' a na]
    if na == 0 then return done out na nb
    if nb == 1 then return firstOfB out na nb
    let mut minGallop := gallopOf (← get)
    for _ in [0:total] do
      let mut acount := 0
      let mut bcount := 0
      for _ in [0:total] do
        let some aWins ← lt' (← elem' b (nb - 1)) (← elem' a (na - 1)) | return done out na nb
        if aWins then
          na := na - 1; out := out.push (← elem' a na); acount := acount + 1; bcount := 0
          if na == 0 then return done out na nb
          if acount ≥ minGallop then break
        else
          nb := nb - 1; out := out.push (← elem' b nb); bcount := bcount + 1; acount := 0
          if nb == 1 then return firstOfB out na nb
          if bcount ≥ minGallop then break
      rule "list.sort.gallop"
      minGallop := minGallop + 1
      for _ in [0:total] do
        if minGallop > 1 then minGallop := minGallop - 1
        setMinGallop' minGallop
        let some at_ ← gallop' false (← elem' b (nb - 1)) a 0 na (na - 1) | return done out na nb
        let k := na - at_
        acount := k
        if k > 0 then
          out := out ++ (a.extract at_ na).reverse; na := at_
          if na == 0 then return done out na nb
        nb := nb - 1; out := out.push (← elem' b nb)
        if nb == 1 then return firstOfB out na nb
        let some at_ ← gallop' true (← elem' a (na - 1)) b 0 nb (nb - 1) | return done out na nb
        let k := nb - at_
        bcount := k
        if k > 0 then
          out := out ++ (b.extract at_ nb).reverse; nb := at_
          if nb == 1 then return firstOfB out na nb
          if nb == 0 then return done out na nb
        na := na - 1; out := out.push (← elem' a na)
        if na == 0 then return done out na nb
        if acount < 7 && bcount < 7 then break
      minGallop := minGallop + 1
      setMinGallop' minGallop
    unsupported "internal:list.sort.merge-bound") := rfl
  rw [h0]
  refine congrArg (bind _) (funext fun _ => congrArg (bind _) (funext fun y => ?_))
  dsimp only
  refine congrArg (ite _ _) (congrArg (ite _ _) (congrArg (bind _) (funext fun g => ?_)))
  refine congr (congrArg bind (congrArg (forIn _ _) (funext fun x => funext fun c => ?_))) (funext fun c => by obtain ⟨r, c⟩ := c; cases r <;> rfl)
  unfold hiT
  refine congr (congrArg bind rfl) (funext fun c => ?_)
  obtain ⟨r, c⟩ := c
  cases r with
  | some r => rfl
  | none =>
    refine congrArg (bind _) (funext fun _ => ?_)
    refine congr (congrArg bind ?_) (funext fun c => by obtain ⟨r, c⟩ := c; cases r <;> rfl)
    rfl
end Mine
namespace Mine
open PySem PyProof.Rows

section
variable {F : Nat → Keyed} {M : Model} {A : Around} {E : Value → Shared → Prop} {s : Shared} {kd : SortKind} {n : Nat} {kl : Nat → Nat → Bool} {X Y : List Nat} {st₀ : SortSt}

noncomputable abbrev Rr (kl : Nat → Nat → Bool) (p q : Nat) : Prop := Rk kl q p
noncomputable abbrev rt (L : List Nat) (i : Nat) : List Nat := (L.take i).reverse
structure HMid (F : Nat → Keyed) (kl : Nat → Nat → Bool) (X Y : List Nat) (st₀ : SortSt) (len na nb : Nat) (out : KA) (st : SortSt) : Prop where
  sm : Sm st₀ st
  ha : 0 < na
  ha2 : na ≤ X.length
  hb : 1 < nb
  hb2 : nb ≤ Y.length
  mg : ∃ G, out = tag F G ∧ len ≤ G.length ∧ Mg (Rr kl) (X ++ Y) G (rt X na) (rt Y nb)
theorem HMid.lt {st : SortSt} {len : Nat} {out : KA} {na nb : Nat} (h : HMid F kl X Y st₀ len na nb out st) : len < X.length + Y.length := by
  obtain ⟨G, _, hl, hm⟩ := h.mg
  have := hm.len
  rw [List.length_reverse, List.length_reverse, List.length_append, List.length_take_of_le h.ha2, List.length_take_of_le h.hb2] at this
  have := h.ha
  omega
theorem rt_head {L : List Nat} {i : Nat} (h : 0 < i) (h2 : i ≤ L.length) : ∃ p, L[i - 1]? = some p ∧ rt L i = p :: rt L (i - 1) := by
  obtain ⟨j, rfl⟩ : ∃ j, i = j + 1 := ⟨i - 1, (Nat.sub_add_cancel h).symm⟩
  refine ⟨L[j], List.getElem?_eq_getElem h2, ?_⟩
  show (L.take (j + 1)).reverse = L[j] :: (L.take j).reverse
  rw [List.take_add_one, List.getElem?_eq_getElem h2, Option.toList_some, List.reverse_append]; rfl
theorem rt_srt {L : List Nat} (h : L.Pairwise (Rk kl)) (i : Nat) : (rt L i).Pairwise (Rr kl) := List.pairwise_reverse.mpr (h.sublist (List.take_sublist _ _))
theorem rt_mem {L : List Nat} {i x : Nat} (h : x ∈ rt L i) : x ∈ L := List.mem_of_mem_take (List.mem_reverse.mp h)
theorem rt_split (L : List Nat) {k i : Nat} (h : k ≤ i) : rt L i = ((L.take i).drop k).reverse ++ rt L k := by
  rw [rt, rt, ← List.reverse_append]
  congr 1
  have := List.take_append_drop k (L.take i)
  rwa [List.take_take, Nat.min_eq_left h, eq_comm] at this
theorem tag_ext0 (L : List Nat) (i : Nat) : (tag F L).extract 0 i = tag F (L.take i) := by rw [tag_ext, List.drop_zero]
theorem turn_fin {G xs : List Nat} (h : (G ++ xs.reverse).Perm (X ++ Y) ∧ (G ++ xs.reverse).Pairwise (Rr kl)) : (xs ++ G.reverse).Perm (X ++ Y) ∧ (xs ++ G.reverse).Pairwise (Rk kl) := by
  have e : (G ++ xs.reverse).reverse = xs ++ G.reverse := by rw [List.reverse_append, List.reverse_reverse]
  exact ⟨e ▸ (List.reverse_perm _).trans h.1, e ▸ List.pairwise_reverse.mpr h.2⟩
theorem hfin_done {st : SortSt} {G : List Nat} {na nb : Nat} (T : Two kl n X Y) (hs : Sm st₀ st) (h : Mg (Rr kl) (X ++ Y) G (rt X na) (rt Y nb)) (e : na = 0 ∨ nb = 0) :
    GoodM F kl X Y st₀ (hDone (tag F X) (tag F Y) (tag F G) na nb) st := by
  refine ⟨X.take na ++ Y.take nb ++ G.reverse, by rw [hDone, tag_ext0, tag_ext0, tag_app, tag_rev, tag_app], ?_⟩
  rcases e with e | e <;> subst e
  · rw [List.take_zero, List.nil_append]
    have := turn_fin (h.swap.fin (rt_srt T.sy _)); exact ⟨this.1, this.2, hs⟩
  · rw [List.take_zero, List.append_nil]
    have := turn_fin (h.fin (rt_srt T.sx _)); exact ⟨this.1, this.2, hs⟩
theorem hfin_first {st : SortSt} {G : List Nat} {na nb : Nat} (T : Two kl n X Y) (hs : Sm st₀ st) (h : Mg (Rr kl) (X ++ Y) G (rt X na) (rt Y nb)) (e : nb = 1) (hY : 1 ≤ Y.length) :
    GoodM F kl X Y st₀ (hDone (tag F Y) (tag F X) (tag F G) nb na) st := by
  subst e
  refine ⟨Y.take 1 ++ X.take na ++ G.reverse, by rw [hDone, tag_ext0, tag_ext0, tag_app, tag_rev, tag_app], ?_⟩
  obtain ⟨y, hy, hd⟩ := rt_head (L := Y) Nat.zero_lt_one hY
  have hd' : rt Y 1 = [y] := hd
  have ht : Y.take 1 = [y] := by have := congrArg List.reverse hd'; rwa [List.reverse_reverse] at this
  rw [hd'] at h
  rw [ht]
  have h2 : Mg (Rr kl) (X ++ Y) (G ++ rt X na) [] [y] := by
    have h3 := h
    rw [← List.append_nil (rt X na)] at h3
    refine h3.take (by rw [List.append_nil]; exact rt_srt T.sx _) fun c hc y' hy' => ?_
    rw [List.mem_singleton.mp hy']; exact .inl (T.first c (rt_mem hc) y hy)
  have := turn_fin (X := X) (Y := Y) (kl := kl) (G := G) (xs := [y] ++ X.take na) (by rw [List.reverse_append, ← List.append_assoc]; exact h2.swap.fin (List.pairwise_singleton _ _))
  exact ⟨this.1, this.2, hs⟩

theorem hmg_x {G : List Nat} {na nb x : Nat} (T : Two kl n X Y) (h : Mg (Rr kl) (X ++ Y) G (rt X na) (rt Y nb)) (hx : rt X na = x :: rt X (na - 1)) (hl : ∀ y ∈ rt Y nb, kl y x = true) :
    Mg (Rr kl) (X ++ Y) (G ++ [x]) (rt X (na - 1)) (rt Y nb) := by
  have hs := rt_srt T.sx na
  rw [hx] at h hs
  exact h.take (C := [x]) hs fun c hc y hy => by rw [List.mem_singleton.mp hc]; exact .inl (hl y hy)
theorem hmg_y {G : List Nat} {na nb y : Nat} (T : Two kl n X Y) (h : Mg (Rr kl) (X ++ Y) G (rt X na) (rt Y nb)) (hy : rt Y nb = y :: rt Y (nb - 1)) (hl : ∀ x ∈ rt X na, kl y x = false) :
    Mg (Rr kl) (X ++ Y) (G ++ [y]) (rt X na) (rt Y (nb - 1)) := by
  have hs := rt_srt T.sy nb
  have hm : y ∈ Y := rt_mem (hy ▸ List.mem_cons_self)
  have h' := h.swap
  rw [hy] at h' hs
  exact (h'.take (C := [y]) hs fun c hc x hx => by rw [List.mem_singleton.mp hc]; exact .inr ⟨hl x hx, T.lt x (rt_mem hx) y hm⟩).swap
theorem hmg_xs {G : List Nat} {na nb k : Nat} (T : Two kl n X Y) (h : Mg (Rr kl) (X ++ Y) G (rt X na) (rt Y nb)) (hk : k ≤ na) (hl : ∀ x ∈ (X.take na).drop k, ∀ y ∈ rt Y nb, kl y x = true) :
    Mg (Rr kl) (X ++ Y) (G ++ ((X.take na).drop k).reverse) (rt X k) (rt Y nb) := by
  have hs := rt_srt T.sx na
  rw [rt_split X hk] at h hs
  exact h.take hs fun c hc y hy => .inl (hl c (List.mem_reverse.mp hc) y hy)
theorem hmg_ys {G : List Nat} {na nb k : Nat} (T : Two kl n X Y) (h : Mg (Rr kl) (X ++ Y) G (rt X na) (rt Y nb)) (hk : k ≤ nb) (hl : ∀ y ∈ (Y.take nb).drop k, ∀ x ∈ rt X na, kl y x = false) :
    Mg (Rr kl) (X ++ Y) (G ++ ((Y.take nb).drop k).reverse) (rt X na) (rt Y k) := by
  have hs := rt_srt T.sy nb
  have h' := h.swap
  rw [rt_split Y hk] at h' hs
  exact (h'.take hs fun c hc x hx => .inr ⟨hl c (List.mem_reverse.mp hc) x hx, T.lt x (rt_mem hx) c (List.mem_of_mem_take (List.mem_of_mem_drop (List.mem_reverse.mp hc)))⟩).swap
theorem rhead_le (W : Wk kl) {L : List Nat} {i p : Nat} (hs : L.Pairwise (Rk kl)) (h : rt L i = p :: rt L (i - 1)) : ∀ x ∈ rt L i, kl p x = false := fun x hx => by
  have hs' := rt_srt hs i
  rw [h] at hs' hx
  rcases List.mem_cons.mp hx with rfl | hx
  · exact W.irr _
  · exact Rk.le W ((List.pairwise_cons.mp hs').1 x hx)
theorem brd_rt {L : List Nat} {b : Nat → Bool} {m k : Nat} (h : Brd (fun j => b (L.getD (0 + j) 0)) m k) : (∀ x ∈ rt L k, b x = true) ∧ (∀ x ∈ (L.take m).drop k, b x = false) := by
  constructor
  · intro x hx
    obtain ⟨j, hj, rfl⟩ := List.getElem_of_mem (List.mem_reverse.mp hx)
    have := h.lo j (Nat.lt_of_lt_of_le hj (List.length_take_le _ _))
    rw [List.getElem_take, List.getElem_eq_getD 0]; rwa [Nat.zero_add] at this
  · intro x hx
    obtain ⟨j, hj, rfl⟩ := List.getElem_of_mem hx
    have hj' : k + j < m := by
      rw [List.length_drop] at hj
      exact Nat.lt_of_lt_of_le (Nat.add_lt_of_lt_sub' hj) (List.length_take_le _ _)
    have := h.hi (k + j) (Nat.le_add_right _ _) hj'
    rw [List.getElem_drop, List.getElem_take, List.getElem_eq_getD 0]; rwa [Nat.zero_add] at this

noncomputable def HiOk (F : Nat → Keyed) (kl : Nat → Nat → Bool) (X Y : List Nat) (st₀ : SortSt) (len : Nat) (o : Option KA) (na nb : Nat) (out : KA) (st : SortSt) : Prop := match o with
  | some r => GoodM F kl X Y st₀ r st
  | none => HMid F kl X Y st₀ len na nb out st
noncomputable def HP6 (F : Nat → Keyed) (kl : Nat → Nat → Bool) (X Y : List Nat) (st₀ : SortSt) (len : Nat) (r : ForInStep H6) (st : SortSt) : Prop := match r with
  | .done c => HiOk F kl X Y st₀ len c.1 c.2.1 c.2.2.1 c.2.2.2.1 st
  | .yield c => HMid F kl X Y st₀ len c.2.1 c.2.2.1 c.2.2.2.1 st
noncomputable def HP7 (F : Nat → Keyed) (kl : Nat → Nat → Bool) (X Y : List Nat) (st₀ : SortSt) (len : Nat) (r : ForInStep H7) (st : SortSt) : Prop := match r with
  | .done c => HiOk F kl X Y st₀ len c.1 c.2.1 c.2.2.1 c.2.2.2.1 st
  | .yield c => HMid F kl X Y st₀ len c.2.1 c.2.2.1 c.2.2.2.1 st
theorem pos_ne {i : Nat} (h : ¬ (i == 0) = true) : 0 < i := Nat.pos_of_ne_zero fun e => h (beq_iff_eq.mpr e)
theorem pred_gt {i : Nat} (h : 1 < i) (h2 : ¬ (i - 1 == 1) = true) : 1 < i - 1 := Nat.lt_of_le_of_ne (Nat.le_sub_one_of_lt h) fun e => h2 (beq_iff_eq.mpr e.symm)

variable (W : Wk kl) (C : Cmp M A E s kd F n kl) (T : Two kl n X Y) (hk₀ : kindOf st₀ = kd)
include W C T hk₀

theorem hiT1_ok {st : SortSt} {len g na nb ac bc : Nat} {out : KA} (h : HMid F kl X Y st₀ len na nb out st) :
    wpS M A E s (hiT1 (tag F X) (tag F Y) g na nb out ac bc) (HP6 F kl X Y st₀ (len + 1)) st := by
  obtain ⟨hs, ha, ha2, hb, hb2, G, rfl, hl, hm⟩ := h
  obtain ⟨x, hx, hxd⟩ := rt_head ha ha2
  obtain ⟨y, hy, hyd⟩ := rt_head (Nat.lt_of_succ_lt hb) hb2
  refine wpS_bind (wpS_elem (tag_get hy) (wpS_bind (wpS_elem (tag_get hx) (wpS_bind (C st y x (hs.kind.trans hk₀) (T.by_ y (mem_at hy)) (T.bx x (mem_at hx)) _ ?_)))))
  cases e : kl y x with
  | true =>
    have hm' := hmg_x T hm hxd fun y' hy' => W.le_lt (rhead_le W T.sy hyd y' hy') e
    refine wpS_bind (wpS_elem (tag_get hx) ?_)
    rw [tag_push]
    split
    · next he => exact wpS_pure (hfin_done T hs hm' (.inl (beq_iff_eq.mp he)))
    · next he =>
      have hM : HMid F kl X Y st₀ (len + 1) (na - 1) nb (tag F (G ++ [x])) st := ⟨hs, pos_ne he, Nat.le_trans (Nat.sub_le _ _) ha2, hb, hb2, _, rfl, len_push hl x, hm'⟩
      split <;> exact wpS_pure hM
  | false =>
    have hm' := hmg_y T hm hyd fun x' hx' => W.neg e (rhead_le W T.sx hxd x' hx')
    refine wpS_bind (wpS_elem (tag_get hy) ?_)
    rw [tag_push]
    split
    · next he => exact wpS_pure (hfin_first T hs hm' (beq_iff_eq.mp he) (Nat.le_trans (Nat.le_of_lt hb) hb2))
    · next he =>
      have hM : HMid F kl X Y st₀ (len + 1) na (nb - 1) (tag F (G ++ [y])) st := ⟨hs, ha, ha2, pred_gt hb he, Nat.le_trans (Nat.sub_le _ _) hb2, _, rfl, len_push hl y, hm'⟩
      split <;> exact wpS_pure hM

omit W C hk₀ in
theorem hiC_ok {st : SortSt} {len g na nb ac bc : Nat} {out : KA} (h : HMid F kl X Y st₀ len na nb out st) (hx : ∀ x, X[na - 1]? = some x → ∀ y ∈ rt Y nb, kl y x = true) :
    wpS M A E s (hiC (tag F X) (tag F Y) na nb out g ac bc) (HP7 F kl X Y st₀ (len + 1)) st := by
  obtain ⟨hs, ha, ha2, hb, hb2, G, rfl, hl, hm⟩ := h
  obtain ⟨x, hx', hxd⟩ := rt_head ha ha2
  have hm' := hmg_x T hm hxd (hx x hx')
  refine wpS_bind (wpS_elem (tag_get hx') ?_)
  rw [tag_push]
  split
  · next he => exact wpS_pure (hfin_done T hs hm' (.inl (beq_iff_eq.mp he)))
  · next he =>
    have hM : HMid F kl X Y st₀ (len + 1) (na - 1) nb (tag F (G ++ [x])) st := ⟨hs, pos_ne he, Nat.le_trans (Nat.sub_le _ _) ha2, hb, hb2, _, rfl, len_push hl x, hm'⟩
    split <;> exact wpS_pure hM

theorem hiB_ok {st : SortSt} {len g na nb ac bc : Nat} {out : KA} (h : HMid F kl X Y st₀ len na nb out st) (hy : ∀ y, Y[nb - 1]? = some y → ∀ x ∈ rt X na, kl y x = false) :
    wpS M A E s (hiB (tag F X) (tag F Y) na nb out g ac bc) (HP7 F kl X Y st₀ (len + 1)) st := by
  obtain ⟨hs, ha, ha2, hb, hb2, G, rfl, hl, hm⟩ := h
  obtain ⟨x, hx, hxd⟩ := rt_head ha ha2
  obtain ⟨y, hy', hyd⟩ := rt_head (Nat.lt_of_succ_lt hb) hb2
  have hm' := hmg_y T hm hyd (hy y hy')
  have hY1 : 1 ≤ Y.length := Nat.le_trans (Nat.le_of_lt hb) hb2
  refine wpS_bind (wpS_elem (tag_get hy') ?_)
  rw [tag_push]
  split
  · next he => exact wpS_pure (hfin_first T hs hm' (beq_iff_eq.mp he) hY1)
  · next he =>
    have hb' := pred_gt hb he
    have hb2' : nb - 1 ≤ Y.length := Nat.le_trans (Nat.sub_le _ _) hb2
    refine wpS_bind (wpS_elem (tag_get hx) ?_)
    refine wpS_bind (wpS_gallop W C (hs.kind.trans hk₀) T.by_ (T.bx x (mem_at hx)) T.sy ((Nat.zero_add _).symm ▸ hb2') (Nat.sub_lt (Nat.lt_of_succ_lt hb') Nat.zero_lt_one) fun k hk => ?_)
    have hbr := brd_rt (b := fun z => kl z x) hk
    dsimp only
    split
    · next hk0 =>
      have hm2 := hmg_ys T hm' hk.le fun y' hy'' x' hx' => W.neg (hbr.2 y' hy'') (rhead_le W T.sx hxd x' hx')
      have et : (tag F (G ++ [y])) ++ ((tag F Y).extract k (nb - 1)).reverse = tag F (G ++ [y] ++ ((Y.take (nb - 1)).drop k).reverse) := by
        rw [tag_ext, tag_rev, tag_app]
      rw [et]
      split
      · next he2 => exact wpS_pure (hfin_first T hs hm2 (beq_iff_eq.mp he2) hY1)
      · next he2 =>
        split
        · next he3 => exact wpS_pure (hfin_done T hs hm2 (.inr (beq_iff_eq.mp he3)))
        · next he3 =>
          exact hiC_ok T ⟨hs, ha, ha2, Nat.lt_of_le_of_ne (pos_ne he3) fun e => he2 (beq_iff_eq.mpr e.symm), Nat.le_trans hk.le hb2', _, rfl, Nat.le_trans (Nat.le_succ _) (len_app (len_push hl y) _), hm2⟩
            fun x' hx' y' hy'' => by rw [hx] at hx'; cases hx'; exact hbr.1 y' hy''
    · next hk0 =>
      have ek : k = nb - 1 := Nat.le_antisymm hk.le (Nat.le_of_sub_eq_zero (Nat.eq_zero_of_not_pos hk0))
      subst ek
      exact hiC_ok T ⟨hs, ha, ha2, hb', hb2', _, rfl, Nat.le_trans (Nat.le_succ _) (len_push hl y), hm'⟩ fun x' hx' y' hy'' => by rw [hx] at hx'; cases hx'; exact hbr.1 y' hy''

theorem hiA_ok {st : SortSt} {len g na nb ac bc : Nat} {out : KA} (h : HMid F kl X Y st₀ len na nb out st) :
    wpS M A E s (hiA (tag F X) (tag F Y) na nb out g ac bc) (HP7 F kl X Y st₀ (len + 1)) st := by
  obtain ⟨hs, ha, ha2, hb, hb2, G, rfl, hl, hm⟩ := h
  obtain ⟨y, hy, hyd⟩ := rt_head (Nat.lt_of_succ_lt hb) hb2
  refine wpS_bind (wpS_setMin hs fun st hs => wpS_bind (wpS_elem (tag_get hy) ?_))
  refine wpS_bind (wpS_gallop W C (hs.kind.trans hk₀) T.bx (T.by_ y (mem_at hy)) T.sx ((Nat.zero_add _).symm ▸ ha2) (Nat.sub_lt ha Nat.zero_lt_one) fun k hk => ?_)
  have hbr := brd_rt (b := fun z => !kl y z) hk
  have hb1 : ∀ x ∈ rt X k, kl y x = false := fun x hx => by have := hbr.1 x hx; cases e : kl y x with
    | false => rfl
    | true => rw [e] at this; cases this
  dsimp only
  split
  · next hk0 =>
    have hm2 := hmg_xs T hm hk.le fun x' hx' y' hy' => W.le_lt (rhead_le W T.sy hyd y' hy') (by have := hbr.2 x' hx'; cases e : kl y x' with
      | true => rfl
      | false => rw [e] at this; cases this)
    have et : (tag F G) ++ ((tag F X).extract k na).reverse = tag F (G ++ ((X.take na).drop k).reverse) := by
      rw [tag_ext, tag_rev, tag_app]
    rw [et]
    split
    · next he => exact wpS_pure (hfin_done T hs hm2 (.inl (beq_iff_eq.mp he)))
    · next he => exact hiB_ok W C T hk₀ ⟨hs, pos_ne he, Nat.le_trans hk.le ha2, hb, hb2, _, rfl, len_app hl _, hm2⟩ fun y' hy' x' hx' => by rw [hy] at hy'; cases hy'; exact hb1 x' hx'
  · next hk0 =>
    have ek : k = na := Nat.le_antisymm hk.le (Nat.le_of_sub_eq_zero (Nat.eq_zero_of_not_pos hk0))
    subst ek
    exact hiB_ok W C T hk₀ ⟨hs, ha, ha2, hb, hb2, _, rfl, hl, hm⟩ fun y' hy' x' hx' => by rw [hy] at hy'; cases hy'; exact hb1 x' hx'

theorem hiT_ok {st : SortSt} {len g na nb : Nat} {out : KA} (h : HMid F kl X Y st₀ len na nb out st) :
    wpS M A E s (hiT (tag F X) (tag F Y) na nb out g) (fun r st => match r with
      | .done c => ∃ r, c.1 = some r ∧ GoodM F kl X Y st₀ r st
      | .yield c => HMid F kl X Y st₀ (len + 1) c.2.1 c.2.2.1 c.2.2.2.1 st) st := by
  have over : ∀ {l na nb out st} {P : Prop}, X.length + Y.length ≤ l → HMid F kl X Y st₀ l na nb out st → P := fun h1 h2 => absurd h2.lt (Nat.not_lt_of_le h1)
  refine wpS_bind (wpS_mono (wpS_forRange (I := fun x (c : H6) st => HMid F kl X Y st₀ (len + x) c.2.1 c.2.2.1 c.2.2.2.1 st)
    (Q := fun c st => HiOk F kl X Y st₀ (len + 1) c.1 c.2.1 c.2.2.1 c.2.2.2.1 st) (fun x c st _ _ hI => wpS_mono (hiT1_ok W C T hk₀ hI) fun r st' hr => ?_) (fun c st hI => ?_) h) fun c st' hc => ?_)
  · cases r with
    | done c =>
      obtain ⟨o, c⟩ := c
      cases o with
      | some r => exact hr
      | none => exact ⟨hr.sm, hr.ha, hr.ha2, hr.hb, hr.hb2, hr.mg.imp fun G hG => ⟨hG.1, Nat.le_trans (Nat.add_le_add_left (Nat.le_add_left _ _) _) hG.2.1, hG.2.2⟩⟩
    | yield c => exact hr
  · rw [tag_size, tag_size, Nat.max_eq_right (Nat.zero_le _)] at hI
    exact over (Nat.le_add_left _ _) hI
  · obtain ⟨o, c⟩ := c
    cases o with
    | some r => exact wpS_pure ⟨r, rfl, hc⟩
    | none =>
      refine wpS_bind (wpS_lift (wpAny_rule ⟨rfl, ?_⟩))
      refine wpS_bind (wpS_mono (wpS_forRange (I := fun x (c : H7) st => HMid F kl X Y st₀ (len + 1 + x) c.2.1 c.2.2.1 c.2.2.2.1 st)
        (Q := fun c st => HiOk F kl X Y st₀ (len + 1) c.1 c.2.1 c.2.2.1 c.2.2.2.1 st) (fun x c st _ _ hI => ?_) (fun c st hI => ?_) hc) fun c st' hc => ?_)
      · have key : wpS M A E s (hiT2 (tag F X) (tag F Y) c.2.1 c.2.2.1 c.2.2.2.1 c.2.2.2.2.1 c.2.2.2.2.2.1 c.2.2.2.2.2.2) (HP7 F kl X Y st₀ (len + 1 + x + 1)) st := by
          unfold hiT2; split <;> exact hiA_ok W C T hk₀ hI
        refine wpS_mono key fun r st' hr => ?_
        cases r with
        | done c =>
          obtain ⟨o, c⟩ := c
          cases o with
          | some r => exact hr
          | none => exact ⟨hr.sm, hr.ha, hr.ha2, hr.hb, hr.hb2, hr.mg.imp fun G hG => ⟨hG.1, Nat.le_trans (Nat.le_add_right _ (x + 1)) hG.2.1, hG.2.2⟩⟩
        | yield c => exact hr
      · rw [tag_size, tag_size, Nat.max_eq_right (Nat.zero_le _)] at hI
        exact over (Nat.le_add_left _ _) hI
      · obtain ⟨o, c⟩ := c
        cases o with
        | some r => exact wpS_pure ⟨r, rfl, hc⟩
        | none => exact wpS_bind (wpS_setMin hc.sm fun st'' hs => wpS_pure ⟨hs, hc.ha, hc.ha2, hc.hb, hc.hb2, hc.mg⟩)

theorem mergeHi_ok {st : SortSt} (hs : Sm st₀ st) (hX : 0 < X.length) (hY : 0 < Y.length) : wpS M A E s (mergeHi' (tag F X) (tag F Y)) (GoodM F kl X Y st₀) st := by
  rw [mergeHi'_eq]
  obtain ⟨x, hx, hxd⟩ := rt_head hX (Nat.le_refl _)
  have hm : Mg (Rr kl) (X ++ Y) [] (rt X X.length) (rt Y Y.length) := ⟨by
    rw [List.nil_append, rt, rt, List.take_length, List.take_length]; exact (List.reverse_perm X).append (List.reverse_perm Y), .nil, fun _ h => nomatch h⟩
  have hm' := hmg_x T hm hxd fun y hy => T.last y (rt_mem hy) x hx
  refine wpS_bind (wpS_lift (wpAny_rule ⟨rfl, ?_⟩))
  rw [tag_size, tag_size]
  refine wpS_bind (wpS_elem (tag_get hx) ?_)
  split
  · next he => exact wpS_pure (hfin_done (G := [x]) T hs hm' (.inl (beq_iff_eq.mp he)))
  · next he =>
    split
    · next he2 => exact wpS_pure (hfin_first (G := [x]) T hs hm' (beq_iff_eq.mp he2) hY)
    · next he2 =>
      refine wpS_bind (wpS_get ?_)
      refine wpS_bind (wpS_mono (wpS_forRange (I := fun x (c : H5) st => HMid F kl X Y st₀ x c.2.1 c.2.2.1 c.2.2.2.1 st)
        (Q := fun c st => ∃ r, c.1 = some r ∧ GoodM F kl X Y st₀ r st) (fun x c st _ hx hI => ?_) (fun c st hI => ?_)
        ⟨hs, pos_ne he, Nat.sub_le _ _, Nat.lt_of_le_of_ne hY fun e => he2 (beq_iff_eq.mpr e.symm), Nat.le_refl _, [x], rfl, Nat.zero_le _, hm'⟩) fun c st' hc => ?_)
      · refine wpS_mono (hiT_ok W C T hk₀ hI) fun r st' hr => ?_
        cases r with
        | done c => exact hr
        | yield c => exact hr
      · rw [Nat.max_eq_right (Nat.zero_le _)] at hI
        exact absurd hI.lt (Nat.lt_irrefl _)
      · obtain ⟨r, e, hr⟩ := hc
        rw [e]; exact wpS_pure hr
end
end Mine
namespace Mine
open PySem PyProof.Rows

noncomputable def KG (ga : Array Nat) (i : Nat) : Nat := ga[i]?.getD 0
theorem KG_congr {ga gb : Array Nat} {i j : Nat} (h : ga[i]? = gb[j]?) : KG ga i = KG gb j := by unfold KG; rw [h]
theorem KG_mirror {ga : Array Nat} {i j : Nat} (hj : j ≤ ga.size) (k : Nat) : KG (mirror ga i j ((j - i) / 2)) k = if i ≤ k ∧ k < j then KG ga (i + j - 1 - k) else KG ga k := by
  have e := getElem?_mirror_all (i := i) hj k
  split <;> rename_i h1
  · rw [if_pos h1] at e; exact KG_congr e
  · rw [if_neg h1] at e; exact KG_congr e
theorem KG_bubble {ga : Array Nat} {src d : Nat} (hs : src < ga.size) (hd : d ≤ src) (k : Nat) :
    KG (bubble ga src d) k = if k = src - d then KG ga src else if src - d < k ∧ k ≤ src then KG ga (k - 1) else KG ga k := by
  have e := getElem?_bubble hs d hd k
  split <;> rename_i h1
  · rw [if_pos h1] at e; exact KG_congr e
  · rw [if_neg h1] at e
    split <;> rename_i h2
    · rw [if_pos h2] at e; exact KG_congr e
    · rw [if_neg h2] at e; exact KG_congr e
theorem swaps_map {β : Type} (F : Nat → Keyed) (p q : β → Nat) : ∀ (l : List β) (ga : Array Nat),
    l.foldl (fun a k => a.swapIfInBounds (p k) (q k)) (ga.map F) = (l.foldl (fun a k => a.swapIfInBounds (p k) (q k)) ga).map F
  | [], _ => rfl
  | k :: l, ga => by
    have e : (ga.map F).swapIfInBounds (p k) (q k) = (ga.swapIfInBounds (p k) (q k)).map F := by
      rw [Array.swapIfInBounds_def, Array.swapIfInBounds_def]
      simp only [Array.size_map]
      split
      · split
        · simp only [Array.swap_def, Array.map_set, Array.getElem_map]
        · rfl
      · rfl
    rw [List.foldl_cons, e, swaps_map F p q l, List.foldl_cons]

noncomputable def SrtR (R : Nat → Nat → Prop) (ga : Array Nat) (lo hi : Nat) : Prop := ∀ i j, lo ≤ i → i < j → j < hi → R (KG ga i) (KG ga j)

/-- the state while the run that begins at lo is being found: it stands for ga; what lies at lo to hi came from there, the rest behind is as it was -/
structure Rg (F : Nat → Keyed) (kd : SortKind) (n : Nat) (p : Array (Nat × Nat × Nat)) (g₀ : Array Nat) (lo hi : Nat) (ga : Array Nat) (st : SortSt) : Prop where
  arr : arrOf st = ga.map F
  kind : kindOf st = kd
  failed : failedOf st = none
  pend : pendingOf st = p
  perm : ga.Perm (Array.range n)
  blk : ∀ i, lo ≤ i → i < hi → lo ≤ KG ga i ∧ KG ga i < hi
  unt : ∀ i, hi ≤ i → i < n → KG ga i = i
  pre : ∀ i, i < lo → KG ga i = KG g₀ i

section
variable {F : Nat → Keyed} {M : Model} {A : Around} {E : Value → Shared → Prop} {s : Shared} {kd : SortKind} {n : Nat} {kl : Nat → Nat → Bool} {p : Array (Nat × Nat × Nat)} {g₀ ga : Array Nat} {lo hi : Nat} {st : SortSt} {R : Nat → Nat → Prop}

theorem Rg.size (h : Rg F kd n p g₀ lo hi ga st) : ga.size = n := h.perm.size_eq.trans Array.size_range
theorem Rg.lt (h : Rg F kd n p g₀ lo hi ga st) {i : Nat} (hi' : i < n) : KG ga i < n ∧ (arrOf st)[i]? = some (F (KG ga i)) := by
  have hs : i < ga.size := h.size.symm ▸ hi'
  have e : KG ga i = ga[i] := by unfold KG; rw [getElem?_pos ga i hs]; rfl
  have hm : ga[i] ∈ ga.toList := by simp
  have hr := (Array.perm_iff_toList_perm.mp h.perm).mem_iff.mp hm
  rw [Array.toList_range, List.mem_range] at hr
  refine ⟨e ▸ hr, ?_⟩
  rw [h.arr, Array.getElem?_map, getElem?_pos ga i hs, e]; rfl
theorem wpS_ltR (C : Cmp M A E s kd F n kl) (h : Rg F kd n p g₀ lo hi ga st) {i j : Nat} (hi' : i < n) (hj : j < n) {Q : Option Bool → SortSt → Prop} (hq : Q (some (kl (KG ga i) (KG ga j))) st) :
    wpS M A E s (ltAt' i j) Q st := by
  rw [ltAt'_eq]
  refine wpS_bind (wpS_get (wpS_bind (wpS_elem (h.lt hi').2 (wpS_bind (wpS_elem (h.lt hj).2 ?_)))))
  exact C st _ _ h.kind (h.lt hi').1 (h.lt hj).1 _ hq
theorem Rg.ext (h : Rg F kd n p g₀ lo hi ga st) {hi' : Nat} (h1 : hi ≤ hi') (h2 : hi' ≤ n) (h3 : lo ≤ hi) : Rg F kd n p g₀ lo hi' ga st :=
  ⟨h.arr, h.kind, h.failed, h.pend, h.perm, fun i a b => by
    rcases Nat.lt_or_ge i hi with c | c
    · exact ⟨(h.blk i a c).1, Nat.lt_of_lt_of_le (h.blk i a c).2 h1⟩
    · rw [h.unt i c (Nat.lt_of_lt_of_le b h2)]; exact ⟨a, b⟩, fun i a => h.unt i (Nat.le_trans h1 a), h.pre⟩
theorem Rg.mirror (h : Rg F kd n p g₀ lo hi ga st) {i j : Nat} (hi' : lo ≤ i) (hj : j ≤ hi) (hn : hi ≤ n) : Rg F kd n p g₀ lo hi (PyProof.Rows.mirror ga i j ((j - i) / 2)) (setArr st (PyProof.Rows.mirror (arrOf st) i j ((j - i) / 2))) := by
  have hsz : j ≤ ga.size := h.size.symm ▸ Nat.le_trans hj hn
  refine ⟨?_, h.kind, h.failed, h.pend, (mirror_perm _ _ _ _).trans h.perm, fun k a b => ?_, fun k a b => ?_, fun k a => ?_⟩
  · show PyProof.Rows.mirror (arrOf st) i j ((j - i) / 2) = _
    rw [h.arr]; exact swaps_map F _ _ _ _
  · rw [KG_mirror hsz]
    split
    · exact h.blk _ (by omega) (by omega)
    · exact h.blk _ a b
  · rw [KG_mirror hsz, if_neg (fun c => Nat.lt_irrefl _ (Nat.lt_of_lt_of_le c.2 (Nat.le_trans hj a)))]; exact h.unt k a b
  · rw [KG_mirror hsz, if_neg (fun c => Nat.lt_irrefl _ (Nat.lt_of_lt_of_le a (Nat.le_trans hi' c.1)))]; exact h.pre k a
theorem SrtR.one (h : hi ≤ lo + 1) : SrtR R ga lo hi := fun i j a b c => absurd (Nat.lt_of_lt_of_le c h) (Nat.not_lt_of_le (Nat.succ_le_of_lt (Nat.lt_of_le_of_lt a b)))
theorem SrtR.ext (hs : SrtR R ga lo hi) (tr : ∀ {a b c}, R a b → R b c → R a c) (hl : lo < hi) (hr : R (KG ga (hi - 1)) (KG ga hi)) : SrtR R ga lo (hi + 1) := fun i j a b c => by
  rcases Nat.lt_or_eq_of_le (Nat.le_of_lt_succ c) with c | rfl
  · exact hs i j a b c
  · rcases Nat.lt_or_eq_of_le (Nat.le_sub_one_of_lt b) with d | rfl
    · exact tr (hs i (j - 1) a d (Nat.sub_one_lt_of_lt hl)) hr
    · exact hr
theorem SrtR.mirror (hs : SrtR R ga lo hi) (hsz : hi ≤ ga.size) : SrtR (fun a b => R b a) (PyProof.Rows.mirror ga lo hi ((hi - lo) / 2)) lo hi := fun i j a b c => by
  rw [KG_mirror hsz, KG_mirror hsz, if_pos ⟨a, Nat.lt_trans b c⟩, if_pos ⟨Nat.le_trans a (Nat.le_of_lt b), c⟩]
  exact hs _ _ (by omega) (by omega) (by omega)

/-- a block of like keys, turned round -/
theorem like_mirror (W : Wk kl) {b h : Nat} (hsz : h ≤ ga.size) (e : ∀ i, b ≤ i → i < h → KG ga i = i ∧ kl (h - 1) i = false ∧ kl i (h - 1) = false) : SrtR (Rr kl) (PyProof.Rows.mirror ga b h ((h - b) / 2)) b h := by
  refine SrtR.mirror (R := Rk kl) (fun i j a c d => ?_) hsz
  have h1 := e i a (Nat.lt_trans c d)
  have h2 := e j (Nat.le_trans a (Nat.le_of_lt c)) d
  rw [h1.1, h2.1]
  exact .inr ⟨W.neg h2.2.2 h1.2.1, c⟩
end
end Mine
namespace Mine
open PySem PyProof.Rows

noncomputable def ascL (lo a nrem : Nat) : StateT SortSt Sem AscSt :=
  forIn [a:nrem] ((none, a) : AscSt) fun _ c => do
    let x ← ltAt' (lo + c.2) (lo + c.2 - 1)
    match x with
    | some smaller => if smaller = true then pure (.done (none, c.2)) else pure (.yield (none, c.2 + 1))
    | _ => pure (.done (some none, c.2))
noncomputable def tailL (lo n nrem : Nat) : StateT SortSt Sem (Option Nat) := do
  reverseSlice' lo (lo + n)
  let c ← ascL lo n nrem
  match c.1 with
  | some r => pure r
  | none => pure (some c.2)
noncomputable def descT (lo n q : Nat) : StateT SortSt Sem (ForInStep DescSt) := do
  let x ← ltAt' (lo + n) (lo + n - 1)
  match x with
  | some smaller =>
    if smaller = true then
      if q > 0 then do
        reverseSlice' (lo + n - (q + 1)) (lo + n)
        pure (.yield (none, n + 1, 0))
      else pure (.yield (none, n + 1, 0))
    else do
      let x ← ltAt' (lo + n - 1) (lo + n)
      match x with
      | some larger => if larger = true then pure (.done (none, n, q)) else pure (.yield (none, n + 1, q + 1))
      | _ => pure (.done (some none, n, q))
  | _ => pure (.done (some none, n, q))
noncomputable def descP (lo n nrem : Nat) : StateT SortSt Sem (Option Nat) := do
  liftM (rule "list.sort.descending-run")
  let c ← forIn [n + 1:nrem] ((none, n + 1, 0) : DescSt) fun _ c => descT lo c.2.1 c.2.2
  match c.1 with
  | some r => pure r
  | none =>
    if c.2.2 > 0 then do
      reverseSlice' (lo + c.2.1 - (c.2.2 + 1)) (lo + c.2.1)
      tailL lo c.2.1 nrem
    else tailL lo c.2.1 nrem
theorem countRunL_eq (lo nrem : Nat) : countRun' lo nrem = (do
    let c ← ascL lo 1 nrem
    match c.1 with
    | some r => pure r
    | none =>
      if (c.2 == nrem) = true then pure (some c.2)
      else if c.2 > 1 then do
        let x ← ltAt' lo (lo + c.2 - 1)
        match x with
        | some rose => if rose = true then pure (some c.2) else do
            reverseSlice' lo (lo + c.2)
            descP lo c.2 nrem
        | _ => pure none
      else descP lo c.2 nrem) := by
  have tl : ∀ n, (do
      reverseSlice' lo (lo + n)
      let mut n := n
      for _ in [n:nrem] do
        let some smaller ← ltAt' (lo + n) (lo + n - 1) | return none
        if smaller then break
        n := n + 1
      return some n : StateT SortSt Sem (Option Nat)) = tailL lo n nrem := fun n => by
    unfold tailL
    refine congrArg (bind _) (funext fun _ => congr (congrArg bind rfl) (funext fun c => ?_))
    obtain ⟨r, c⟩ := c; cases r <;> rfl
  have dp : ∀ n, (do
      rule "list.sort.descending-run"
      let mut n := n + 1
      let mut neq := 0
      for _ in [n:nrem] do
        let some smaller ← ltAt' (lo + n) (lo + n - 1) | return none
        if smaller then
          if neq > 0 then reverseSlice' (lo + n - (neq + 1)) (lo + n)
          neq := 0
        else
          let some larger ← ltAt' (lo + n - 1) (lo + n) | return none
          if larger then break
          neq := neq + 1
        n := n + 1
      if neq > 0 then reverseSlice' (lo + n - (neq + 1)) (lo + n)
      reverseSlice' lo (lo + n)
      for _ in [n:nrem] do
        let some smaller ← ltAt' (lo + n) (lo + n - 1) | return none
        if smaller then break
        n := n + 1
      return some n : StateT SortSt Sem (Option Nat)) = descP lo n nrem := fun n => by
    unfold descP
    refine congrArg (bind _) (funext fun _ => congr (congrArg bind rfl) (funext fun c => ?_))
    obtain ⟨r, c⟩ := c
    cases r with
    | some r => rfl
    | none =>
      dsimp only
      split
      · exact congrArg (bind _) (funext fun _ => tl c.1)
      · exact tl c.1
  rw [countRun'_eq]
  refine congr (congrArg bind rfl) (funext fun c => ?_)
  obtain ⟨r, c⟩ := c
  cases r with
  | some r => rfl
  | none =>
    dsimp only
    split
    · rfl
    · split
      · refine congrArg (bind _) (funext fun x => ?_)
        cases x with
        | none => rfl
        | some x =>
          dsimp only
          split
          · rfl
          · exact congrArg (bind _) (funext fun _ => dp c)
      · exact dp c
end Mine
namespace Mine
open PySem PyProof.Rows

theorem half_one (h : Nat) : (h - (h - (0 + 1))) / 2 = 0 := by
  cases h with
  | zero => rfl
  | succ h => show (h + 1 - h) / 2 = 0; rw [Nat.add_sub_cancel_left]
section
variable {F : Nat → Keyed} {M : Model} {A : Around} {E : Value → Shared → Prop} {s : Shared} {kd : SortKind} {n : Nat} {kl : Nat → Nat → Bool} {p : Array (Nat × Nat × Nat)} {g₀ ga : Array Nat} {lo hi : Nat} {st : SortSt}
variable (W : Wk kl) (C : Cmp M A E s kd F n kl)

omit kl W C in
theorem wpS_rev {i j : Nat} {Q : Unit → SortSt → Prop} (h : Q () (setArr st (mirror (arrOf st) i j ((j - i) / 2)))) : wpS M A E s (reverseSlice' i j) Q st := by
  rw [reverseSlice'_eq]; exact wpS_modify h

include W C in
theorem ascL_ok {a nrem : Nat} {Q : AscSt → SortSt → Prop} (hn : lo + nrem ≤ n) (ha : 1 ≤ a) (han : a ≤ nrem) (hB : Rg F kd n p g₀ lo (lo + a) ga st) (hs : SrtR (Rk kl) ga lo (lo + a))
    (h : ∀ m, a ≤ m → m ≤ nrem → SrtR (Rk kl) ga lo (lo + m) → (m = nrem ∨ kl (lo + m) (KG ga (lo + m - 1)) = true) → Q (none, m) st) :
    wpS M A E s (ascL lo a nrem) Q st := by
  refine wpS_forRange (I := fun x c st' => st' = st ∧ c = (none, x) ∧ SrtR (Rk kl) ga lo (lo + x)) ?step ?fin ⟨rfl, rfl, hs⟩
  case fin =>
    rintro c st' ⟨rfl, rfl, hs'⟩
    rw [Nat.max_eq_right han] at hs' ⊢
    exact h nrem han (Nat.le_refl _) hs' (.inl rfl)
  case step =>
    rintro x c st' hax hxn ⟨rfl, rfl, hs'⟩
    have hx : lo + x < n := Nat.lt_of_lt_of_le (Nat.add_lt_add_left hxn lo) hn
    have hlt : lo < lo + x := Nat.lt_add_of_pos_right (Nat.lt_of_lt_of_le ha hax)
    have hB' := hB.ext (Nat.add_le_add_left hax lo) (Nat.le_of_lt hx) (Nat.le_add_right _ _)
    have hu : KG ga (lo + x) = lo + x := hB'.unt _ (Nat.le_refl _) hx
    refine wpS_bind (wpS_ltR C hB' hx (Nat.lt_of_le_of_lt (Nat.sub_le _ _) hx) ?_)
    dsimp only
    rw [hu]
    cases e : kl (lo + x) (KG ga (lo + x - 1)) with
    | true => exact wpS_pure (h x hax (Nat.le_of_lt hxn) hs' (.inr e))
    | false =>
      refine wpS_pure ⟨rfl, rfl, hs'.ext (Rk.tr W) hlt (.inr ⟨by rw [hu]; exact e, ?_⟩)⟩
      rw [hu]
      exact (hB'.blk _ (Nat.le_sub_one_of_lt hlt) (Nat.sub_one_lt_of_lt hlt)).2

/-- what countRun gives -/
noncomputable abbrev RunQ (F : Nat → Keyed) (kd : SortKind) (n : Nat) (kl : Nat → Nat → Bool) (p : Array (Nat × Nat × Nat)) (g₀ : Array Nat) (lo nrem : Nat) (Q : Option Nat → SortSt → Prop) : Prop :=
  ∀ m ga' st', 1 ≤ m → m ≤ nrem → Rg F kd n p g₀ lo (lo + m) ga' st' → SrtR (Rk kl) ga' lo (lo + m) → Q (some m) st'

include W C in
theorem tailL_ok {m nrem : Nat} {Q : Option Nat → SortSt → Prop} (hn : lo + nrem ≤ n) (h1 : 1 ≤ m) (hm : m ≤ nrem) (hB : Rg F kd n p g₀ lo (lo + m) ga st) (hs : SrtR (Rr kl) ga lo (lo + m))
    (h : RunQ F kd n kl p g₀ lo nrem Q) : wpS M A E s (tailL lo m nrem) Q st := by
  have hn' : lo + m ≤ n := Nat.le_trans (Nat.add_le_add_left hm lo) hn
  have hB' := hB.mirror (Nat.le_refl lo) (Nat.le_refl _) hn'
  refine wpS_bind (wpS_rev (wpS_bind (ascL_ok W C hn h1 hm hB' (hs.mirror (hB.size.symm ▸ hn')) fun k a b c _ => ?_)))
  exact wpS_pure (h k _ _ (Nat.le_trans h1 a) b (hB'.ext (Nat.add_le_add_left a lo) (Nat.le_trans (Nat.add_le_add_left b lo) hn) (Nat.le_add_right _ _)) c)

/-- the descending run: h is its end, the last q + 1 have like keys -/
structure Dn (kl : Nat → Nat → Bool) (ga : Array Nat) (lo b h : Nat) : Prop where
  lob : lo ≤ b
  bh : b < h
  d0 : SrtR (Rr kl) ga lo b
  d1 : ∀ i, lo ≤ i → i < b → kl (h - 1) (KG ga i) = true
  d2 : ∀ i, b ≤ i → i < h → KG ga i = i ∧ kl (h - 1) i = false ∧ kl i (h - 1) = false
include W in
theorem Dn.close {b h : Nat} (D : Dn kl ga lo b h) (hsz : h ≤ ga.size) : SrtR (Rr kl) (mirror ga b h ((h - b) / 2)) lo h ∧ ∀ y, kl y (h - 1) = true → ∀ i, lo ≤ i → i < h → kl y (KG (mirror ga b h ((h - b) / 2)) i) = true := by
  have inb : ∀ i, b ≤ i → i < h → ∃ j, KG (mirror ga b h ((h - b) / 2)) i = j ∧ kl (h - 1) j = false ∧ kl j (h - 1) = false := fun i a c => by
    refine ⟨b + h - 1 - i, ?_⟩
    have hj := D.d2 (b + h - 1 - i) (by omega) (by omega)
    exact ⟨by rw [KG_mirror hsz, if_pos ⟨a, c⟩, hj.1], hj.2⟩
  have out : ∀ i, i < b → KG (mirror ga b h ((h - b) / 2)) i = KG ga i := fun i a => by
    rw [KG_mirror hsz, if_neg fun c => Nat.lt_irrefl _ (Nat.lt_of_lt_of_le a c.1)]
  refine ⟨fun i j a c d => ?_, fun y hy i a c => ?_⟩
  · rcases Nat.lt_or_ge i b with hi | hi
    · rcases Nat.lt_or_ge j b with hj | hj
      · rw [out i hi, out j hj]; exact D.d0 i j a c hj
      · obtain ⟨k, e, e1, e2⟩ := inb j hj d
        rw [out i hi, e]; exact .inl (W.le_lt e1 (D.d1 i a hi))
    · exact like_mirror W hsz D.d2 i j hi c d
  · rcases Nat.lt_or_ge i b with hi | hi
    · rw [out i hi]; exact W.tr hy (D.d1 i a hi)
    · obtain ⟨k, e, e1, e2⟩ := inb i hi c
      rw [e]; exact W.lt_le hy e2

include W C in
theorem descT_ok {x q nrem : Nat} (hx : lo + x < n) (hq : q + 1 ≤ x) (hB : Rg F kd n p g₀ lo (lo + x) ga st) (D : Dn kl ga lo (lo + x - (q + 1)) (lo + x)) {Q : ForInStep DescSt → SortSt → Prop}
    (h1 : ∀ q' ga' st', q' + 1 ≤ x + 1 → Rg F kd n p g₀ lo (lo + (x + 1)) ga' st' → Dn kl ga' lo (lo + (x + 1) - (q' + 1)) (lo + (x + 1)) → Q (.yield (none, x + 1, q')) st')
    (h2 : Q (.done (none, x, q)) st) : wpS M A E s (descT lo x q) Q st := by
  have hlt : lo < lo + x := Nat.lt_add_of_pos_right (Nat.lt_of_lt_of_le (Nat.succ_pos q) hq)
  have hu : KG ga (lo + x) = lo + x := hB.unt _ (Nat.le_refl _) hx
  have hl : KG ga (lo + x - 1) = lo + x - 1 := (D.d2 _ (Nat.sub_le_sub_left (Nat.succ_pos q) _) (Nat.sub_one_lt_of_lt hlt)).1
  have hx1 : lo + x - 1 < n := Nat.lt_of_le_of_lt (Nat.sub_le _ _) hx
  have hsz : lo + x ≤ ga.size := hB.size.symm ▸ Nat.le_of_lt hx
  refine wpS_bind (wpS_ltR C hB hx hx1 ?_)
  rw [hu, hl]
  cases e : kl (lo + x) (lo + x - 1) with
  | true =>
    have fin : ∀ ga' st', Rg F kd n p g₀ lo (lo + x) ga' st' → SrtR (Rr kl) ga' lo (lo + x) → (∀ i, lo ≤ i → i < lo + x → kl (lo + x) (KG ga' i) = true) → Q (.yield (none, x + 1, 0)) st' := fun ga' st' a b c => by
      refine h1 0 ga' st' (Nat.succ_le_succ (Nat.zero_le _)) (a.ext (Nat.le_succ _) hx (Nat.le_of_lt hlt)) ⟨Nat.le_of_lt hlt, Nat.lt_succ_self _, b, c, fun i a1 b1 => ?_⟩
      have ei : i = lo + x := Nat.le_antisymm (Nat.le_of_lt_succ b1) a1
      subst ei
      exact ⟨a.unt _ (Nat.le_refl _) hx, W.irr _, W.irr _⟩
    have cl := D.close W hsz
    show wpS M A E s (if q > 0 then _ else _) Q st
    split
    · exact wpS_bind (wpS_rev (wpS_pure (fin _ _ (hB.mirror D.lob (Nat.le_refl _) (Nat.le_of_lt hx)) cl.1 (cl.2 _ e))))
    · next hq0 =>
      have eq0 : q = 0 := Nat.eq_zero_of_not_pos hq0
      subst eq0
      have e0 : (lo + x - (lo + x - (0 + 1))) / 2 = 0 := half_one _
      rw [e0] at cl
      exact wpS_pure (fin ga st hB cl.1 (cl.2 _ e))
  | false =>
    refine wpS_bind (wpS_ltR C hB hx1 hx ?_)
    rw [hu, hl]
    cases e2 : kl (lo + x - 1) (lo + x) with
    | true => exact wpS_pure h2
    | false =>
      refine wpS_pure (h1 (q + 1) ga st (Nat.succ_le_succ hq) (hB.ext (Nat.le_succ _) hx (Nat.le_of_lt hlt)) ?_)
      have eb : lo + (x + 1) - (q + 1 + 1) = lo + x - (q + 1) := Nat.succ_sub_succ _ _
      rw [eb]
      refine ⟨D.lob, Nat.lt_succ_of_lt D.bh, D.d0, fun i a b => W.le_lt e2 (D.d1 i a b), fun i a b => ?_⟩
      rcases Nat.lt_or_eq_of_le (Nat.le_of_lt_succ b) with b | rfl
      · exact ⟨(D.d2 i a b).1, W.neg e (D.d2 i a b).2.1, W.neg (D.d2 i a b).2.2 e2⟩
      · exact ⟨hu, W.irr _, W.irr _⟩

include W C in
theorem descP_ok {m nrem : Nat} {Q : Option Nat → SortSt → Prop} (hn : lo + nrem ≤ n) (hm : m + 1 ≤ nrem) (hB : Rg F kd n p g₀ lo (lo + m) ga st) (hs : SrtR (Rr kl) ga lo (lo + m))
    (hd : ∀ i, lo ≤ i → i < lo + m → kl (lo + m) (KG ga i) = true) (h : RunQ F kd n kl p g₀ lo nrem Q) : wpS M A E s (descP lo m nrem) Q st := by
  refine wpS_bind (wpS_lift (wpAny_rule ⟨rfl, ?_⟩))
  have hmn : lo + m < n := Nat.lt_of_lt_of_le (Nat.add_lt_add_left hm lo) hn
  have d2 : ∀ i, lo + m ≤ i → i < lo + (m + 1) → KG ga i = i ∧ kl (lo + (m + 1) - 1) i = false ∧ kl i (lo + (m + 1) - 1) = false := fun i a b => by
    have ei : i = lo + m := Nat.le_antisymm (Nat.le_of_lt_succ b) a
    subst ei
    exact ⟨hB.unt _ (Nat.le_refl _) hmn, W.irr _, W.irr _⟩
  refine wpS_bind (wpS_mono (wpS_forRange (I := fun x c st' => ∃ q ga', c = (none, x, q) ∧ q + 1 ≤ x ∧ Rg F kd n p g₀ lo (lo + x) ga' st' ∧ Dn kl ga' lo (lo + x - (q + 1)) (lo + x))
    (Q := fun c st' => ∃ x q ga', c = (none, x, q) ∧ 1 ≤ x ∧ x ≤ nrem ∧ Rg F kd n p g₀ lo (lo + x) ga' st' ∧ Dn kl ga' lo (lo + x - (q + 1)) (lo + x)) ?step ?fin
    ⟨0, ga, rfl, Nat.succ_le_succ (Nat.zero_le _), hB.ext (Nat.le_succ _) hmn (Nat.le_add_right _ _), Nat.le_add_right _ _, Nat.lt_succ_self _, hs, hd, d2⟩) ?post)
  case fin =>
    rintro c st' ⟨q, ga', rfl, hq, hB', D⟩
    rw [Nat.max_eq_right hm] at hq hB' D ⊢
    exact ⟨nrem, q, ga', rfl, Nat.le_trans (Nat.succ_pos _) hm, Nat.le_refl _, hB', D⟩
  case step =>
    rintro x c st' hax hxn ⟨q, ga', rfl, hq, hB', D⟩
    exact descT_ok (nrem := nrem) W C (Nat.lt_of_lt_of_le (Nat.add_lt_add_left hxn lo) hn) hq hB' D (fun q' ga'' st'' a b c => ⟨q', ga'', rfl, a, b, c⟩)
      ⟨x, q, ga', rfl, Nat.le_trans (Nat.succ_pos _) hq, Nat.le_of_lt hxn, hB', D⟩
  case post =>
    rintro c st' ⟨x, q, ga', rfl, hx1, hx, hB', D⟩
    have hn' : lo + x ≤ n := Nat.le_trans (Nat.add_le_add_left hx lo) hn
    have cl := (D.close W (hB'.size.symm ▸ hn')).1
    show wpS M A E s (if q > 0 then _ else _) Q st'
    split
    · exact wpS_bind (wpS_rev (tailL_ok W C hn hx1 hx (hB'.mirror D.lob (Nat.le_refl _) hn') cl h))
    · next hq0 =>
      have eq0 : q = 0 := Nat.eq_zero_of_not_pos hq0
      subst eq0
      have e0 : (lo + x - (lo + x - (0 + 1))) / 2 = 0 := half_one _
      rw [e0] at cl
      exact tailL_ok W C hn hx1 hx hB' cl h

include W C in
theorem countRun_ok {nrem : Nat} {Q : Option Nat → SortSt → Prop} (hn : lo + nrem ≤ n) (h1 : 1 ≤ nrem) (hB : Rg F kd n p g₀ lo lo ga st) (h : RunQ F kd n kl p g₀ lo nrem Q) :
    wpS M A E s (countRun' lo nrem) Q st := by
  rw [countRunL_eq]
  have hB1 : ∀ m, m ≤ nrem → Rg F kd n p g₀ lo (lo + m) ga st := fun m hm => hB.ext (Nat.le_add_right _ _) (Nat.le_trans (Nat.add_le_add_left hm lo) hn) (Nat.le_refl _)
  have unt : ∀ i, lo ≤ i → i < n → KG ga i = i := hB.unt
  refine wpS_bind (ascL_ok W C hn (Nat.le_refl 1) h1 (hB1 1 h1) (SrtR.one (Nat.le_refl _)) fun m a b c d => ?_)
  show wpS M A E s (if (m == nrem) = true then _ else _) Q st
  split
  · exact wpS_pure (h m ga st a b (hB1 m b) c)
  · next hne =>
    have hm : m + 1 ≤ nrem := Nat.lt_of_le_of_ne b fun e => hne (beq_iff_eq.mpr e)
    have d' : kl (lo + m) (KG ga (lo + m - 1)) = true := d.resolve_left fun e => hne (beq_iff_eq.mpr e)
    have hmn : lo + m < n := Nat.lt_of_lt_of_le (Nat.add_lt_add_left hm lo) hn
    have hlt : lo < lo + m := Nat.lt_add_of_pos_right a
    have hl1 : lo + m - 1 < n := Nat.lt_of_le_of_lt (Nat.sub_le _ _) hmn
    have ul : KG ga (lo + m - 1) = lo + m - 1 := unt _ (Nat.le_sub_one_of_lt hlt) hl1
    rw [ul] at d'
    show wpS M A E s (if m > 1 then _ else _) Q st
    split
    · refine wpS_bind (wpS_ltR C hB (Nat.lt_trans hlt hmn) hl1 ?_)
      rw [unt lo (Nat.le_refl _) (Nat.lt_trans hlt hmn), ul]
      cases e : kl lo (lo + m - 1) with
      | true => exact wpS_pure (h m ga st a b (hB1 m b) c)
      | false =>
        have D : Dn kl ga lo lo (lo + m) := ⟨Nat.le_refl _, hlt, SrtR.one (Nat.le_succ _), fun i a b => absurd b (Nat.not_lt_of_le a), fun i a1 b1 => by
          have h1 : kl i lo = false := by
            rcases Nat.lt_or_eq_of_le a1 with a2 | rfl
            · have := (c lo i (Nat.le_refl _) a2 b1).le W
              rwa [unt lo (Nat.le_refl _) (Nat.lt_trans hlt hmn), unt i a1 (Nat.lt_trans b1 hmn)] at this
            · exact W.irr _
          have h2 : kl (lo + m - 1) i = false := by
            rcases Nat.lt_or_eq_of_le (Nat.le_sub_one_of_lt b1) with b2 | rfl
            · have := (c i (lo + m - 1) a1 b2 (Nat.sub_one_lt_of_lt hlt)).le W
              rwa [ul, unt i a1 (Nat.lt_trans b1 hmn)] at this
            · exact W.irr _
          exact ⟨unt i a1 (Nat.lt_trans b1 hmn), h2, W.neg h1 e⟩⟩
        have cl := D.close W (hB.size.symm ▸ Nat.le_of_lt hmn)
        exact wpS_bind (wpS_rev (descP_ok W C hn hm ((hB1 m b).mirror (Nat.le_refl _) (Nat.le_refl _) (Nat.le_of_lt hmn)) cl.1 (cl.2 _ d') h))
    · next hgt =>
      have e1 : m = 1 := Nat.le_antisymm (Nat.le_of_not_lt hgt) a
      subst e1
      refine descP_ok W C hn hm (hB1 1 b) (SrtR.one (Nat.le_refl _)) (fun i a1 b1 => ?_) h
      have ei : i = lo := Nat.le_antisymm (Nat.le_of_lt_succ b1) a1
      subst ei
      rw [unt _ (Nat.le_refl _) (Nat.lt_trans hlt hmn)]; exact d'
end
end Mine
namespace Mine
open PySem PyProof.Rows

section
variable {F : Nat → Keyed} {M : Model} {A : Around} {E : Value → Shared → Prop} {s : Shared} {kd : SortKind} {n : Nat} {kl : Nat → Nat → Bool} {p : Array (Nat × Nat × Nat)} {g₀ ga : Array Nat} {lo hi : Nat} {st : SortSt}

/-- the key at x is put in at y -/
theorem KG_ins {x y : Nat} (hx : x < ga.size) (hy : y ≤ x) (k : Nat) : KG (bubble ga x (x - y)) k = if k = y then KG ga x else if y < k ∧ k ≤ x then KG ga (k - 1) else KG ga k := by
  rw [KG_bubble hx (Nat.sub_le _ _), Nat.sub_sub_self hy]
theorem Rg.ins (h : Rg F kd n p g₀ lo hi ga st) {y : Nat} (hx : hi < n) (hl : lo ≤ y) (hy : y ≤ hi) : Rg F kd n p g₀ lo (hi + 1) (bubble ga hi (hi - y)) (setArr st (bubble (arrOf st) hi (hi - y))) := by
  have hsz : hi < ga.size := h.size.symm ▸ hx
  have h' := h.ext (Nat.le_succ _) hx (Nat.le_trans hl hy)
  refine ⟨?_, h.kind, h.failed, h.pend, (bubble_perm _ _ _).trans h.perm, fun k a b => ?_, fun k a b => ?_, fun k a => ?_⟩
  · show bubble (arrOf st) hi (hi - y) = _
    rw [h.arr]; exact swaps_map F _ _ _ _
  · rw [KG_ins hsz hy]
    split
    · exact h'.blk hi (Nat.le_trans hl hy) (Nat.lt_succ_self _)
    · split
      · next c => exact h'.blk (k - 1) (Nat.le_sub_one_of_lt (Nat.lt_of_le_of_lt hl c.1)) (Nat.lt_of_le_of_lt (Nat.sub_le _ _) b)
      · exact h'.blk k a b
  · have h1 : y < k := Nat.lt_of_le_of_lt hy a
    rw [KG_ins hsz hy, if_neg (Nat.ne_of_gt h1), if_neg fun c => Nat.not_lt_of_le c.2 a]; exact h.unt k (Nat.le_of_lt a) b
  · have h1 : k < y := Nat.lt_of_lt_of_le a hl
    rw [KG_ins hsz hy, if_neg (Nat.ne_of_lt h1), if_neg fun c => Nat.lt_irrefl _ (Nat.lt_trans h1 c.1)]; exact h.pre k a
theorem SrtR.ins {R : Nat → Nat → Prop} (hs : SrtR R ga lo hi) {y : Nat} (hsz : hi < ga.size) (hy : y ≤ hi)
    (h1 : ∀ i, lo ≤ i → i < y → R (KG ga i) (KG ga hi)) (h2 : ∀ i, y ≤ i → i < hi → R (KG ga hi) (KG ga i)) (hl : lo ≤ y) : SrtR R (bubble ga hi (hi - y)) lo (hi + 1) := fun i j a b c => by
  have hj : j ≤ hi := Nat.le_of_lt_succ c
  have hjp : j - 1 < j := Nat.sub_one_lt_of_lt b
  rw [KG_ins hsz hy, KG_ins hsz hy]
  by_cases e1 : i = y
  · rw [if_pos e1, if_neg (fun e => Nat.lt_irrefl _ (by rw [e1, ← e] at b; exact b)), if_pos ⟨e1 ▸ b, hj⟩]
    exact h2 _ (Nat.le_sub_one_of_lt (e1 ▸ b)) (Nat.lt_of_lt_of_le hjp hj)
  · rw [if_neg e1]
    by_cases e2 : y < i ∧ i ≤ hi
    · have hyj : y < j := Nat.lt_trans e2.1 b
      rw [if_pos e2, if_neg (Nat.ne_of_gt hyj), if_pos ⟨hyj, hj⟩]
      exact hs _ _ (Nat.le_trans hl (Nat.le_sub_one_of_lt e2.1)) (Nat.sub_lt_sub_right (Nat.one_le_of_lt e2.1) b) (Nat.lt_of_lt_of_le hjp hj)
    · have hiy : i < y := Nat.lt_of_le_of_ne (Nat.le_of_not_lt fun h => e2 ⟨h, Nat.le_trans (Nat.le_of_lt b) hj⟩) e1
      rw [if_neg e2]
      by_cases e3 : j = y
      · rw [if_pos e3]; exact h1 i a hiy
      · rw [if_neg e3]
        by_cases e4 : y < j ∧ j ≤ hi
        · rw [if_pos e4]; exact hs i (j - 1) a (Nat.lt_of_lt_of_le hiy (Nat.le_sub_one_of_lt e4.1)) (Nat.lt_of_lt_of_le hjp hj)
        · have hjy : j < y := Nat.lt_of_le_of_ne (Nat.le_of_not_lt fun h => e4 ⟨h, hj⟩) e3
          rw [if_neg e4]; exact hs i j a b (Nat.lt_of_lt_of_le hjy hy)

theorem binarySort_ok (W : Wk kl) (C : Cmp M A E s kd F n kl) {len ok : Nat} {Q : Bool → SortSt → Prop} (hn : lo + len ≤ n) (h1 : 1 ≤ ok) (hok : ok ≤ len) (hB : Rg F kd n p g₀ lo (lo + ok) ga st) (hs : SrtR (Rk kl) ga lo (lo + ok))
    (h : ∀ ga' st', Rg F kd n p g₀ lo (lo + len) ga' st' → SrtR (Rk kl) ga' lo (lo + len) → Q true st') : wpS M A E s (binarySort' lo len ok) Q st := by
  rw [binarySort'_eq, Nat.max_eq_left h1]
  refine wpS_bind (wpS_mono (wpS_forRange (I := fun k c st' => c = (none, ()) ∧ ∃ ga', Rg F kd n p g₀ lo (lo + k) ga' st' ∧ SrtR (Rk kl) ga' lo (lo + k))
    (Q := fun c st' => c = (none, ()) ∧ ∃ ga', Rg F kd n p g₀ lo (lo + len) ga' st' ∧ SrtR (Rk kl) ga' lo (lo + len)) ?step ?fin ⟨rfl, ga, hB, hs⟩) ?post)
  case post =>
    rintro c st' ⟨rfl, ga', hB', hs'⟩
    exact wpS_pure (h ga' st' hB' hs')
  case fin =>
    rintro c st' ⟨hc, ga', hB', hs'⟩
    rw [Nat.max_eq_right hok] at hB' hs'
    exact ⟨hc, ga', hB', hs'⟩
  case step =>
    rintro k c st' hak hkn ⟨rfl, ga', hB', hs'⟩
    have hk : lo + k < n := Nat.lt_of_lt_of_le (Nat.add_lt_add_left hkn lo) hn
    have hu : KG ga' (lo + k) = lo + k := hB'.unt _ (Nat.le_refl _) hk
    refine wpS_bind (wpS_mono (wpS_forRange (I := fun x c st'' => st'' = st' ∧ ∃ l r, c = (none, l, r) ∧ l ≤ r ∧ r ≤ k ∧ r - l ≤ k - x ∧
        (∀ i, lo ≤ i → i < lo + l → kl (lo + k) (KG ga' i) = false) ∧ (∀ i, lo + r ≤ i → i < lo + k → kl (lo + k) (KG ga' i) = true))
      (Q := fun c st'' => st'' = st' ∧ ∃ l r, c = (none, l, r) ∧ l ≤ k ∧
        (∀ i, lo ≤ i → i < lo + l → kl (lo + k) (KG ga' i) = false) ∧ (∀ i, lo + l ≤ i → i < lo + k → kl (lo + k) (KG ga' i) = true)) ?istep ?ifin
      ⟨rfl, 0, k, rfl, Nat.zero_le _, Nat.le_refl _, Nat.le_refl _, fun i a b => absurd b (Nat.not_lt_of_le a), fun i a b => absurd b (Nat.not_lt_of_le a)⟩) ?ipost)
    case ifin =>
      rintro c st'' ⟨rfl, l, r, rfl, hlr, hrk, hm, hlo, hhi⟩
      rw [Nat.max_eq_right (Nat.zero_le _), Nat.sub_self] at hm
      have : l = r := Nat.le_antisymm hlr (Nat.le_of_sub_eq_zero (Nat.le_zero.mp hm))
      subst this
      exact ⟨rfl, l, l, rfl, hrk, hlo, hhi⟩
    case istep =>
      rintro x c st'' _ hxk ⟨rfl, l, r, rfl, hlr, hrk, hm, hlo, hhi⟩
      dsimp only
      by_cases hge : l ≥ r
      · rw [if_pos hge]
        have : l = r := Nat.le_antisymm hlr hge
        subst this
        exact wpS_pure ⟨rfl, l, l, rfl, hrk, hlo, hhi⟩
      · rw [if_neg hge]
        have mi := mid_in (Nat.lt_of_not_le hge)
        have m1 : l ≤ (l + r) / 2 ∧ (l + r) / 2 < r ∧ r - ((l + r) / 2 + 1) ≤ k - (x + 1) ∧ (l + r) / 2 - l ≤ k - (x + 1) := ⟨mi.1, mi.2, mid_less mi.1 mi.2 hm hxk⟩
        clear mi
        generalize (l + r) / 2 = m at m1
        have hmk : m < k := Nat.lt_of_lt_of_le m1.2.1 hrk
        have hmk' : lo + m < lo + k := Nat.add_lt_add_left hmk lo
        refine wpS_bind (wpS_ltR C hB' hk (Nat.lt_trans hmk' hk) ?_)
        rw [hu]
        cases e : kl (lo + k) (KG ga' (lo + m)) with
        | true =>
          refine wpS_pure ⟨rfl, l, m, rfl, m1.1, Nat.le_of_lt hmk, m1.2.2.2, hlo, fun i a b => ?_⟩
          rcases Nat.lt_or_eq_of_le a with a | rfl
          · exact W.lt_le e ((hs' _ _ (Nat.le_add_right _ _) a b).le W)
          · exact e
        | false =>
          refine wpS_pure ⟨rfl, m + 1, r, rfl, m1.2.1, hrk, m1.2.2.1, fun i a b => ?_, hhi⟩
          rcases Nat.lt_or_eq_of_le (Nat.le_of_lt_succ b) with b | rfl
          · exact W.neg e ((hs' _ _ a b hmk').le W)
          · exact e
    case ipost =>
      rintro c st'' ⟨rfl, l, r, rfl, hlk, hlo, hhi⟩
      show wpS _ _ _ _ (do moveDown' (lo + k) (lo + l); pure (ForInStep.yield (none, ()))) _ _
      rw [moveDown'_eq]
      have hll := Nat.add_le_add_left hlk lo
      refine wpS_bind (wpS_modify (wpS_pure ⟨rfl, _, hB'.ins hk (Nat.le_add_right _ _) hll, hs'.ins (hB'.size.symm ▸ hk) hll (fun i a b => ?_) (fun i a b => ?_) (Nat.le_add_right _ _)⟩))
      · rw [hu]; exact .inr ⟨hlo i a b, (hB'.blk i a (Nat.lt_of_lt_of_le b hll)).2⟩
      · rw [hu]; exact .inl (hhi i a b)
end
end Mine
namespace Mine
open PySem PyProof.Rows

noncomputable abbrev KL := List Keyed
theorem mergeAt'_eq (i : Nat) : mergeAt' i = (do
  let s ← get
  let (some (sa, na, power), some (sb, nb, _)) := ((pendingOf s)[i]?, (pendingOf s)[i + 1]?) | unsupported "internal:list.sort.pending"
  set (setPending s (((pendingOf s).setIfInBounds i (sa, na + nb, power)).eraseIdxIfInBounds (i + 1)))
  let some k ← gallop' false (← elem' (arrOf s) sb) (arrOf s) sa na 0 | return false
  let (sa, na) := (sa + k, na - k)
  if na == 0 then return true
  let some nb ← gallop' true (← elem' (arrOf s) (sa + na - 1)) (arrOf s) sb nb (nb - 1) | return false
  if nb == 0 then return true
  let x := (arrOf s).extract sa sb
  let y := (arrOf s).extract sb (sb + nb)
  let merged ← if na ≤ nb then mergeLo' x y else mergeHi' x y
  modify fun s => setArr s (merged.toList.zipIdx.foldl (fun a (p, j) => a.setIfInBounds (sa + j) p) (arrOf s))
  return (failedOf (← get)).isNone) := rfl

/-- the whole, from the merged middle -/
theorem whole {kl : Nat → Nat → Bool} (W : Wk kl) {X Y T : List Nat} {k m : Nat} (sx : X.Pairwise (Rk kl)) (sy : Y.Pairwise (Rk kl)) (lt : ∀ p ∈ X, ∀ q ∈ Y, p < q)
    (h1 : ∀ p ∈ X.take k, ∀ y, Y[0]? = some y → kl y p = false) (h2 : ∀ q ∈ Y.drop m, ∀ x, X[X.length - 1]? = some x → kl q x = false)
    (hp : T.Perm (X.drop k ++ Y.take m)) (hs : T.Pairwise (Rk kl)) : (X.take k ++ T ++ Y.drop m).Perm (X ++ Y) ∧ (X.take k ++ T ++ Y.drop m).Pairwise (Rk kl) := by
  have a1 : ∀ p ∈ X.take k, ∀ q ∈ Y, Rk kl p q := fun p hp' q hq => by
    cases Y with
    | nil => cases hq
    | cons y Y =>
      refine .inr ⟨?_, lt p (List.mem_of_mem_take hp') q hq⟩
      rcases List.mem_cons.mp hq with rfl | hq
      · exact h1 p hp' _ rfl
      · exact W.neg (((List.pairwise_cons.mp sy).1 q hq).le W) (h1 p hp' _ rfl)
  have a2 : ∀ p ∈ X, ∀ q ∈ Y.drop m, Rk kl p q := fun p hp q hq => by
    refine .inr ⟨?_, lt p hp q (List.mem_of_mem_drop hq)⟩
    obtain ⟨i, hi, rfl⟩ := List.getElem_of_mem hp
    have hl : X.length - 1 < X.length := Nat.sub_one_lt_of_lt hi
    have e := h2 q hq _ (List.getElem?_eq_getElem hl)
    rcases Nat.lt_or_eq_of_le (Nat.le_sub_one_of_lt hi) with c | c
    · exact W.neg e ((List.pairwise_iff_getElem.mp sx i _ hi hl c).le W)
    · rw [show X[i] = X[X.length - 1] by congr 1]; exact e
  have sxs := List.pairwise_append.mp ((List.take_append_drop k X).symm ▸ sx)
  have sys := List.pairwise_append.mp ((List.take_append_drop m Y).symm ▸ sy)
  constructor
  · have := (List.Perm.append_left (X.take k) hp).append_right (Y.drop m)
    have e : X.take k ++ (X.drop k ++ Y.take m) ++ Y.drop m = X ++ Y := by rw [← List.append_assoc, List.take_append_drop, List.append_assoc, List.take_append_drop]
    rwa [e] at this
  · refine List.pairwise_append.mpr ⟨List.pairwise_append.mpr ⟨sxs.1, hs, fun p hp' q hq => ?_⟩, sys.2.1, fun p hp' q hq => ?_⟩
    · rcases List.mem_append.mp (hp.mem_iff.mp hq) with hq | hq
      · exact sxs.2.2 p hp' q hq
      · exact a1 p hp' q (List.mem_of_mem_take hq)
    · rcases List.mem_append.mp hp' with hp' | hp'
      · exact a2 p (List.mem_of_mem_take hp') q hq
      · rcases List.mem_append.mp (hp.mem_iff.mp hp') with hp' | hp'
        · exact a2 p (List.mem_of_mem_drop hp') q hq
        · exact sys.2.2 p hp' q hq

theorem put_fold {c : Nat} (W : KL) : ∀ (T U V : KL) (i : Nat), c + i = U.length → V.length = T.length →
    (T.zipIdx i).foldl (fun a (x : Keyed × Nat) => a.setIfInBounds (c + x.2) x.1) (U ++ V ++ W).toArray = (U ++ T ++ W).toArray
  | [], U, V, i, _, h => by rw [List.eq_nil_of_length_eq_zero h]; rfl
  | t :: T, U, [], i, _, h => nomatch h
  | t :: T, U, v :: V, i, e, h => by
    rw [List.zipIdx_cons, List.foldl_cons, e]
    have e1 : (U ++ v :: V ++ W).toArray.setIfInBounds U.length t = (U ++ [t] ++ V ++ W).toArray := by
      rw [List.setIfInBounds_toArray]
      congr 1
      rw [List.append_assoc, List.set_append_right _ _ (Nat.le_refl _), Nat.sub_self, List.append_assoc, List.append_assoc]; rfl
    rw [e1, put_fold W T (U ++ [t]) V (i + 1) (by rw [← Nat.add_assoc, e, List.length_append]; rfl) (Nat.succ.inj h), List.append_assoc U [t]]; rfl
end Mine
namespace Mine
open PySem PyProof.Rows

section
variable {F : Nat → Keyed} {M : Model} {A : Around} {E : Value → Shared → Prop} {s : Shared} {kd : SortKind} {n : Nat} {kl : Nat → Nat → Bool} {st : SortSt} {X Y : List Nat}

theorem wpS_set {st st' : SortSt} {Q : PUnit → SortSt → Prop} (h : Q ⟨⟩ st') : wpS M A E s (set st' : StateT SortSt Sem PUnit) Q st := by
  unfold wpS; rw [StateT.run_set]; exact wpAny_pure ⟨rfl, h⟩
theorem getD_left {i : Nat} (h : i < X.length) : (X ++ Y).getD (0 + i) 0 = X.getD i 0 := by
  rw [Nat.zero_add, List.getD_eq_getElem?_getD, List.getD_eq_getElem?_getD, List.getElem?_append_left h]
theorem getD_right (i : Nat) : (X ++ Y).getD (X.length + i) 0 = Y.getD i 0 := by
  rw [List.getD_eq_getElem?_getD, List.getD_eq_getElem?_getD, List.getElem?_append_right (Nat.le_add_right _ _), Nat.add_sub_cancel_left]
theorem pw_getD {L : List Nat} {R : Nat → Nat → Prop} (hs : L.Pairwise R) {i j : Nat} (hij : i < j) (hj : j < L.length) : R (L.getD i 0) (L.getD j 0) := by
  have := List.pairwise_iff_getElem.mp hs i j (Nat.lt_trans hij hj) hj hij
  rwa [List.getElem_eq_getD 0, List.getElem_eq_getD 0] at this
theorem brd_list {L : List Nat} {f b : Nat → Bool} {k : Nat} (h : Brd f L.length k) (e : ∀ i, i < L.length → f i = b (L.getD i 0)) : (∀ x ∈ L.take k, b x = true) ∧ (∀ x ∈ L.drop k, b x = false) := by
  constructor
  · intro x hx
    obtain ⟨j, hj, rfl⟩ := List.getElem_of_mem hx
    have hj' : j < k := Nat.lt_of_lt_of_le hj (List.length_take_le _ _)
    have := h.lo j hj'
    rw [e j (Nat.lt_of_lt_of_le hj' h.le)] at this
    rw [List.getElem_take, List.getElem_eq_getD 0]; exact this
  · intro x hx
    obtain ⟨j, hj, rfl⟩ := List.getElem_of_mem hx
    rw [List.length_drop] at hj
    have hj' : k + j < L.length := Nat.add_lt_of_lt_sub' hj
    have := h.hi (k + j) (Nat.le_add_right _ _) hj'
    rw [e _ hj'] at this
    rw [List.getElem_drop, List.getElem_eq_getD 0]; exact this

theorem mergeAt_ok (W : Wk kl) (C : Cmp M A E s kd F n kl) {pw q : Nat} {Q : Bool → SortSt → Prop} (hk : kindOf st = kd) (ha : arrOf st = tag F (X ++ Y)) (hf : failedOf st = none)
    (hp : pendingOf st = #[(0, X.length, pw), (X.length, Y.length, q)]) (sx : X.Pairwise (Rk kl)) (sy : Y.Pairwise (Rk kl)) (lt : ∀ p ∈ X, ∀ q ∈ Y, p < q) (bn : ∀ p ∈ X ++ Y, p < n)
    (hX : 0 < X.length) (hY : 0 < Y.length)
    (h : ∀ L st', arrOf st' = tag F L → L.Perm (X ++ Y) ∧ L.Pairwise (Rk kl) → failedOf st' = none → pendingOf st' = #[(0, X.length + Y.length, pw)] → Q true st') :
    wpS M A E s (mergeAt' 0) Q st := by
  rw [mergeAt'_eq]
  refine wpS_bind (wpS_get ?_)
  rw [hp, ha]
  refine wpS_bind (wpS_set ?_)
  have hp' : ((#[(0, X.length, pw), (X.length, Y.length, q)] : Array (Nat × Nat × Nat)).setIfInBounds 0 (0, X.length + Y.length, pw)).eraseIdxIfInBounds (0 + 1) = #[(0, X.length + Y.length, pw)] := by rw [List.setIfInBounds_toArray, List.eraseIdxIfInBounds_toArray]; rfl
  rw [hp']
  have hst : ∀ st', Sm (setPending st #[(0, X.length + Y.length, pw)]) st' → arrOf st' = tag F (X ++ Y) ∧ failedOf st' = none ∧ pendingOf st' = #[(0, X.length + Y.length, pw)] :=
    fun st' hs => ⟨hs.arr.trans ha, hs.failed.trans hf, hs.pend⟩
  have hs0 := Sm.rfl' (setPending st #[(0, X.length + Y.length, pw)])
  have hk1 : kindOf (setPending st #[(0, X.length + Y.length, pw)]) = kd := hk
  generalize setPending st #[(0, X.length + Y.length, pw)] = st1 at hst hs0 hk1 ⊢
  obtain ⟨y0, hy0⟩ : ∃ y, Y[0]? = some y := ⟨Y[0], List.getElem?_eq_getElem hY⟩
  have hy0m : y0 ∈ X ++ Y := List.mem_append_right _ (mem_at hy0)
  have fin : ∀ k m, k ≤ X.length → (∀ p ∈ X.take k, kl y0 p = false) → (∀ q ∈ Y.drop m, ∀ x, X[X.length - 1]? = some x → kl q x = false) → ∀ T st', T.Perm (X.drop k ++ Y.take m) → T.Pairwise (Rk kl) →
      arrOf st' = tag F (X.take k ++ T ++ Y.drop m) → failedOf st' = none → pendingOf st' = #[(0, X.length + Y.length, pw)] → Q true st' := fun k m _ h1 h2 T st' h3 h4 h5 h6 h7 =>
    h _ st' h5 (whole W sx sy lt (fun p hp y hy => by rw [hy0] at hy; cases hy; exact h1 p hp) h2 h3 h4) h6 h7
  refine wpS_bind (wpS_elem (tag_get (p := y0) ?_) ?_)
  · rw [List.getElem?_append_right (Nat.le_refl _), Nat.sub_self]; exact hy0
  refine wpS_bind (wpS_gallopR W C hk1 bn (bn y0 hy0m) (fun i j hij hj => by rw [getD_left hj, getD_left (Nat.lt_trans hij hj)]; exact pw_getD sx hij hj)
    (by rw [Nat.zero_add, List.length_append]; exact Nat.le_add_right _ _) hX fun k hk' => ?_)
  have b1 := brd_list (b := fun x => !kl y0 x) hk' fun i hi => by rw [getD_left hi]; rfl
  have b1a : ∀ p ∈ X.take k, kl y0 p = false := fun p hp => by have := b1.1 p hp; cases e : kl y0 p with
    | false => rfl
    | true => rw [e] at this; cases this
  have b1b : ∀ p ∈ X.drop k, kl y0 p = true := fun p hp => by have := b1.2 p hp; cases e : kl y0 p with
    | true => rfl
    | false => rw [e] at this; cases this
  have kle : k ≤ X.length := hk'.le
  dsimp only
  split
  · next hz =>
    have ek : k = X.length := Nat.le_antisymm kle (Nat.le_of_sub_eq_zero (beq_iff_eq.mp hz))
    have hh := hst _ hs0
    refine wpS_pure (fin k Y.length kle b1a (fun q hq => ?_) Y st1 ?_ sy ?_ hh.2.1 hh.2.2)
    · rw [List.drop_length] at hq; cases hq
    · rw [ek, List.drop_length, List.take_length]; exact List.Perm.refl _
    · rw [hh.1, ek, List.drop_length, List.take_length, List.append_nil]
  · next hz =>
    have hkx : k < X.length := Nat.lt_of_le_of_ne kle fun e => hz (beq_iff_eq.mpr (by rw [e, Nat.sub_self]))
    have hlast : X.length - 1 < X.length := Nat.sub_one_lt_of_lt hX
    obtain ⟨xl, hxl⟩ : ∃ x, X[X.length - 1]? = some x := ⟨X[X.length - 1], List.getElem?_eq_getElem hlast⟩
    have ei : 0 + k + (X.length - k) - 1 = X.length - 1 := by rw [Nat.zero_add, Nat.add_sub_cancel' kle]
    rw [ei]
    refine wpS_bind (wpS_elem (tag_get (p := xl) (by rw [List.getElem?_append_left hlast]; exact hxl)) ?_)
    refine wpS_bind (wpS_gallopR W C hk1 bn (bn xl (List.mem_append_left _ (mem_at hxl))) (fun i j hij hj => by rw [getD_right, getD_right]; exact pw_getD sy hij hj)
      (by rw [List.length_append]; exact Nat.le_refl _) (Nat.sub_one_lt_of_lt hY) fun m hm' => ?_)
    have b2 := brd_list (b := fun x => kl x xl) hm' fun i hi => by rw [getD_right]; rfl
    have b2b : ∀ q ∈ Y.drop m, ∀ x, X[X.length - 1]? = some x → kl q x = false := fun q hq x hx => by rw [hxl] at hx; cases hx; exact b2.2 q hq
    dsimp only
    split
    · next hz2 =>
      have em : m = 0 := beq_iff_eq.mp hz2
      have hh := hst _ hs0
      refine wpS_pure (fin k m kle b1a b2b (X.drop k) st1 ?_ (drop_srt sx k) ?_ hh.2.1 hh.2.2)
      · rw [em, List.take_zero, List.append_nil]
      · rw [hh.1, em, List.drop_zero, List.take_append_drop]
    · next hz2 =>
      have hm0 : 0 < m := pos_ne hz2
      have mle : m ≤ Y.length := hm'.le
      have ex : (tag F (X ++ Y)).extract (0 + k) X.length = tag F (X.drop k) := by rw [tag_ext, Nat.zero_add, List.take_left]
      have ey : (tag F (X ++ Y)).extract X.length (X.length + m) = tag F (Y.take m) := by
        rw [tag_ext, List.take_length_add_append, List.drop_left]
      rw [ex, ey]
      have hTwo : Two kl n (X.drop k) (Y.take m) := ⟨drop_srt sx k, sy.sublist (List.take_sublist _ _), fun p hp q hq => lt p (List.mem_of_mem_drop hp) q (List.mem_of_mem_take hq),
        fun p hp => bn p (List.mem_append_left _ (List.mem_of_mem_drop hp)), fun p hp => bn p (List.mem_append_right _ (List.mem_of_mem_take hp)), fun q hq x hx => by
          rw [List.length_drop, List.getElem?_drop, ← Nat.add_sub_assoc (Nat.sub_pos_of_lt hkx), Nat.add_sub_cancel' kle, hxl] at hx
          cases hx; exact b2.1 q hq, fun p hp y hy => by
          rw [List.getElem?_take_of_lt hm0, hy0] at hy
          cases hy; exact b1b p hp⟩
      have l1 : 0 < (X.drop k).length := by rw [List.length_drop]; exact Nat.sub_pos_of_lt hkx
      have l2 : 0 < (Y.take m).length := by rw [List.length_take_of_le mle]; exact hm0
      refine (fun (tl : ∀ r st2, GoodM F kl (X.drop k) (Y.take m) st1 r st2 → wpS M A E s (do
          modify fun s => setArr s (r.toList.zipIdx.foldl (fun a x => a.setIfInBounds (0 + k + x.2) x.1) (arrOf s))
          return (failedOf (← get)).isNone) Q st2) => ?_) (fun r st2 hr => ?_)
      · split
        · exact wpS_bind (wpS_mono (mergeLo_ok W C hTwo hk1 hs0 l1 l2) tl)
        · exact wpS_bind (wpS_mono (mergeHi_ok W C hTwo hk1 hs0 l1 l2) tl)
      obtain ⟨T, rfl, tp, ts, sm⟩ := hr
      have hh := hst _ sm
      refine wpS_bind (wpS_modify (wpS_bind (wpS_get (wpS_pure ?_))))
      have ef : (failedOf (setArr st2 (((tag F T).toList.zipIdx).foldl (fun a x => a.setIfInBounds (0 + k + x.2) x.1) (arrOf st2)))).isNone = true := by
        show (failedOf st2).isNone = true; rw [hh.2.1]; rfl
      have earr : ((tag F T).toList.zipIdx).foldl (fun a x => a.setIfInBounds (0 + k + x.2) x.1) (arrOf st2) = tag F (X.take k ++ T ++ Y.drop m) := by
        rw [hh.1]
        have hl : (X.drop k ++ Y.take m).length = T.length := tp.length_eq.symm
        have e1 : X ++ Y = X.take k ++ (X.drop k ++ Y.take m) ++ Y.drop m := by rw [← List.append_assoc, List.take_append_drop, List.append_assoc, List.take_append_drop]
        rw [e1]
        unfold tag
        rw [List.map_append, List.map_append, List.map_append (l₁ := X.take k ++ T), List.map_append (l₁ := X.take k)]
        exact put_fold _ _ _ _ 0 (by rw [List.length_map, List.length_take_of_le kle, Nat.zero_add]; rfl) (by rw [List.length_map, List.length_map, hl])
      rw [ef]
      exact fin k m kle b1a b2b T (setArr st2 (((tag F T).toList.zipIdx).foldl (fun a x => a.setIfInBounds (0 + k + x.2) x.1) (arrOf st2))) tp ts earr hh.2.1 hh.2.2
end
end Mine
namespace Mine
open PySem PyProof.Rows

section
variable {F : Nat → Keyed} {M : Model} {A : Around} {E : Value → Shared → Prop} {s : Shared} {kd : SortKind} {n : Nat} {kl : Nat → Nat → Bool}

noncomputable abbrev PA := Array (Nat × Nat × Nat)
/-- one run stands, from 0 to n1 -/
structure One (F : Nat → Keyed) (kd : SortKind) (n : Nat) (kl : Nat → Nat → Bool) (mr : Nat) (n1 : Nat) (st : SortSt) : Prop where
  ga : ∃ ga, Rg F kd n #[(0, n1, 0)] ga n1 n1 ga st ∧ SrtR (Rk kl) ga 0 n1 ∧ ∀ i, i < n1 → KG ga i < n1
  pos : 1 ≤ n1
  le : n1 ≤ n
  mr : n - n1 ≤ mr
/-- all is cut up in runs -/
noncomputable def Cut (F : Nat → Keyed) (kd : SortKind) (n : Nat) (kl : Nat → Nat → Bool) (st : SortSt) : Prop :=
  ∃ X Y pw, arrOf st = tag F (X ++ Y) ∧ kindOf st = kd ∧ failedOf st = none ∧ (X ++ Y).Perm (List.range n) ∧ X.Pairwise (Rk kl) ∧ Y.Pairwise (Rk kl) ∧ (∀ p ∈ X, ∀ q ∈ Y, p < q) ∧ 0 < X.length ∧
    ((Y = [] ∧ pendingOf st = #[(0, X.length, pw)]) ∨ (0 < Y.length ∧ pendingOf st = #[(0, X.length, pw), (X.length, Y.length, 0)]))
noncomputable def SDn (F : Nat → Keyed) (n : Nat) (kl : Nat → Nat → Bool) (st : SortSt) : Prop :=
  failedOf st = none ∧ ∃ L, arrOf st = tag F L ∧ L.Perm (List.range n) ∧ L.Pairwise (Rk kl)

theorem minRun_ok (h2 : 2 ≤ n) (hn : n < 128) : 0 < minRun' n n 0 ∧ n ≤ 2 * minRun' n n 0 := by
  obtain ⟨f, rfl⟩ : ∃ f, n = f + 2 := ⟨n - 2, (Nat.sub_add_cancel h2).symm⟩
  rw [minRun'_succ]
  split
  · omega
  · rw [minRun'_succ, if_pos (by omega)]; omega

theorem toList_map (ga : Array Nat) : ga.map F = tag F ga.toList := Array.ext' (by rw [Array.toList_map]; rfl)
theorem KG_list {ga : Array Nat} {i : Nat} (h : i < ga.toList.length) : ga.toList[i] = KG ga i := by
  unfold KG; rw [Array.getElem_toList]; rw [getElem?_pos ga i h]; rfl
theorem srt_list {ga : Array Nat} {lo hi : Nat} {R : Nat → Nat → Prop} (h : SrtR R ga lo hi) : ((ga.toList.take hi).drop lo).Pairwise R := by
  rw [List.pairwise_iff_getElem]
  intro i j hi' hj hij
  rw [List.getElem_drop, List.getElem_drop, List.getElem_take, List.getElem_take, KG_list, KG_list]
  rw [List.length_drop] at hj
  exact h _ _ (Nat.le_add_right _ _) (Nat.add_lt_add_left hij lo) (Nat.lt_of_lt_of_le (Nat.add_lt_of_lt_sub' hj) (List.length_take_le _ _))

/-- one run, the whole: cut -/
theorem One.cut {mr : Nat} {st : SortSt} (h : One F kd n kl mr n st) : Cut F kd n kl st := by
  obtain ⟨ga, hB, hs, _⟩ := h.ga
  have hl : ga.toList.length = n := hB.size
  have := srt_list hs
  rw [← hl, List.drop_zero, List.take_length] at this
  refine ⟨ga.toList, [], 0, by rw [hB.arr, toList_map, List.append_nil], hB.kind, hB.failed, ?_, this, .nil, fun _ _ _ hq => (List.not_mem_nil hq).elim, hl.symm ▸ h.pos, .inl ⟨rfl, by rw [hB.pend, hl]⟩⟩
  rw [List.append_nil, ← Array.toList_range]; exact Array.perm_iff_toList_perm.mp hB.perm
/-- two runs -/
theorem two_cut {n1 pw : Nat} {ga gb : Array Nat} {st : SortSt} (h1 : 1 ≤ n1) (hlt : n1 < n) (hs1 : SrtR (Rk kl) ga 0 n1) (hb1 : ∀ i, i < n1 → KG ga i < n1)
    (hB : Rg F kd n #[(0, n1, pw), (n1, n - n1, 0)] ga n1 n gb st) (hs2 : SrtR (Rk kl) gb n1 n) : Cut F kd n kl st := by
  have hl : gb.toList.length = n := hB.size
  have e := List.take_append_drop n1 gb.toList
  have lx : (gb.toList.take n1).length = n1 := List.length_take_of_le (hl.symm ▸ Nat.le_of_lt hlt)
  have ly : (gb.toList.drop n1).length = n - n1 := by rw [List.length_drop, hl]
  have p1 : (gb.toList.take n1).Pairwise (Rk kl) := by
    have := srt_list (ga := gb) (lo := 0) (hi := n1) fun i j a b c => by rw [hB.pre i (Nat.lt_trans b c), hB.pre j c]; exact hs1 i j a b c
    rwa [List.drop_zero] at this
  have p2 : (gb.toList.drop n1).Pairwise (Rk kl) := by
    have := srt_list hs2
    rwa [← hl, List.take_length] at this
  refine ⟨gb.toList.take n1, gb.toList.drop n1, pw, by rw [e, hB.arr, toList_map], hB.kind, hB.failed, ?_, p1, p2, fun p hp q hq => ?_, lx.symm ▸ h1, .inr ⟨ly.symm ▸ Nat.sub_pos_of_lt hlt, by rw [hB.pend, lx, ly]⟩⟩
  · rw [e, ← Array.toList_range]; exact Array.perm_iff_toList_perm.mp hB.perm
  · obtain ⟨i, hi, rfl⟩ := List.getElem_of_mem hp
    obtain ⟨j, hj, rfl⟩ := List.getElem_of_mem hq
    rw [List.getElem_take, List.getElem_drop, KG_list, KG_list]
    have hi' : i < n1 := lx ▸ hi
    have hj' : n1 + j < n := Nat.add_lt_of_lt_sub' (ly ▸ hj)
    rw [hB.pre i hi']
    exact Nat.lt_of_lt_of_le (hb1 i hi') (hB.blk _ (Nat.le_add_right _ _) hj').1
end
end Mine
namespace Mine
open PySem PyProof.Rows

section
variable {F : Nat → Keyed} {M : Model} {A : Around} {E : Value → Shared → Prop} {s : Shared} {kd : SortKind} {n : Nat} {kl : Nat → Nat → Bool}

theorem Rg.setP {p p' : PA} {g₀ ga : Array Nat} {lo hi : Nat} {st : SortSt} (h : Rg F kd n p g₀ lo hi ga st) : Rg F kd n p' g₀ lo hi ga (setPending st p') :=
  ⟨h.arr, h.kind, h.failed, rfl, h.perm, h.blk, h.unt, h.pre⟩
theorem one_of {mr m : Nat} {g₀ ga : Array Nat} {st : SortSt} (h2 : n ≤ 2 * mr) (h1 : 1 ≤ m) (hm : m ≤ n) (hmr : min n mr ≤ m) (hB : Rg F kd n #[] g₀ 0 m ga st) (hs : SrtR (Rk kl) ga 0 m) :
    One F kd n kl mr m (setPending st ((pendingOf st).push (0, m, 0))) := by
  have e : (pendingOf st).push (0, m, 0) = #[(0, m, 0)] := by rw [hB.pend]; rfl
  rw [e]
  exact ⟨⟨ga, ⟨hB.arr, hB.kind, hB.failed, rfl, hB.perm, fun i a b => absurd b (Nat.not_lt_of_le a), hB.unt, fun _ _ => rfl⟩, hs, fun i hi => (hB.blk i (Nat.zero_le _) hi).2⟩, h1, hm, by omega⟩

theorem sortRuns_ok (W : Wk kl) (C : Cmp M A E s kd F n kl) {st : SortSt} {Q : Unit → SortSt → Prop} (h2 : 2 ≤ n) (hn : n < 128) (ha : arrOf st = (Array.range n).map F) (hk : kindOf st = kd)
    (hf : failedOf st = none) (hp : pendingOf st = #[]) (h : ∀ st', SDn F n kl st' → Q () st') : wpS M A E s sortRuns' Q st := by
  rw [sortRuns'_eq]
  refine wpS_bind (wpS_get ?_)
  have hsz : (arrOf st).size = n := by rw [ha, Array.size_map, Array.size_range]
  have hmr := minRun_ok h2 hn
  dsimp only
  rw [hsz]
  generalize minRun' n n 0 = mr at hmr ⊢
  have hB0 : Rg F kd n #[] (Array.range n) 0 0 (Array.range n) st := ⟨ha, hk, hf, hp, Array.Perm.refl _, fun i _ b => absurd b (Nat.not_lt_zero _), fun i _ hi => by unfold KG; rw [getElem?_pos _ i (by rw [Array.size_range]; exact hi)]; simp, fun _ _ => rfl⟩
  refine wpS_bind (wpS_mono (wpS_forRange
    (I := fun x c st' => (x = 0 ∧ c = (none, 0) ∧ Rg F kd n #[] (Array.range n) 0 0 (Array.range n) st') ∨ (x = 1 ∧ ∃ n1, c = (none, n1) ∧ One F kd n kl mr n1 st') ∨ (2 ≤ x ∧ c = (none, n) ∧ Cut F kd n kl st'))
    (Q := fun c st' => c = (none, n) ∧ Cut F kd n kl st') ?step ?fin (.inl ⟨rfl, rfl, hB0⟩)) ?post)
  case fin =>
    rintro c st' (⟨hx, _, _⟩ | ⟨hx, _⟩ | ⟨_, hc, hD⟩)
    · rw [Nat.max_eq_right (Nat.zero_le _)] at hx; exact absurd (hx ▸ h2) (by decide)
    · rw [Nat.max_eq_right (Nat.zero_le _)] at hx; exact absurd (hx ▸ h2) (by decide)
    · exact ⟨hc, hD⟩
  case step =>
    rintro x c st' _ hx (⟨rfl, rfl, hB⟩ | ⟨rfl, n1, rfl, hO⟩ | ⟨hx2, rfl, hD⟩)
    · dsimp only
      rw [if_neg (Nat.not_le_of_lt (Nat.lt_of_lt_of_le Nat.zero_lt_two h2))]
      rw [Nat.sub_zero]
      refine wpS_bind (countRun_ok W C (Nat.le_of_eq (Nat.zero_add n)) (Nat.le_trans (by decide) h2) hB fun m ga' st2 hm1 hm2 hB2 hs2 => ?_)
      rw [Nat.zero_add] at hB2 hs2
      dsimp only
      by_cases hlt : m < mr
      · rw [if_pos hlt]
        refine wpS_bind (wpS_lift (wpAny_rule ⟨rfl, ?_⟩))
        have hle : m ≤ min n mr := Nat.le_min.mpr ⟨hm2, Nat.le_of_lt hlt⟩
        refine wpS_bind (binarySort_ok (lo := 0) W C (by rw [Nat.zero_add]; exact Nat.min_le_left _ _) hm1 hle (by rw [Nat.zero_add]; exact hB2) (by rw [Nat.zero_add]; exact hs2) fun ga3 st3 hB3 hs3 => ?_)
        rw [Nat.zero_add] at hB3 hs3
        refine wpS_bind (wpS_get ?_)
        have hb : (pendingOf st3).back? = none := by rw [hB3.pend]; rfl
        rw [hb]
        refine wpS_bind (wpS_modify (wpS_pure (.inr (.inl ⟨rfl, min n mr, ?_, one_of hmr.2 (Nat.le_trans hm1 hle) (Nat.min_le_left _ _) (Nat.le_refl _) hB3 hs3⟩))))
        rw [Nat.zero_add]
      · rw [if_neg hlt]
        refine wpS_bind (wpS_get ?_)
        have hb : (pendingOf st2).back? = none := by rw [hB2.pend]; rfl
        rw [hb]
        refine wpS_bind (wpS_modify (wpS_pure (.inr (.inl ⟨rfl, m, ?_, one_of hmr.2 hm1 hm2 (Nat.le_trans (Nat.min_le_right _ _) (Nat.le_of_not_lt hlt)) hB2 hs2⟩))))
        rw [Nat.zero_add]
    · dsimp only
      by_cases hge : n1 ≥ n
      · rw [if_pos hge]
        have e : n1 = n := Nat.le_antisymm hO.le hge
        subst e
        exact wpS_pure ⟨rfl, hO.cut⟩
      · rw [if_neg hge]
        have hlt : n1 < n := Nat.lt_of_not_le hge
        have hnn : n1 + (n - n1) = n := Nat.add_sub_cancel' hO.le
        obtain ⟨ga, hB, hs1, hb1⟩ := hO.ga
        refine wpS_bind (countRun_ok W C (Nat.le_of_eq hnn) (Nat.sub_pos_of_lt hlt) hB fun m ga' st2 hm1 hm2 hB2 hs2 => ?_)
        dsimp only
        have emin : min (n - n1) mr = n - n1 := Nat.min_eq_left hO.mr
        rw [emin]
        have tl : ∀ gb st3, Rg F kd n #[(0, n1, 0)] ga n1 n gb st3 → SrtR (Rk kl) gb n1 n → ∀ pw, Cut F kd n kl (setPending (setPending st3 #[(0, n1, pw)]) #[(0, n1, pw), (n1, n - n1, 0)]) :=
          fun gb st3 hB3 hs3 pw => two_cut hO.pos hlt hs1 hb1 hB3.setP.setP hs3
        by_cases hlt2 : m < mr
        · rw [if_pos hlt2]
          refine wpS_bind (wpS_lift (wpAny_rule ⟨rfl, ?_⟩))
          refine wpS_bind (binarySort_ok W C (Nat.le_of_eq hnn) hm1 hm2 hB2 hs2 fun gb st3 hB3 hs3 => ?_)
          rw [hnn] at hB3 hs3
          refine wpS_bind (wpS_get ?_)
          have hb : (pendingOf st3).back? = some (0, n1, 0) := by rw [hB3.pend]; rfl
          rw [hb]
          dsimp only
          refine wpS_bind (wpS_mono (wpS_forRange (I := fun _ c st'' => st'' = st3 ∧ c = (none, ())) (Q := fun c st'' => st'' = st3 ∧ c = (none, ())) ?_ (fun _ _ hh => hh) ⟨rfl, rfl⟩) ?_)
          · rintro x c st'' _ _ ⟨rfl, rfl⟩
            refine wpS_bind (wpS_get ?_)
            rw [hB3.pend]
            exact wpS_pure ⟨rfl, rfl⟩
          · rintro c st'' ⟨rfl, rfl⟩
            refine wpS_bind (wpS_modify (wpS_bind (wpS_modify (wpS_pure (.inr (.inr ⟨Nat.le_refl _, ?_, ?_⟩))))))
            · rw [hnn]
            · have e1 : ((pendingOf st'').modify ((pendingOf st'').size - 1) fun x => (x.1, x.2.1, power' n (2 * 0 + n1) (2 * 0 + n1 + n1 + (n - n1)) n)) = #[(0, n1, power' n (2 * 0 + n1) (2 * 0 + n1 + n1 + (n - n1)) n)] := by rw [hB3.pend]; rfl
              rw [e1]
              exact tl gb st'' hB3 hs3 (power' n (2 * 0 + n1) (2 * 0 + n1 + n1 + (n - n1)) n)
        · rw [if_neg hlt2]
          have em : m = n - n1 := Nat.le_antisymm hm2 (Nat.le_trans hO.mr (Nat.le_of_not_lt hlt2))
          subst em
          rw [hnn] at hB2 hs2
          refine wpS_bind (wpS_get ?_)
          have hb : (pendingOf st2).back? = some (0, n1, 0) := by rw [hB2.pend]; rfl
          rw [hb]
          dsimp only
          refine wpS_bind (wpS_mono (wpS_forRange (I := fun _ c st'' => st'' = st2 ∧ c = (none, ())) (Q := fun c st'' => st'' = st2 ∧ c = (none, ())) ?_ (fun _ _ hh => hh) ⟨rfl, rfl⟩) ?_)
          · rintro x c st'' _ _ ⟨rfl, rfl⟩
            refine wpS_bind (wpS_get ?_)
            rw [hB2.pend]
            exact wpS_pure ⟨rfl, rfl⟩
          · rintro c st'' ⟨rfl, rfl⟩
            refine wpS_bind (wpS_modify (wpS_bind (wpS_modify (wpS_pure (.inr (.inr ⟨Nat.le_refl _, ?_, ?_⟩))))))
            · rw [hnn]
            · have e1 : ((pendingOf st'').modify ((pendingOf st'').size - 1) fun x => (x.1, x.2.1, power' n (2 * 0 + n1) (2 * 0 + n1 + n1 + (n - n1)) n)) = #[(0, n1, power' n (2 * 0 + n1) (2 * 0 + n1 + n1 + (n - n1)) n)] := by rw [hB2.pend]; rfl
              rw [e1]
              exact tl ga' st'' hB2 hs2 (power' n (2 * 0 + n1) (2 * 0 + n1 + n1 + (n - n1)) n)
    · dsimp only
      rw [if_pos (Nat.le_refl _)]
      exact wpS_pure ⟨rfl, hD⟩
  case post =>
    rintro c st' ⟨rfl, X, Y, pw, h1, h3, h4, h5, h6, h7, h8, h9, h10⟩
    dsimp only
    rcases h10 with ⟨rfl, hp'⟩ | ⟨hY, hp'⟩
    · refine wpS_bind (wpS_mono (wpS_forRange (I := fun _ c st'' => st'' = st' ∧ c = (none, ())) (Q := fun c st'' => st'' = st' ∧ c = (none, ())) ?_ (fun _ _ hh => hh) ⟨rfl, rfl⟩) ?_)
      · rintro x c st'' _ _ ⟨rfl, rfl⟩
        refine wpS_bind (wpS_get ?_)
        rw [if_pos (by rw [hp']; exact Nat.le_refl 1)]
        exact wpS_pure ⟨rfl, rfl⟩
      · rintro c st'' ⟨rfl, rfl⟩
        rw [List.append_nil] at h1 h5
        exact wpS_pure (h _ ⟨h4, X, h1, h5, h6⟩)
    · have bn : ∀ p ∈ X ++ Y, p < n := fun p hp => List.mem_range.mp (h5.mem_iff.mp hp)
      refine wpS_bind (wpS_mono (wpS_forRange (I := fun x c st'' => c = (none, ()) ∧ ((x = 0 ∧ st'' = st') ∨ (1 ≤ x ∧ SDn F n kl st'' ∧ pendingOf st'' = #[(0, X.length + Y.length, pw)])))
        (Q := fun c st'' => c = (none, ()) ∧ SDn F n kl st'') ?_ ?_ ⟨rfl, .inl ⟨rfl, rfl⟩⟩) ?_)
      · rintro x c st'' _ _ ⟨rfl, ⟨rfl, rfl⟩ | ⟨hx, hD, hp2⟩⟩
        · refine wpS_bind (wpS_get ?_)
          rw [hp']
          refine wpS_bind (mergeAt_ok W C h3 h1 h4 hp' h6 h7 h8 bn h9 hY fun L st3 a b c d => ?_)
          exact wpS_pure ⟨rfl, .inr ⟨Nat.le_refl _, ⟨c, L, a, b.1.trans h5, b.2⟩, d⟩⟩
        · refine wpS_bind (wpS_get ?_)
          rw [if_pos (by rw [hp2]; exact Nat.le_refl 1)]
          exact wpS_pure ⟨rfl, hD⟩
      · rintro c st'' ⟨hc, ⟨hx, _⟩ | ⟨_, hD, _⟩⟩
        · rw [Nat.max_eq_right (Nat.zero_le _)] at hx; exact absurd (hx ▸ h2) (by decide)
        · exact ⟨hc, hD⟩
      · rintro c st'' ⟨rfl, hD⟩
        exact wpS_pure (h _ hD)
end
end Mine
namespace Mine
open PySem PyProof.Rows

section
variable {prog : Program} {w : World} {A : Around} {E : Value → Shared → Prop} {s : Shared}

theorem wk_int (f : Nat → Int) : Wk fun p q => decide (f p < f q) :=
  ⟨fun p => decide_eq_false (Int.lt_irrefl _), fun h1 h2 => decide_eq_true (Int.lt_trans (of_decide_eq_true h1) (of_decide_eq_true h2)),
   fun h1 h2 => decide_eq_false (Int.not_lt.mpr (Int.le_trans (Int.not_lt.mp (of_decide_eq_false h2)) (Int.not_lt.mp (of_decide_eq_false h1))))⟩
noncomputable def pairF (vs : List Value) (p : Nat) : Keyed := (vs.getD p .none, vs.getD p .none)
theorem zip_tag (vs : List Value) : vs.toArray.zip vs.toArray = (Array.range vs.length).map (pairF vs) := by
  apply Array.ext'
  rw [Array.toList_zip, Array.toList_map, Array.toList_range]
  apply List.ext_getElem
  · simp
  · intro i h1 h2
    have hi : i < vs.length := by simpa using h2
    simp [pairF, List.getD_eq_getElem?_getD, hi]
theorem ints_at {vs : List Value} {ns : List Int} (hI : IntsAre vs ns) {p : Nat} (hp : p < vs.length) : ∃ t, vs.getD p .none = .int (ns.getD p 0) t := by
  have e : vs[p]? = some vs[p] := List.getElem?_eq_getElem hp
  obtain ⟨t, h⟩ := hI.int_at p _ e
  exact ⟨t, by rw [List.getD_eq_getElem?_getD, e]; exact h⟩
theorem cmp_ints {vs : List Value} {ns : List Int} (hI : IntsAre vs ns) : Cmp (model prog w) A E s oneType' (pairF vs) vs.length fun p q => decide (ns.getD p 0 < ns.getD q 0) := fun st p q hk hp hq Q h => by
  obtain ⟨t, e1⟩ := ints_at hI hp
  obtain ⟨u, e2⟩ := ints_at hI hq
  rw [lt'_eq]
  refine wpS_bind (wpS_get ?_)
  rw [hk, keyLt'_oneType]
  unfold pairF
  rw [e1, e2]
  exact wpS_bind (wpS_lift (wpAny_attempt (oneLt_int ⟨rfl, wpS_pure h⟩)))
theorem map_range_getD {ns : List Int} : (List.range ns.length).map (fun p => ns.getD p 0) = ns := by
  apply List.ext_getElem
  · simp
  · intro i h1 h2
    rw [List.getElem_map, List.getElem_range, List.getElem_eq_getD 0]
theorem sorted_fin {vs : List Value} {ns : List Int} (hI : IntsAre vs ns) {L : List Nat} (hp : L.Perm (List.range vs.length)) (hs : L.Pairwise (Rk fun p q => decide (ns.getD p 0 < ns.getD q 0))) :
    ∃ ns', IntsAre ((tag (pairF vs) L).map (·.2)).toList ns' ∧ ns'.Perm ns ∧ ns'.Pairwise (· ≤ ·) := by
  refine ⟨L.map fun p => ns.getD p 0, ?_, ?_, ?_⟩
  · have hb : ∀ p ∈ L, p < vs.length := fun p h => List.mem_range.mp (hp.mem_iff.mp h)
    have e : ((tag (pairF vs) L).map (·.2)).toList = L.map fun p => vs.getD p .none := by
      rw [Array.toList_map]; unfold tag; rw [List.map_map]; rfl
    rw [e]
    clear e hs hp
    induction L with
    | nil => exact .nil
    | cons p L ih =>
      obtain ⟨t, e⟩ := ints_at hI (hb p List.mem_cons_self)
      rw [List.map_cons, List.map_cons, e]
      exact .cons _ t (ih fun q hq => hb q (List.mem_cons_of_mem _ hq))
  · have := hp.map fun p => ns.getD p 0
    rwa [hI.length, map_range_getD] at this
  · refine List.pairwise_map.mpr (hs.imp fun h => ?_)
    exact Int.not_lt.mp (of_decide_eq_false (h.le (wk_int _)))

theorem list_sort_ints {a : Addr} {vs : List Value} {ns : List Int} {n : Nat} {P : Fin → Shared → Prop} (ho : s.heap.get? a = some (seqObj "list" vs.toArray n))
    (hI : IntsAre vs ns) (h128 : vs.length < 128)
    (h : ∀ (out : Array Value) (ns' : List Int), IntsAre out.toList ns' → ns'.Perm ns → ns'.Pairwise (· ≤ ·) → P (.done (.ret .none)) { s with heap := sortedHeap s.heap a vs out }) :
    wpAny (model prog w) A (Builtin.«list.sort» ⟨[.ref a], []⟩) P E s := by
  rw [list_sort_plain]
  have ha : a < s.heap.objs.size := Heap.lt_size ho
  refine wpAny_bind (listItems_at ho rfl (wpAny_bind (listUpdate_at ho rfl ?_)))
  obtain ⟨e1, ho1⟩ : ∃ e1, (s.heap.update a (Obj.mapSeq fun _ => #[])).get? a = some (seqObj "list" #[] e1) := ⟨_, get?_update_seq ho (fun _ => #[])⟩
  refine wpAny_bind (seqEpoch_at ho1 rfl (wpAny_bind (wpAny_newTuple (wpAny_bind (wpAny_newList (wpAny_holding ?_))))))
  unfold sortedHeap at h
  have hsz0 : (s.heap.update a (Obj.mapSeq fun _ => #[])).objs.size = s.heap.objs.size := Heap.size_update ..
  generalize s.heap.update a (Obj.mapSeq fun _ => #[]) = h1 at ho1 hsz0 h ⊢
  have ho6 : ((h1.push (seqObj "tuple" vs.toArray 0)).push (seqObj "list" #[] 0)).get? a = some (seqObj "list" #[] e1) := Heap.get?_push_of_some _ (Heap.get?_push_of_some _ ho1)
  show wpAny (model prog w) A _ P E { s with heap := (h1.push (seqObj "tuple" vs.toArray 0)).push (seqObj "list" #[] 0) }
  generalize (h1.push (seqObj "tuple" vs.toArray 0)).push (seqObj "list" #[] 0) = h2 at ho6 h ⊢
  have fin : ∀ L : List Nat, L.Perm (List.range vs.length) → L.Pairwise (Rk fun p q => decide (ns.getD p 0 < ns.getD q 0)) → ∀ st' : SortSt, failedOf st' = none → arrOf st' = tag (pairF vs) L →
      wpAny (model prog w) A (do
        let touched := (← seqEpoch a) != e1
        Builtin.List.listUpdate (.ref a) fun _ => (arrOf st').map (·.2)
        if let some e := failedOf st' then rule "list.sort.comparison-raised"; throw e
        if touched then rule "list.sort.modified"; raiseError "ValueError" "list modified during sort"
        ret .none) P E { s with heap := h2 } := fun L hp hs st' hf ha => by
    obtain ⟨ns', g1, g2, g3⟩ := sorted_fin hI hp hs
    rw [hf, ha]
    refine wpAny_bind (seqEpoch_at (s := { s with heap := h2 }) ho6 rfl (wpAny_bind (listUpdate_at (s := { s with heap := h2 }) ho6 rfl ?_ (hsz2 := ?_))))
    · simp only [bne_self_eq_false, Bool.false_eq_true, if_false]
      exact wpAny_pure (h _ ns' g1 g2 g3)
    · rw [Array.size_map, tag_size, hp.length_eq, List.length_range, sizeLine_eq]; omega
  dsimp only
  by_cases h2' : vs.toArray.size < 2
  · rw [if_pos h2', if_pos h2']
    refine wpAny_bind (wpAny_pure ?_)
    rw [StateT.run_pure]
    refine wpAny_bind (wpAny_pure (fin (List.range vs.length) (List.Perm.refl _) ?_ _ rfl ?_))
    · rw [List.size_toArray] at h2'
      match vs.length, h2' with
      | 0, _ => exact .nil
      | 1, _ => exact List.pairwise_singleton _ _
    · show vs.toArray.zip vs.toArray = _
      rw [zip_tag, toList_map, Array.toList_range]
  · rw [if_neg h2', if_neg h2']
    have hsz : vs.toArray.size = vs.length := List.size_toArray ..
    obtain ⟨v₁, v₂, rest, rfl⟩ : ∃ v₁ v₂ rest, vs = v₁ :: v₂ :: rest := by
      match vs, hsz, h2' with
      | [], _, h2 => simp at h2
      | [_], _, h2 => simp at h2
      | v₁ :: v₂ :: rest, _, _ => exact ⟨v₁, v₂, rest, rfl⟩
    rw [keyKind_ints hI]
    refine wpAny_bind (wpAny_pure (wpAny_bind (wpAny_mono (sortRuns_ok (Q := fun _ st' => SDn (pairF (v₁ :: v₂ :: rest)) (v₁ :: v₂ :: rest).length _ st') (wk_int fun p => ns.getD p 0) (cmp_ints hI) (Nat.le_add_left 2 rest.length) h128
      (zip_tag _) rfl rfl rfl fun st' q => q) ?_ fun _ _ e => e)))
    rintro ⟨⟨⟩, st'⟩ s' ⟨rfl, hf, L, g1, g2, g3⟩
    exact fin L g2 g3 st' hf g1
end
end Mine
namespace Mine
open PySem PyProof.Rows

section
variable {prog : Program} {w : World} {A : Around} {E : Value → Shared → Prop} {s : Shared}

theorem sorted_setI {a : Addr} {es : Array (Int × Value)} {Q : Value → Shared → Prop} (hh : A.handled = none) (hS : SetI (byText w) s.heap a es) (hz : es.size < 128)
    (h : ∀ h' tk dw L c (out : Array Value) ns', (∀ b o, s.heap.get? b = some o → h'.get? b = some o) → (∀ b o, s.heap.get? b = some o → @LT.lt Nat _ b L) → h'.get? L = some (lstO out c) → IntsAre out.toList ns' → ns'.Perm (keysIn es) → ns'.Pairwise (· ≤ ·) →
      Q (.ref L) { s with heap := h', toks := tk, drawn := dw }) : wpAny (model prog w) A (call (.builtin "sorted") [.ref a]) Q E s := by
  refine Calls.call_function_entry kind_sorted plain_sorted entry_sorted (args_sorted1 _) ?_
  unfold Builtin.«sorted»
  refine wpAny_bind (m := checkCount "sorted" 1 1 _) (wpAny_pure ?_)
  refine wpAny_bind (collect_setI (A := A.in1) hh hS (Nat.lt_trans hz (by decide)) fun h₁ tk dw xs hk hp => ?_)
  have hI : IntsAre xs (xs.map numOf) := intsAre_map xs fun v hv => by
    obtain ⟨e, he, rfl⟩ := List.mem_map.mp (hp.mem_iff.mp hv)
    obtain ⟨k, tok, rfl⟩ := hS.el e he
    exact ⟨k, tok, rfl⟩
  have hpn : (xs.map numOf).Perm (keysIn es) := by
    have := hp.map numOf
    rwa [List.map_map] at this
  have hlen : xs.length < 128 := by rw [hp.length_eq, List.length_map, Array.length_toList]; exact hz
  refine wpAny_bind (wpAny_newList ?_ (by rw [sizeLine_eq]; exact Nat.le_trans (Nat.le_of_lt hlen) (by decide)))
  have hoL : (h₁.push (seqObj "list" xs.toArray 0)).get? h₁.objs.size = some (seqObj "list" xs.toArray 0) := Heap.get?_push_size _ rfl
  refine wpAny_bind (wpAny_holding (wpAny_call_entry slot_list_sort ⟨_, hoL, rfl⟩ entry_list_sort (list_sort_ints hoL hI hlen fun out ns' a1 a2 a3 => ⟨_, rfl, ?_⟩) (args_list_sort _)))
  obtain ⟨c, hc⟩ := sortedHeap_at (out := out) (vs := xs) hoL
  refine wpAny_pure ⟨_, rfl, h _ tk dw h₁.objs.size c out ns' (fun b o e => ?_) (fun b o e => Heap.lt_size (hk b o e)) hc a1 (a2.trans hpn) a3⟩
  · have hb := Heap.lt_size (hk b o e)
    have hb' : b < (h₁.push (seqObj "list" xs.toArray 0)).objs.size := by rw [size_push']; exact Nat.lt_succ_of_lt hb
    rw [sortedHeap_old (Nat.ne_of_lt hb) hb']
    exact Heap.get?_push_of_some _ (hk b o e)
end
end Mine
namespace Mine
open PySem PySem.SeqAt

theorem insU_mem (x z : Int) : ∀ l, z ∈ insU x l ↔ z = x ∨ z ∈ l
  | [] => List.mem_singleton.trans ⟨.inl, fun h => h.elim id fun h => nomatch h⟩
  | y :: l => by
    unfold insU
    split
    · exact List.mem_cons
    · split
      · next h => subst h; exact ⟨.inr, fun h => h.elim (fun h => h ▸ List.mem_cons_self) id⟩
      · rw [List.mem_cons, insU_mem x z l, List.mem_cons]
        exact ⟨fun h => h.elim (fun h => .inr (.inl h)) fun h => h.elim .inl fun h => .inr (.inr h), fun h => h.elim (fun h => .inr (.inl h)) fun h => h.elim .inl fun h => .inr (.inr h)⟩
theorem insU_srt (x : Int) : ∀ {l : List Int}, l.Pairwise (· < ·) → (insU x l).Pairwise (· < ·)
  | [], _ => List.pairwise_singleton _ _
  | y :: l, h => by
    have h' := List.pairwise_cons.mp h
    unfold insU
    split
    · next hl => exact List.pairwise_cons.mpr ⟨fun z hz => (List.mem_cons.mp hz).elim (fun e => e ▸ hl) fun hz => Int.lt_trans hl (h'.1 z hz), h⟩
    · split
      · exact h
      · next h1 h2 => exact List.pairwise_cons.mpr ⟨fun z hz => ((insU_mem x z l).mp hz).elim (fun e => e ▸ Int.lt_iff_le_and_ne.mpr ⟨Int.not_lt.mp h1, Ne.symm h2⟩) (h'.1 z), insU_srt x h'.2⟩
theorem usort_srt : ∀ ns : List Int, (usort ns).Pairwise (· < ·)
  | [] => .nil
  | x :: ns => insU_srt x (usort_srt ns)
theorem usort_mem (z : Int) : ∀ ns : List Int, z ∈ usort ns ↔ z ∈ ns
  | [] => Iff.rfl
  | x :: ns => by
    show z ∈ insU x (usort ns) ↔ _
    rw [insU_mem, usort_mem z ns, List.mem_cons]
theorem len_le : ∀ {l m : List Int}, l.Nodup → (∀ z ∈ l, z ∈ m) → l.length ≤ m.length
  | [], _, _, _ => Nat.zero_le _
  | x :: l, m, hn, h => by
    have hn' := List.nodup_cons.mp hn
    have hx : x ∈ m := h x List.mem_cons_self
    have ih := len_le (m := m.erase x) hn'.2 fun z hz => (List.mem_erase_of_ne (fun e : z = x => hn'.1 (e ▸ hz))).mpr (h z (List.mem_cons_of_mem _ hz))
    rw [List.length_erase_of_mem hx] at ih
    exact Nat.le_trans (Nat.succ_le_succ ih) (Nat.le_of_eq (Nat.sub_add_cancel (List.length_pos_of_mem hx)))
theorem srt_uniq : ∀ {l m : List Int}, l.Pairwise (· < ·) → m.Pairwise (· < ·) → (∀ z, z ∈ l ↔ z ∈ m) → l = m
  | [], [], _, _, _ => rfl
  | [], y :: m, _, _, h => absurd ((h y).mpr List.mem_cons_self) List.not_mem_nil
  | x :: l, [], _, _, h => absurd ((h x).mp List.mem_cons_self) List.not_mem_nil
  | x :: l, y :: m, hl, hm, h => by
    have hl' := List.pairwise_cons.mp hl
    have hm' := List.pairwise_cons.mp hm
    have e : x = y := by
      rcases List.mem_cons.mp ((h x).mp List.mem_cons_self) with e | h1
      · exact e
      · rcases List.mem_cons.mp ((h y).mpr List.mem_cons_self) with e | h2
        · exact e.symm
        · exact absurd (Int.lt_trans (hl'.1 y h2) (hm'.1 x h1)) (Int.lt_irrefl _)
    subst e
    rw [srt_uniq hl'.2 hm'.2 fun z => ?_]
    constructor
    · intro hz
      rcases List.mem_cons.mp ((h z).mp (List.mem_cons_of_mem _ hz)) with e | hz'
      · exact absurd (hl'.1 z hz) (e ▸ Int.lt_irrefl _)
      · exact hz'
    · intro hz
      rcases List.mem_cons.mp ((h z).mpr (List.mem_cons_of_mem _ hz)) with e | hz'
      · exact absurd (hm'.1 z hz) (e ▸ Int.lt_irrefl _)
      · exact hz'

section
variable {prog : Program} {w : World} {A : Around} {E : Value → Shared → Prop} {s : Shared} {H : Addr → Prop}
theorem intsD_at : ∀ {ds : List D} {ns : List Int} {vs : List Value}, intsD ds = some ns → RepAll w.params s.heap H vs ds → vs.length = ns.length ∧ ∀ (i : Nat) (v : Value), vs[i]? = some v → ∃ (k : Int) (t : Tok), ns[i]? = some k ∧ v = Value.int k t
  | [], ns, vs, h, hr => by
    cases hr; cases h
    exact ⟨rfl, fun i v e => by simp at e⟩
  | d :: ds, ns, vs, h, hr => by
    cases hr with
    | cons hv hr =>
      cases hv <;> first | (cases h; done) | skip
      rename_i k t
      rw [show intsD (.int k :: ds) = (intsD ds).map (k :: ·) from rfl, Option.map_eq_some_iff] at h
      obtain ⟨ns', h, rfl⟩ := h
      obtain ⟨h1, h2⟩ := intsD_at h hr
      refine ⟨congrArg Nat.succ h1, fun i v e => ?_⟩
      cases i with
      | zero => cases e; exact ⟨k, t, rfl, rfl⟩
      | succ i => exact h2 i v e
theorem ints_reps {h : Heap} {P : Params} : ∀ {vs : List Value} {ns : List Int}, PyProof.Rows.IntsAre vs ns → RepAll P h H vs (ns.map .int)
  | _, _, .nil => .nil
  | _, _, .cons n t hr => .cons (.int n t) (ints_reps hr)
theorem sset_snd {x : Value} {a d : D} (hh : A.handled = none) (hx : Rep w.params s.heap H x a) (hH : Ex s.heap H) (he : ssetD a = some d) :
    wpAny (model prog w) A (call (.type "set") [x]) (fun v s' => wpAny (model prog w) A (call (.builtin "sorted") [v]) (PostF w s H d true) E s') E s := by
  cases a <;> first | (cases he; done) | skip
  rename_i ds
  cases hx with
  | list ho hn hl hr =>
    rename_i l vs n
    rw [show ssetD (.list ds) = (if ds.length < 127 then (intsD ds).map fun ns => .list ((usort ns).map .int) else Option.none) from rfl] at he
    split at he
    · next hlen =>
      rw [Option.map_eq_some_iff] at he
      obtain ⟨ns, hns, rfl⟩ := he
      obtain ⟨e1, e2⟩ := intsD_at hns hr
      rw [Array.length_toList] at e1
      have hvl : vs.size < 127 := by have := hr.length; rw [Array.length_toList] at this; rw [this]; exact hlen
      refine call_setI (ns := ns) hh ho (fun i v e => e2 i v (by rw [Array.getElem?_toList]; exact e)) e1.symm (Nat.lt_trans (Nat.succ_lt_succ hvl) (by decide)) fun h' tk es hk hS hm => ?_
      have hes : es.size < 128 := by
        have h1 : (keysIn es).length ≤ ns.length := len_le hS.nod fun z hz => (hm z).mp hz
        unfold keysIn at h1
        rw [List.length_map, Array.length_toList, ← e1] at h1
        exact Nat.lt_of_le_of_lt h1 (Nat.lt_succ_of_lt hvl)
      refine sorted_setI (s := { s with heap := h', toks := tk }) hh hS hes fun h₂ tk₂ dw L c out ns' hk₂ hL hoL hI hp hs => ?_
      have hsrt : ns'.Pairwise (· < ·) := by
        have hnd : ns'.Nodup := hp.nodup_iff.mpr hS.nod
        exact (hs.and hnd).imp fun h => Int.lt_iff_le_and_ne.mpr h
      have eN : ns' = usort ns := srt_uniq hsrt (usort_srt ns) fun z => by rw [hp.mem_iff, hm z, usort_mem]
      subst eN
      have hlen' : ((usort ns).map D.int).length ≤ big := by
        rw [List.length_map, hp.length_eq]
        unfold keysIn
        rw [List.length_map, Array.length_toList]
        exact Nat.le_trans (Nat.le_of_lt hes) (by decide)
      have hnone : s.heap.get? L = Option.none := by
        cases e : s.heap.get? L with
        | none => rfl
        | some o => exact absurd (hL L o (hk _ _ e)) (Nat.lt_irrefl _)
      have own : OwnL w.params h₂ H L ((usort ns).map .int) := ⟨out, c, hoL, hlen', ints_reps hI⟩
      have hnH : ¬ H L := fun q => by
        obtain ⟨b, o, h1, h2⟩ := hH L q
        exact absurd (hL b o (hk b o h2)) (Nat.not_lt_of_le h1)
      exact ⟨⟨h₂, tk₂, dw, rfl, fun b o e => hk₂ b o (hk b o e)⟩, own.rep hnH, fun _ => ⟨L, rfl, hnone, own⟩⟩
    · cases he
end
section
variable {prog : Program} {w : World} {A : Around} {s : Shared} {base : Heap} {mg mb : Str → Option Value} {cf : CF}
theorem sf_sset (G : GOk mg mb base) (hh : A.handled = none) {a : ME} (ha : SE prog w A base cf a) : SF prog w A base cf (.sset a) := by
  intro s env e H ρ m d fr E hc R hw hn he
  replace hc := inv_sset hc; obtain ⟨g, gp, y, gp2, x, p, pos, rfl, hg, hy, hx⟩ := hc
  simp only [Bool.and_eq_true, beq_iff_eq, isGlob, bne_iff_ne] at hg hy
  obtain ⟨rfl, hk, hd⟩ := hg
  obtain ⟨rfl, hk2, hd2⟩ := hy
  simp only [evF_sset, ev_sset, Option.map_eq_some_iff] at he
  obtain ⟨d', he, e'⟩ := he
  cases e'
  split at he
  · rename_i dx hdx
    have hc2 : chkEs env.kindOf [x] [a] = true := by rw [cs_cons, hx]; rfl
    have hc1 : chkEs env.kindOf [.Call (.Name (Str.ofString "set") gp2) [x] [] p] [.blt "set" [a]] = true := by
      have h2 : chkE env.kindOf (.Call (.Name (Str.ofString "set") gp2) [x] [] p) (.blt "set" [a]) = true := by
        show (Str.ofString "set" == Str.ofString "set" && (env.kindOf (Str.ofString "set") == some .globalImplicit && Str.ofString "set" != Str.ofString "__debug__") && chkEs env.kindOf [x] [a]) = true
        rw [hk2, hc2]; decide
      rw [cs_cons, h2]; rfl
    refine PyProof.Rows.Call_Name rfl (name_blt G (f := "sorted") (by decide) R hw hk hd (callWith_blt hc1 (Calls.spliced_cons ?_)))
    refine PyProof.Rows.Call_Name rfl (name_blt G (f := "set") (by decide) R hw hk2 hd2 (callWith_blt hc2 (Calls.spliced_cons ?_)))
    refine wpAny_mono (ha s env x H ρ m dx E hx R hw hn hdx) (fun v s₁ q₁ => Calls.spliced_nil ?_) fun _ _ e => e
    refine wpAny_mono (sset_snd hh q₁.2 (hw.keeps (Kp.heap q₁.1)).ex he) (fun u s₂ q₂ => Calls.spliced_nil ?_) fun _ _ e => e
    exact wpAny_mono q₂ (fun v s₃ q₃ => q₃.after q₁.1) fun _ _ e => e
  · cases he
end
end Mine
namespace Mine
open PySem PySem.SeqAt

section
variable {prog : Program} {w : World} {A : Around} {s : Shared} {base : Heap} {mg mb : Str → Option Value} {cf : CF}

theorem st_plain {me : ME} (h : SE prog w A base cf me) (hp : ∀ e k env whole, chkE k e me = true → isTrue e env whole = (do let v ← whole; standAt e.pos; holding [v] (truthy v))) : ST prog w A base cf me := by
  intro s env e H ρ m d t E hc R hw hn he ht
  refine PyProof.Rows.isTrue_plain (wpAny_mono (h s env e H ρ m d E hc R hw hn he) (fun v s₁ q₁ => ?_) fun _ _ e => e) (hp e _ env _ hc)
  exact wpAny_mono (truth_snd q₁.2 ht) (fun b s₂ q₂ => ⟨Kp.trans q₁.1 q₂.1, q₂.2⟩) fun _ _ e => e

theorem sb_nil : SB prog w A base cf [] := by
  intro s env es op pos H ρ m d E hc R hw hn he
  simp only [evBop] at he; cases he

theorem sb_one {a : ME} (ha : SE prog w A base cf a) (ta : ST prog w A base cf a) : SB prog w A base cf [a] := by
  intro s env es op pos H ρ m d E hc R hw hn he
  cases es with
  | nil => simp [cs_nil, cs_cons, cs_consn] at hc
  | cons e es' =>
    simp only [cs_nil, cs_cons, cs_consn, Bool.and_eq_true, List.isEmpty_iff] at hc
    obtain ⟨hc, rfl⟩ := hc
    simp only [evBop] at he
    have hn' := hn.sub (ns' := a.names) fun _ hx => List.mem_append_left _ hx
    refine ⟨PyProof.Rows.BoolOp_one (ha s env e H ρ m d E hc R hw hn' he), fun t whole ht => ?_⟩
    cases op with
    | And =>
      refine PyProof.Rows.isTrue_and (wpAny_mono (ta s env e H ρ m d t E hc R hw hn' he ht) (fun b s₁ q₁ => ?_) fun _ _ e => e)
      cases b with
      | true => exact PyProof.Rows.isTrue_and_nil ⟨q₁.1, q₁.2⟩
      | false => exact ⟨q₁.1, q₁.2⟩
    | Or =>
      refine PyProof.Rows.isTrue_or (wpAny_mono (ta s env e H ρ m d t E hc R hw hn' he ht) (fun b s₁ q₁ => ?_) fun _ _ e => e)
      cases b with
      | true => exact ⟨q₁.1, q₁.2⟩
      | false => exact PyProof.Rows.isTrue_or_nil ⟨q₁.1, q₁.2⟩

theorem sb_cons {a b : ME} {r : List ME} (ha : SE prog w A base cf a) (ta : ST prog w A base cf a) (hr : SB prog w A base cf (b :: r)) : SB prog w A base cf (a :: b :: r) := by
  intro s env es op pos H ρ m d E hc R hw hn he
  cases es with
  | nil => simp [cs_nil, cs_cons, cs_consn] at hc
  | cons e es' => cases es' with
    | nil => simp [cs_nil, cs_cons, cs_consn] at hc
    | cons e2 es' =>
      have hc' : chkE env.kindOf e a = true ∧ chkEs env.kindOf (e2 :: es') (b :: r) = true := by
        rw [chkEs] at hc; simpa using hc
      simp only [evBop] at he
      have hn1 := hn.sub (ns' := a.names) fun _ hx => List.mem_append_left _ hx
      have hn2 := hn.sub (ns' := namesL (b :: r)) fun _ hx => List.mem_append_right _ hx
      split at he
      · rename_i x hx
        split at he
        · rename_i t1 ht1
          have rest : ∀ s₁, Keeps s s₁ → evBop cf ρ op (b :: r) = some d → _ := fun s₁ (k : Keeps s s₁) (h : evBop cf ρ op (b :: r) = some d) =>
            hr s₁ env (e2 :: es') op pos H ρ m d E hc'.2 (R.keeps (Kp.heap k)) (hw.keeps (Kp.heap k)) (hn2.keeps (Kp.heap k)) h
          refine ⟨?_, fun t whole ht => ?_⟩
          · cases op with
            | And =>
              refine PyProof.Rows.BoolOp_and (wpAny_mono (ha s env e H ρ m x E hc'.1 R hw hn1 hx) (fun v s₁ q₁ => ?_) fun _ _ e => e)
              refine wpAny_mono (truth_snd q₁.2 ht1) (fun c s₂ q₂ => ?_) fun _ _ e => e
              obtain ⟨k2, rfl⟩ := q₂
              cases c with
              | true =>
                simp only [Bool.true_eq_false, if_false] at he
                exact wpAny_mono (rest s₂ (Kp.trans q₁.1 k2) he).1 (fun _ _ q => ⟨Kp.trans (Kp.trans q₁.1 k2) q.1, q.2⟩) fun _ _ e => e
              | false =>
                simp only [if_true] at he; cases he
                exact ⟨Kp.trans q₁.1 k2, q₁.2.keeps (Kp.heap k2)⟩
            | Or =>
              refine PyProof.Rows.BoolOp_or (wpAny_mono (ha s env e H ρ m x E hc'.1 R hw hn1 hx) (fun v s₁ q₁ => ?_) fun _ _ e => e)
              refine wpAny_mono (truth_snd q₁.2 ht1) (fun c s₂ q₂ => ?_) fun _ _ e => e
              obtain ⟨k2, rfl⟩ := q₂
              cases c with
              | false =>
                simp only [Bool.false_eq_true, if_false] at he
                exact wpAny_mono (rest s₂ (Kp.trans q₁.1 k2) he).1 (fun _ _ q => ⟨Kp.trans (Kp.trans q₁.1 k2) q.1, q.2⟩) fun _ _ e => e
              | true =>
                simp only [if_true] at he; cases he
                exact ⟨Kp.trans q₁.1 k2, q₁.2.keeps (Kp.heap k2)⟩
          · cases op with
            | And =>
              refine PyProof.Rows.isTrue_and (wpAny_mono (ta s env e H ρ m x t1 E hc'.1 R hw hn1 hx ht1) (fun c s₁ q₁ => ?_) fun _ _ e => e)
              obtain ⟨k1, rfl⟩ := q₁
              cases c with
              | true =>
                simp only [Bool.true_eq_false, if_false] at he
                exact wpAny_mono ((rest s₁ k1 he).2 t whole ht) (fun _ _ q => ⟨Kp.trans k1 q.1, q.2⟩) fun _ _ e => e
              | false =>
                simp only [if_true] at he; cases he
                rw [ht1] at ht; cases ht
                exact ⟨k1, rfl⟩
            | Or =>
              refine PyProof.Rows.isTrue_or (wpAny_mono (ta s env e H ρ m x t1 E hc'.1 R hw hn1 hx ht1) (fun c s₁ q₁ => ?_) fun _ _ e => e)
              obtain ⟨k1, rfl⟩ := q₁
              cases c with
              | false =>
                simp only [Bool.false_eq_true, if_false] at he
                exact wpAny_mono ((rest s₁ k1 he).2 t whole ht) (fun _ _ q => ⟨Kp.trans k1 q.1, q.2⟩) fun _ _ e => e
              | true =>
                simp only [if_true] at he; cases he
                rw [ht1] at ht; cases ht
                exact ⟨k1, rfl⟩
        · cases he
      · cases he

theorem se_bop {op : BoolOp} {ms : List ME} (h : SB prog w A base cf ms) : SE prog w A base cf (.bop op ms) := by
  intro s env e H ρ m d E hc R hw hn he
  replace hc := inv_bop hc; obtain ⟨_, _, _, rfl, hc⟩ := hc
  · simp only [Bool.and_eq_true, beq_iff_eq] at hc
    obtain ⟨rfl, hc⟩ := hc
    simp only [ev_var, ev_glob, ev_int, ev_str, ev_bool, ev_none, ev_bin, ev_cmp, ev_bop, ev_not, ev_neg, ev_tup, ev_lst, ev_dct, ev_sub, ev_sl, ev_comp, ev_call, ev_isi, ev_blt, ev_lcp] at he
    exact (h s env _ op _ H ρ m d E hc R hw hn he).1
theorem st_bop {op : BoolOp} {ms : List ME} (h : SB prog w A base cf ms) : ST prog w A base cf (.bop op ms) := by
  intro s env e H ρ m d t E hc R hw hn he ht
  replace hc := inv_bop hc; obtain ⟨_, _, _, rfl, hc⟩ := hc
  · simp only [Bool.and_eq_true, beq_iff_eq] at hc
    obtain ⟨rfl, hc⟩ := hc
    simp only [ev_var, ev_glob, ev_int, ev_str, ev_bool, ev_none, ev_bin, ev_cmp, ev_bop, ev_not, ev_neg, ev_tup, ev_lst, ev_dct, ev_sub, ev_sl, ev_comp, ev_call, ev_isi, ev_blt, ev_lcp] at he
    exact (h s env _ op _ H ρ m d E hc R hw hn he).2 t _ ht

theorem forIn_false {env : Env} {E : Value → Shared → Prop} {Q : Bool → Shared → Prop} : ∀ (es : List Expr), Q false s →
    wpAny (model prog w) A (forIn es false fun c r => if r = true then do let ok ← isTrue c env (eval c env); pure (ForInStep.yield ok) else pure (ForInStep.yield r)) Q E s
  | [], h => by rw [List.forIn_nil]; exact wpAny_pure h
  | c :: es, h => by
    rw [List.forIn_cons]
    simp only [Bool.false_eq_true, if_false, pure_bind]
    exact forIn_false es h

theorem sc_nil : SC prog w A base cf [] := by
  intro s env es H ρ m t E hc R hw hn he
  cases es with
  | nil => simp only [evc_nil, evc_cons] at he; cases he; rw [List.forIn_nil]; exact wpAny_pure ⟨Kp.refl _, rfl⟩
  | cons _ _ => simp [cs_nil, cs_cons, cs_consn] at hc
theorem sc_cons {a : ME} {r : List ME} (ta : ST prog w A base cf a) (hr : SC prog w A base cf r) : SC prog w A base cf (a :: r) := by
  intro s env es H ρ m t E hc R hw hn he
  cases es with
  | nil => simp [cs_nil, cs_cons, cs_consn] at hc
  | cons e es' =>
    simp only [cs_nil, cs_cons, cs_consn, Bool.and_eq_true] at hc
    simp only [evc_nil, evc_cons] at he
    split at he
    · rename_i x hx
      split at he
      · rename_i t1 ht1
        rw [List.forIn_cons]
        simp only [if_true, bind_assoc, pure_bind]
        refine wpAny_bind (wpAny_mono (ta s env e H ρ m x t1 E hc.1 R hw (hn.sub fun _ hx => List.mem_append_left _ hx) hx ht1) (fun b s₁ q₁ => ?_) fun _ _ e => e)
        obtain ⟨k1, rfl⟩ := q₁
        cases b with
        | true =>
          simp only [if_true] at he
          exact wpAny_mono (hr s₁ env es' H ρ m t E hc.2 (R.keeps (Kp.heap k1)) (hw.keeps (Kp.heap k1)) ((hn.sub fun _ hx => List.mem_append_right _ hx).keeps (Kp.heap k1)) he) (fun _ _ q => ⟨Kp.trans k1 q.1, q.2⟩) fun _ _ e => e
        | false =>
          simp only [Bool.false_eq_true, if_false] at he; cases he
          exact forIn_false es' ⟨k1, rfl⟩
      · cases he
    · cases he

/-- a comprehension's element, in its own block -/
theorem comp_inner {env cenv : Env} {m mC : Str → Option Value} {scope : Scope} {x : String} {ns : List String} {ρ : List (String × D)} {s₂ : Shared} {H H₂ : Addr → Prop} {v : Value} {dv : D} (hok : okScope env.kindOf scope (Str.ofString x) = true)
    (hk : cenv.kindOf = kindC env.kindOf scope) (hv : mC (Str.ofString x) = some v) (rv : Rep w.params s₂.heap H₂ v dv) (hfv : ∀ z, scope.names.lookup z = some .free → mC z = m z) (kp : Keeps s s₂) (hsub : ∀ a o, s.heap.get? a = some o → H₂ a → H a)
    (hn : NV w.params env.kindOf (ns.filter (· != x)) ρ m s.heap H) : NV w.params cenv.kindOf ns ((x, dv) :: ρ) mC s₂.heap H₂ := by
  intro z hz hvar d hd
  rw [List.lookup_cons] at hd
  by_cases hzx : z = x
  · subst hzx
    simp only [beq_self_eq_true] at hd
    cases hd
    exact ⟨v, hv, rv⟩
  · have hb : (z == x) = false := by simpa using hzx
    rw [hb] at hd
    unfold okScope at hok
    simp only [Bool.and_eq_true, decide_eq_true_eq, beq_iff_eq, List.all_eq_true, Bool.or_eq_true] at hok
    obtain ⟨⟨⟨⟨_, hnodup⟩, _⟩, hfree⟩, hall⟩ := hok
    have hvar' := hvar
    unfold isVar at hvar
    simp only [Bool.and_eq_true, Bool.or_eq_true, beq_iff_eq, bne_iff_ne] at hvar
    obtain ⟨⟨⟨hkz, hd1⟩, hd2⟩, hd3⟩ := hvar
    rw [hk, kindC_eq] at hkz
    have hfr : scope.names.lookup (Str.ofString z) = some .free := by
      cases hq : scope.names.lookup (Str.ofString z) with
      | none => rw [hq] at hkz; simp at hkz
      | some k =>
        have := hall _ (mem_of_lookup hq)
        simp only at this
        rcases this with ((e | e) | e) | e
        · rw [e]
        · rw [hq, e] at hkz; simp at hkz
        · exact absurd (ofString_inj e) hzx
        · exact absurd e hd3
    have hok2 := hfree _ (mem_of_lookup hfr)
    simp only [bne_self_eq_false, Bool.false_eq_true, false_or] at hok2
    obtain ⟨v', h1, h2⟩ := hn z (by simp [hz, hzx]) (by
      unfold isVar
      simp only [Bool.and_eq_true, Bool.or_eq_true, beq_iff_eq, bne_iff_ne]
      exact ⟨⟨⟨hok2.elim (fun e => .inl (.inr e)) .inr, hd1⟩, hd2⟩, hd3⟩) d hd
    exact ⟨v', (hfv _ hfr).trans h1, h2.mono (fun a o _ e => Kp.heap kp a o e) hsub⟩

theorem comp_snd {elt src : ME} {x : String} {cs : List ME} (hh : A.handled = none) (he : SE prog w A base cf elt) (hs : SE prog w A base cf src) (hcs : SC prog w A base cf cs)
    {s : Shared} {env : Env} {H : Addr → Prop} {ρ : List (String × D)} {m : Str → Option Value} {d : D} {E : Value → Shared → Prop} {t it : Expr} {y : Str} {py pos ppos : Pos} {ifs : List Expr} {scope : Scope} {use : Option (Value → Sem Unit)} {Q : Value → Shared → Prop}
    (hc : chkE env.kindOf (.ListComp t [⟨.Name y py, it, ifs, 0⟩] scope pos) (.comp elt x src cs) = true) (R : EnvRep s.heap env m) (hw : HOk base s.heap H) (hn : NV w.params env.kindOf (ME.comp elt x src cs).names ρ m s.heap H)
    (hev : evE cf ρ (.comp elt x src cs) = some d)
    (hQ : ∀ L C h' tk dw m' out, d = .list out → (∀ b o, s.heap.get? b = some o → @LT.lt Nat _ b L) → s.heap.get? C = none → L ≠ C → h'.Ns C m' → OwnL w.params h' (fun b => H b ∨ b = C) L out → (∀ b o, s.heap.get? b = some o → h'.get? b = some o) →
      compPost (model prog w) A E use Q (.ref L) C (.ok .next) { s with heap := h', toks := tk, drawn := dw }) :
    wpAny (model prog w) A (comprehension (.ListComp t [⟨.Name y py, it, ifs, 0⟩] scope pos) scope env ppos (newList []) false (eval it env) use) Q E s := by
  replace hc : (y == Str.ofString x && notSet it && okScope env.kindOf scope y && chkE env.kindOf it src && chkE (kindC env.kindOf scope) t elt && chkEs (kindC env.kindOf scope) ifs cs) = true := hc
  simp only [Bool.and_eq_true, beq_iff_eq] at hc
  obtain ⟨⟨⟨⟨⟨rfl, hset⟩, hok⟩, hcsrc⟩, hcelt⟩, hcifs⟩ := hc
  simp only [ev_var, ev_glob, ev_int, ev_str, ev_bool, ev_none, ev_bin, ev_cmp, ev_bop, ev_not, ev_neg, ev_tup, ev_lst, ev_dct, ev_sub, ev_sl, ev_comp, ev_call, ev_isi, ev_blt, ev_lcp] at hev
  split at hev
  · rename_i dsrc hdsrc
    split at hev
    · rename_i its hits
      split at hev
      · rename_i hlen
        simp only [Option.map_eq_some_iff] at hev
        obtain ⟨out, hout, rfl⟩ := hev
        refine comp_core R hok hset hh hw.ex (hs s env it H ρ m dsrc E hcsrc R hw (hn.sub fun _ hx => List.mem_append_left _ hx) hdsrc) hits hlen hout ?_ (fun L C h' tk dw m' h1 h2 h3 h4 h5 h6 => hQ L C h' tk dw m' out rfl h1 h2 h3 h4 h5 h6)
        intro s₂ cenv mC H₂ v dv r hm hf hk RC hv rv hfv hx kp hsub E'
        have hn' := hn.sub (ns' := (elt.names ++ namesL cs).filter (· != x)) fun _ hx => List.mem_append_right _ hx
        have nv := comp_inner hok hk hv rv hfv kp hsub hn'
        have hw₂ : HOk base s₂.heap H₂ := ⟨fun b o e => Kp.heap kp b o (hw.keep b o e), hx, fun b o e q => hw.off b o e (hsub b o (hw.keep b o e) q)⟩
        split at hf
        · rename_i hb
          split at hf
          · rename_i y' hy'
            cases hf
            refine wpAny_mono (hcs s₂ cenv ifs H₂ _ mC true E' (by rw [hk]; exact hcifs) RC hw₂ (nv.sub fun _ hx => List.mem_append_right _ hx) hb) (fun ok s₃ q => ⟨q.1, q.2, fun dr e => ?_⟩) fun _ _ e => e
            cases e
            exact wpAny_mono (he s₃ cenv t H₂ _ mC y' E' (by rw [hk]; exact hcelt) (RC.keeps (Kp.heap q.1)) (hw₂.keeps (Kp.heap q.1)) ((nv.sub fun _ hx => List.mem_append_left _ hx).keeps (Kp.heap q.1)) hy') (fun _ _ q => q) fun _ _ e => e
          · cases hf
        · rename_i hb
          cases hf
          exact wpAny_mono (hcs s₂ cenv ifs H₂ _ mC false E' (by rw [hk]; exact hcifs) RC hw₂ (nv.sub fun _ hx => List.mem_append_right _ hx) hb) (fun ok s₃ q => ⟨q.1, q.2, fun dr e => by cases e⟩) fun _ _ e => e
        · cases hf
      · cases hev
    · cases hev
  · cases hev
end
end Mine
namespace Mine
open PySem PySem.SeqAt
/-! dict displays -/
theorem dput_len (k d : D) : ∀ (ks vs : List D), (dput ks vs k d).1.length ≤ ks.length + 1
  | [], _ => by simp [dput]
  | _ :: _, [] => by simp [dput]
  | k' :: ks, v :: vs => by
    have := dput_len k d ks vs
    unfold dput
    split <;> simp <;> omega
section
variable {prog : Program} {w : World} {A : Around} {s : Shared} {base : Heap} {mg mb : Str → Option Value} {cf : CF}
theorem sf_dct (G : GOk mg mb base) {ks vs : List ME} (hsk : ∀ e ∈ ks, SE prog w A base cf e) (hsv : ∀ e ∈ vs, SE prog w A base cf e) : SF prog w A base cf (.dct ks vs) := by
  intro s env e H ρ m d fr E hc R hw hn he
  obtain ⟨kes, ves, pos, rfl, hk, hv⟩ := inv_dct hc
  simp only [evF_dct, ev_dct, Option.map_eq_some_iff] at he
  obtain ⟨d', he, e'⟩ := he
  cases e'
  split at he
  · rename_i ds hds
    split at he
    · rename_i es hes
      split at he
      · rename_i hcc; cases he
        rw [Bool.and_eq_true, List.isEmpty_iff, List.isEmpty_iff] at hcc
        obtain ⟨rfl, rfl⟩ := hcc
        have n0 : ∀ {ms : List ME}, evEs cf ρ ms = some [] → ms = [] := fun {ms} h => by
          cases ms with
          | nil => rfl
          | cons a r =>
            rw [evs_cons] at h
            split at h
            · split at h <;> cases h
            · cases h
        have ek := n0 hds
        have ev := n0 hes
        subst ek ev
        have hk0 : kes = [] := List.isEmpty_iff.mp hk
        have hv0 : ves = [] := List.isEmpty_iff.mp hv
        subst hk0 hv0
        have hsys : (s.heap.objs.size == sysModules) = false := by
          obtain ⟨o, _, _, h1, _⟩ := G.g
          have h2 := Heap.lt_size (hw.keep _ _ h1)
          have h3 : s.heap.objs.size ≠ sysModules := fun q => by rw [q] at h2; exact absurd h2 (by decide)
          simpa using h3
        have hnone : s.heap.get? s.heap.objs.size = none := by
          cases q : s.heap.get? s.heap.objs.size with
          | none => rfl
          | some o => exact absurd (Heap.lt_size q) (Nat.lt_irrefl _)
        have own : OwnD w.params (s.heap.push { cls := .type "dict", data := .dict #[] }) H s.heap.objs.size (.dict [] []) := ⟨#[], 0, Heap.get?_push_size _ rfl, Nat.zero_le _, .nil, .nil, rfl, rfl, .nil, hsys⟩
        exact wpAny_Dict_empty ⟨Kp.push _ _, own.rep hw.ex.fresh, fun _ => ⟨_, rfl, hnone, own⟩⟩
      · cases he
    · cases he
  · cases he
end
end Mine
namespace Mine
open PySem PySem.SeqAt

noncomputable def plainE : Expr → Bool
  | .UnaryOp .Not _ _ | .BoolOp .. | .IfExp .. | .Compare .. => false
  | _ => true
theorem isTrue_plainE {e : Expr} {env : Env} {whole : Sem Value} (h : plainE e = true) : isTrue e env whole = (do let v ← whole; standAt e.pos; holding [v] (truthy v)) := by
  cases e with
  | UnaryOp op x p => cases op <;> first | rfl | cases h
  | BoolOp => cases h
  | IfExp => cases h
  | Compare => cases h
  | _ => rfl
noncomputable def ME.plain : ME → Bool
  | .not _ | .bop _ _ | .cmp _ _ _ => false
  | _ => true
theorem chk_plain {k : KD} {e : Expr} {me : ME} (hp : me.plain = true) (hc : chkE k e me = true) : plainE e = true := by
  by_cases h6 : shapeM me = 6
  · cases me <;> first | (cases hp; done) | (obtain ⟨_, _, rfl, _⟩ := inv_neg hc; rfl) | (cases h6; done)
  · have h := chk_shape hc
    have h4 : (shapeM me != 0 && shapeM me != 4 && shapeM me != 5) = true := by cases me <;> first | (cases hp; done) | rfl
    rw [← h] at h4 h6
    cases e <;> first | rfl | exact absurd rfl h6 | exact absurd h4 Bool.false_ne_true

section
variable {prog : Program} {w : World} {A : Around} {s : Shared} {base : Heap} {mg mb : Str → Option Value} {cf : CF}

theorem sf_plain {me : ME} (h : SE prog w A base cf me) (hf : ∀ ρ, evF cf ρ me = (evE cf ρ me).map fun d => (d, false)) : SF prog w A base cf me := by
  intro s env e H ρ m d fr E hc R hw hn he
  rw [hf, Option.map_eq_some_iff] at he
  obtain ⟨d', h1, h2⟩ := he
  cases h2
  exact wpAny_mono (h s env e H ρ m d E hc R hw hn h1) (fun _ _ q => ⟨q.1, q.2, fun e => by cases e⟩) fun _ _ e => e

theorem sf_comp {elt src : ME} {x : String} {cs : List ME} (hh : A.handled = none) (he : SE prog w A base cf elt) (hs : SE prog w A base cf src) (hcs : SC prog w A base cf cs) : SF prog w A base cf (.comp elt x src cs) := by
  intro s env e H ρ m d fr E hc R hw hn hev
  simp only [evF_comp, Option.map_eq_some_iff] at hev
  obtain ⟨d', hev, e'⟩ := hev
  cases e'
  obtain ⟨_, _, _, _, _, _, _, rfl, _⟩ := inv_comp hc
  · rw [eval_ListComp]
    refine comp_snd (use := none) hh he hs hcs hc R hw hn hev fun L C h' tk dr m' out hd hL hC hLC hns hown hk => ⟨m', hns, fun h'' hs'' => ?_⟩
    have kk : ∀ b o, s.heap.get? b = some o → h''.get? b = some o := fun b o e => (hs''.2 b (fun q => by rw [q, hC] at e; cases e)).trans (hk b o e)
    have own : OwnL w.params h'' H L out := by
      obtain ⟨vs, n, q1, q2, q3⟩ := hown
      refine ⟨vs, n, (hs''.2 L hLC).trans q1, q2, q3.mono (fun a o hn e => (hs''.2 a fun q => hn (.inl (.inr q))).trans e) fun a o _ q => q.elim (fun q => .inl (.inl q)) .inr⟩
    have hLn : s.heap.get? L = none := by
      cases e : s.heap.get? L with
      | none => rfl
      | some o => exact absurd (hL _ _ e) (Nat.lt_irrefl _)
    refine ⟨⟨h'', tk, dr, rfl, kk⟩, ?_, fun _ => ⟨L, rfl, hLn, by rw [hd]; exact own⟩⟩
    rw [hd]
    refine own.rep fun q => ?_
    obtain ⟨b, o, hb, ho⟩ := hw.ex L q
    exact Nat.lt_irrefl _ (Nat.lt_of_le_of_lt hb (hL b o ho))

theorem evF_callx (f : String) (ms : List ME) (ρ : List (String × D)) (d : D) (h : evE cf ρ (.call f ms) = some d) : ∃ fr, evF cf ρ (.call f ms) = some (d, fr) := by
  simp only [ev_var, ev_glob, ev_int, ev_str, ev_bool, ev_none, ev_bin, ev_cmp, ev_bop, ev_not, ev_neg, ev_tup, ev_lst, ev_dct, ev_sub, ev_sl, ev_comp, ev_call, ev_isi, ev_blt, ev_lcp] at h
  simp only [evF_call]
  split at h
  · rename_i ds hds
    rw [Option.map_eq_some_iff] at h
    obtain ⟨⟨d', fr⟩, h1, h2⟩ := h
    cases h2
    exact ⟨fr, h1⟩
  · cases h

theorem blt_name {f : String} {ds : List D} {d : D} (h : bltD f ds = some d) : f ∈ bltNames := by
  unfold bltD bltI bltI2 at h
  repeat' split at h
  all_goals first | (cases h; done) | (subst_vars; decide)
mutual
theorem all_E (G : GOk mg mb base) (C : CSound prog w base mg cf A) (hh : A.handled = none) (hu : A.units + 1 < cLine) (me : ME) : SE prog w A base cf me ∧ ST prog w A base cf me ∧ SF prog w A base cf me := by
  have fin : SE prog w A base cf me → me.plain = true → (∀ ρ, evF cf ρ me = (evE cf ρ me).map fun d => (d, false)) → SE prog w A base cf me ∧ ST prog w A base cf me ∧ SF prog w A base cf me := fun h1 h2 h3 =>
    ⟨h1, st_plain h1 (fun e k env whole hc => isTrue_plainE (chk_plain h2 hc)), sf_plain h1 h3⟩
  have finF : SF prog w A base cf me → me.plain = true → (∀ ρ d, evE cf ρ me = some d → ∃ fr, evF cf ρ me = some (d, fr)) → SE prog w A base cf me ∧ ST prog w A base cf me ∧ SF prog w A base cf me := fun h1 h2 h3 =>
    have h4 := se_of_sf h1 h3
    ⟨h4, st_plain h4 (fun e k env whole hc => isTrue_plainE (chk_plain h2 hc)), h1⟩
  match me with
  | .var x => exact fin (se_var x) rfl fun _ => rfl
  | .glob x => exact fin (se_glob G C x) rfl fun _ => rfl
  | .int i => exact fin (se_int i) rfl fun _ => rfl
  | .str x => exact fin (se_str x) rfl fun _ => rfl
  | .bool b => exact fin (se_bool b) rfl fun _ => rfl
  | .none => exact fin se_none rfl fun _ => rfl
  | .bin op a b => exact finF (sf_bin (all_E G C hh hu a).1 (all_E G C hh hu b).1) rfl fun ρ d h => ⟨d.isList, by rw [evF_bin, h]; rfl⟩
  | .cmp op a b =>
    have ha := (all_E G C hh hu a).1
    have hb := (all_E G C hh hu b).1
    exact ⟨se_cmp hu ha hb, st_cmp hu ha hb, sf_plain (se_cmp hu ha hb) fun _ => rfl⟩
  | .bop op ms =>
    have h := (all_Es G C hh hu ms).2.1
    exact ⟨se_bop h, st_bop h, sf_plain (se_bop h) fun _ => rfl⟩
  | .not a =>
    have h := all_E G C hh hu a
    exact ⟨se_not h.1, st_not h.2.1, sf_plain (se_not h.1) fun _ => rfl⟩
  | .neg a => exact fin (se_neg (all_E G C hh hu a).1) rfl fun _ => rfl
  | .tup ms => exact fin (se_tup (all_Es G C hh hu ms).1) rfl fun _ => rfl
  | .lst ms => exact finF (sf_lst (all_Es G C hh hu ms).1) rfl fun ρ d h => ⟨true, by rw [evF_lst, h]; rfl⟩
  | .dct ks vs => exact finF (sf_dct G (all_Es G C hh hu ks).2.2.2 (all_Es G C hh hu vs).2.2.2) rfl fun ρ d h => ⟨true, by rw [evF_dct, h]; rfl⟩
  | .sub a b => exact fin (se_sub hu (all_E G C hh hu a).1 (all_E G C hh hu b).1) rfl fun _ => rfl
  | .sl a b c => exact finF (sf_sl (all_E G C hh hu a).1 (all_E G C hh hu b).1 (all_E G C hh hu c).1) rfl fun ρ d h => ⟨d.isList, by rw [evF_sl, h]; rfl⟩
  | .sset a => exact finF (sf_sset G hh (all_E G C hh hu a).1) rfl fun ρ d h => ⟨true, by rw [evF_sset, h]; rfl⟩
  | .lcp a => exact finF (sf_lcp G hh (ses_cons (all_E G C hh hu a).1 ses_nil)) rfl fun ρ d h => ⟨true, by rw [evF_lcp, h]; rfl⟩
  | .comp elt x src cs => exact finF (sf_comp hh (all_E G C hh hu elt).1 (all_E G C hh hu src).1 (all_Es G C hh hu cs).2.2.1) rfl fun ρ d h => ⟨true, by rw [evF_comp, h]; rfl⟩
  | .call f ms => exact finF (sf_call G C (all_Es G C hh hu ms).1) rfl (evF_callx f ms)
  | .isi a T => exact fin (se_isi G (all_E G C hh hu a).1) rfl fun _ => rfl
  | .blt f ms =>
    refine fin ?_ rfl fun _ => rfl
    by_cases hf : f ∈ bltNames
    · exact se_blt G hh hf (all_Es G C hh hu ms).1
    · intro s env e H ρ m d E hc R hw hn he
      exfalso
      simp only [ev_var, ev_glob, ev_int, ev_str, ev_bool, ev_none, ev_bin, ev_cmp, ev_bop, ev_not, ev_neg, ev_tup, ev_lst, ev_dct, ev_sub, ev_sl, ev_comp, ev_call, ev_isi, ev_blt, ev_lcp] at he
      split at he
      · exact hf (blt_name he)
      · cases he
termination_by structural me
theorem all_Es (G : GOk mg mb base) (C : CSound prog w base mg cf A) (hh : A.handled = none) (hu : A.units + 1 < cLine) (ms : List ME) : SEs prog w A base cf ms ∧ SB prog w A base cf ms ∧ SC prog w A base cf ms ∧ ∀ e ∈ ms, SE prog w A base cf e := by
  match ms with
  | [] => exact ⟨ses_nil, sb_nil, sc_nil, fun _ h => nomatch h⟩
  | a :: r =>
    have ha := all_E G C hh hu a
    have hr := all_Es G C hh hu r
    refine ⟨ses_cons ha.1 hr.1, ?_, sc_cons ha.2.1 hr.2.2.1, fun e he => (List.mem_cons.mp he).elim (fun q => q ▸ ha.1) (hr.2.2.2 e)⟩
    cases r with
    | nil => exact sb_one ha.1 ha.2.1
    | cons b r => exact sb_cons ha.1 ha.2.1 hr.2.1
termination_by structural ms
end
end
end Mine
namespace Mine
open PySem PySem.SeqAt

noncomputable def isStore (k : KD) (x : Str) : Bool := (k x == some .local || k x == some .cell) && isVar k x
noncomputable def notComp : Expr → Bool
  | .ListComp .. | .SetComp .. | .DictComp .. => false
  | _ => true

noncomputable def cAssign (e : Stmt) (f : List Expr → Expr → Pos → Bool) : Bool := dite (e.ctorIdx = 5) (fun h => Stmt.Assign.elim (motive_2 := fun _ => Bool) e h f) (fun _ => false)
theorem cAssign_inv {e : Stmt} {f : List Expr → Expr → Pos → Bool} (h : cAssign e f = true) : ∃ (ts : List Expr) (v : Expr) (p : Pos), e = .Assign ts v p ∧ f ts v p = true :=
  (dite_inv h).elim fun hc h => Stmt.Assign.elim (motive_2 := fun e => ∀ hc, Stmt.Assign.elim (motive_2 := fun _ => Bool) e hc f = true → ∃ (ts : List Expr) (v : Expr) (p : Pos), e = .Assign ts v p ∧ f ts v p = true) e hc (fun v0 v1 v2 _ h => ⟨v0, v1, v2, rfl, h⟩) hc h
noncomputable def cExpr (e : Stmt) (f : Expr → Pos → Bool) : Bool := dite (e.ctorIdx = 24) (fun h => Stmt.Expr.elim (motive_2 := fun _ => Bool) e h f) (fun _ => false)
theorem cExpr_inv {e : Stmt} {f : Expr → Pos → Bool} (h : cExpr e f = true) : ∃ (v : Expr) (p : Pos), e = .Expr v p ∧ f v p = true :=
  (dite_inv h).elim fun hc h => Stmt.Expr.elim (motive_2 := fun e => ∀ hc, Stmt.Expr.elim (motive_2 := fun _ => Bool) e hc f = true → ∃ (v : Expr) (p : Pos), e = .Expr v p ∧ f v p = true) e hc (fun v0 v1 _ h => ⟨v0, v1, rfl, h⟩) hc h
noncomputable def cIf (e : Stmt) (f : Expr → List Stmt → List Stmt → Pos → Bool) : Bool := dite (e.ctorIdx = 12) (fun h => Stmt.If.elim (motive_2 := fun _ => Bool) e h f) (fun _ => false)
theorem cIf_inv {e : Stmt} {f : Expr → List Stmt → List Stmt → Pos → Bool} (h : cIf e f = true) : ∃ (v : Expr) (b : List Stmt) (o : List Stmt) (p : Pos), e = .If v b o p ∧ f v b o p = true :=
  (dite_inv h).elim fun hc h => Stmt.If.elim (motive_2 := fun e => ∀ hc, Stmt.If.elim (motive_2 := fun _ => Bool) e hc f = true → ∃ (v : Expr) (b : List Stmt) (o : List Stmt) (p : Pos), e = .If v b o p ∧ f v b o p = true) e hc (fun v0 v1 v2 v3 _ h => ⟨v0, v1, v2, v3, rfl, h⟩) hc h
noncomputable def cFor (e : Stmt) (f : Expr → Expr → List Stmt → List Stmt → Pos → Bool) : Bool := dite (e.ctorIdx = 9) (fun h => Stmt.For.elim (motive_2 := fun _ => Bool) e h f) (fun _ => false)
theorem cFor_inv {e : Stmt} {f : Expr → Expr → List Stmt → List Stmt → Pos → Bool} (h : cFor e f = true) : ∃ (t : Expr) (i : Expr) (b : List Stmt) (o : List Stmt) (p : Pos), e = .For t i b o p ∧ f t i b o p = true :=
  (dite_inv h).elim fun hc h => Stmt.For.elim (motive_2 := fun e => ∀ hc, Stmt.For.elim (motive_2 := fun _ => Bool) e hc f = true → ∃ (t : Expr) (i : Expr) (b : List Stmt) (o : List Stmt) (p : Pos), e = .For t i b o p ∧ f t i b o p = true) e hc (fun v0 v1 v2 v3 v4 _ h => ⟨v0, v1, v2, v3, v4, rfl, h⟩) hc h
noncomputable def cRet (e : Stmt) (f : Option Expr → Pos → Bool) : Bool := dite (e.ctorIdx = 3) (fun h => Stmt.Return.elim (motive_2 := fun _ => Bool) e h f) (fun _ => false)
theorem cRet_inv {e : Stmt} {f : Option Expr → Pos → Bool} (h : cRet e f = true) : ∃ (v : Option Expr) (p : Pos), e = .Return v p ∧ f v p = true :=
  (dite_inv h).elim fun hc h => Stmt.Return.elim (motive_2 := fun e => ∀ hc, Stmt.Return.elim (motive_2 := fun _ => Bool) e hc f = true → ∃ (v : Option Expr) (p : Pos), e = .Return v p ∧ f v p = true) e hc (fun v0 v1 _ h => ⟨v0, v1, rfl, h⟩) hc h
noncomputable def c3 {α : Type} (l : List α) (f : α → α → α → Bool) : Bool := match l with | [x, y, z] => f x y z | _ => false
mutual
noncomputable def chkS (k : KD) (st : Stmt) (ms : MS) : Bool := match ms with
  | .assign x e => cAssign st fun ts v _ => c1 ts fun t => cName t fun y _ => y == Str.ofString x && isStore k y && chkE k v e
  | .append x e => cExpr st fun v _ => cCall v fun g as ks p => ks.isEmpty && c1 as fun a => cAttr g fun n at_ ap => cName n fun y _ => y == Str.ofString x && isStore k y && at_ == Str.ofString "append" && ap.endLine == p.line && chkE k a e
  | .setk x ke e => cAssign st fun ts v _ => c1 ts fun t => cSub t fun o i _ => cName o fun y _ => y == Str.ofString x && isStore k y && chkE k i ke && chkE k v e
  | .ite c t f => cIf st fun v b o _ => chkE k v c && chkSs k b t && chkSs k o f
  | .for_ x src body => cFor st fun t it b o _ => o.isEmpty && cName t fun y _ => y == Str.ofString x && isStore k y && notSet it && chkE k it src && chkSs k b body
  | .ret e => cRet st fun v _ => cOpt v fun v => chkE k v e
  | .bad => true
termination_by structural ms
noncomputable def chkSs (k : KD) (ss : List Stmt) (ms : List MS) : Bool := match ms with
  | [] => ss.isEmpty
  | a :: r => (match ss with | s :: ss' => chkS k s a && chkSs k ss' r | [] => false)
termination_by structural ms
end

theorem css_nil (k : KD) (es : List Stmt) : chkSs k es [] = es.isEmpty := rfl
theorem css_cons (k : KD) (e : Stmt) (es : List Stmt) (a : MS) (r : List MS) : chkSs k (e :: es) (a :: r) = (chkS k e a && chkSs k es r) := rfl
theorem css_consn (k : KD) (a : MS) (r : List MS) : chkSs k [] (a :: r) = false := rfl
section
variable {k : KD} {st : Stmt}
theorem inv_assign {x : String} {e : ME} (h : chkS k st (.assign x e) = true) : ∃ y p v pos, st = .Assign [.Name y p] v pos ∧ (y == Str.ofString x && isStore k y && chkE k v e) = true := by
  replace h := cAssign_inv h; obtain ⟨ts, v, p, rfl, h⟩ := h
  replace h := c1_inv h; obtain ⟨t, rfl, h⟩ := h
  replace h := cName_inv h; obtain ⟨y, py, rfl, h⟩ := h
  exact ⟨y, py, v, p, rfl, h⟩
theorem inv_append {x : String} {e : ME} (h : chkS k st (.append x e) = true) : ∃ y yp at_ ap a p pos, st = .Expr (.Call (.Attribute (.Name y yp) at_ ap) [a] [] p) pos ∧ (y == Str.ofString x && isStore k y && at_ == Str.ofString "append" && ap.endLine == p.line && chkE k a e) = true := by
  replace h := cExpr_inv h; obtain ⟨v, pos, rfl, h⟩ := h
  replace h := cCall_inv h; obtain ⟨g, as, ks, p, rfl, h⟩ := h
  rw [Bool.and_eq_true] at h
  obtain ⟨h1, h⟩ := h
  replace h := c1_inv h; obtain ⟨a, rfl, h⟩ := h
  replace h := cAttr_inv h; obtain ⟨n, at_, ap, rfl, h⟩ := h
  replace h := cName_inv h; obtain ⟨y, yp, rfl, h⟩ := h
  exact ⟨y, yp, at_, ap, a, p, pos, by rw [List.isEmpty_iff.mp h1], h⟩
theorem inv_setk {x : String} {ke e : ME} (h : chkS k st (.setk x ke e) = true) : ∃ y yp i p v pos, st = .Assign [.Subscript (.Name y yp) i p] v pos ∧ (y == Str.ofString x && isStore k y && chkE k i ke && chkE k v e) = true := by
  replace h := cAssign_inv h; obtain ⟨ts, v, pos, rfl, h⟩ := h
  replace h := c1_inv h; obtain ⟨t, rfl, h⟩ := h
  replace h := cSub_inv h; obtain ⟨o, i, p, rfl, h⟩ := h
  replace h := cName_inv h; obtain ⟨y, yp, rfl, h⟩ := h
  exact ⟨y, yp, i, p, v, pos, rfl, h⟩
theorem inv_ite {c : ME} {t f : List MS} (h : chkS k st (.ite c t f) = true) : ∃ v b o p, st = .If v b o p ∧ (chkE k v c && chkSs k b t && chkSs k o f) = true := by
  exact cIf_inv h
theorem inv_for {x : String} {src : ME} {body : List MS} (h : chkS k st (.for_ x src body) = true) : ∃ y yp it b p, st = .For (.Name y yp) it b [] p ∧ (y == Str.ofString x && isStore k y && notSet it && chkE k it src && chkSs k b body) = true := by
  replace h := cFor_inv h; obtain ⟨t, it, b, o, p, rfl, h⟩ := h
  rw [Bool.and_eq_true] at h
  obtain ⟨h1, h⟩ := h
  replace h := cName_inv h; obtain ⟨y, yp, rfl, h⟩ := h
  exact ⟨y, yp, it, b, p, by rw [List.isEmpty_iff.mp h1], h⟩
theorem inv_ret {e : ME} (h : chkS k st (.ret e) = true) : ∃ v p, st = .Return (some v) p ∧ chkE k v e = true := by
  replace h := cRet_inv h; obtain ⟨v, p, rfl, h⟩ := h
  replace h := cOpt_inv h; obtain ⟨v, rfl, h⟩ := h
  exact ⟨v, p, rfl, h⟩
end

noncomputable abbrev Own := String → Option Addr
noncomputable def Hot (env : Env) (H₀ : Addr → Prop) (own : Own) (b : Addr) : Prop := H₀ b ∨ b = env.locals ∨ (∃ x, env.cells.lookup x = some b) ∨ ∃ x, own x = some b
noncomputable def Own.less (own : Own) (ns : List String) : Own := fun x => if x ∈ ns then none else own x
theorem Hot.less {env : Env} {H₀ : Addr → Prop} {own : Own} {ns : List String} {b : Addr} (h : Hot env H₀ (own.less ns) b) : Hot env H₀ own b := by
  rcases h with h | h | h | ⟨x, h⟩
  · exact .inl h
  · exact .inr (.inl h)
  · exact .inr (.inr (.inl h))
  · unfold Own.less at h
    split at h
    · cases h
    · exact .inr (.inr (.inr ⟨x, h⟩))

structure StOk (w : World) (base ent h : Heap) (env : Env) (H₀ : Addr → Prop) (own : Own) (m : Str → Option Value) (σ : St) : Prop where
  rep : EnvRep h env m
  plain : ∀ x d, σ.lookup x = some (false, d) → ∃ v, m (Str.ofString x) = some v ∧ Rep w.params h (Hot env H₀ own) v d
  owned : ∀ x d, σ.lookup x = some (true, d) → ∃ a, own x = some a ∧ m (Str.ofString x) = some (.ref a) ∧ OwnD w.params h (Hot env H₀ own) a d
  hot : HOk base h (Hot env H₀ own)
  keep : ∀ b o, ent.get? b = some o → h.get? b = some o
  frE : ent.get? env.locals = none ∧ ∀ x c, env.cells.lookup x = some c → ent.get? c = none
  own1 : ∀ x a, own x = some a → ent.get? a = none ∧ ¬ H₀ a ∧ a ≠ env.locals ∧ ∀ y, env.cells.lookup y ≠ some a
  inj : ∀ x y a, own x = some a → own y = some a → x = y
  ownx : ∀ x a, own x = some a → ∃ o, h.get? a = some o

theorem OwnL.mono {P : Params} {h h' : Heap} {H H' : Addr → Prop} {a : Addr} {ds : List D} (o : OwnL P h H a ds) (ha : ∀ o, h.get? a = some o → h'.get? a = some o) (hk : ∀ b o, ¬ H b → h.get? b = some o → h'.get? b = some o) (hH : ∀ b o, h.get? b = some o → H' b → H b ∨ b = a) : OwnL P h' H' a ds := by
  obtain ⟨vs, n, h1, h2, h3⟩ := o
  refine ⟨vs, n, ha _ h1, h2, h3.mono (fun b o hn e => hk b o (fun q => hn (.inl q)) e) fun b o e q => q.elim (hH b o e) .inr⟩

theorem OwnD.mono {P : Params} {h h' : Heap} {H H' : Addr → Prop} {a : Addr} {d : D} (o : OwnD P h H a d) (ha : ∀ o, h.get? a = some o → h'.get? a = some o) (hk : ∀ b o, ¬ H b → h.get? b = some o → h'.get? b = some o) (hH : ∀ b o, h.get? b = some o → H' b → H b ∨ b = a) : OwnD P h' H' a d := by
  cases d <;> first | exact OwnL.mono o ha hk hH | exact False.elim o | skip
  obtain ⟨es, n, h1, h2, h3, h4, h5⟩ := o
  exact ⟨es, n, ha _ h1, h2, h3.mono (fun b o hn e => hk b o (fun q => hn (.inl q)) e) (fun b o e q => q.elim (hH b o e) .inr), h4.mono (fun b o hn e => hk b o (fun q => hn (.inl q)) e) (fun b o e q => q.elim (hH b o e) .inr), h5⟩

theorem StOk.keeps {w : World} {base ent h h' : Heap} {env : Env} {H₀ : Addr → Prop} {own : Own} {m : Str → Option Value} {σ : St} (S : StOk w base ent h env H₀ own m σ) (hk : ∀ a o, h.get? a = some o → h'.get? a = some o) :
    StOk w base ent h' env H₀ own m σ where
  rep := S.rep.keeps hk
  plain := fun x d e => let ⟨v, h1, h2⟩ := S.plain x d e; ⟨v, h1, h2.keeps hk⟩
  owned := fun x d e => let ⟨a, h1, h2, h4⟩ := S.owned x d e; ⟨a, h1, h2, h4.mono (fun o e => hk _ o e) (fun b o _ e => hk b o e) fun _ _ _ q => .inl q⟩
  hot := S.hot.keeps hk
  keep := fun b o e => hk b o (S.keep b o e)
  frE := S.frE
  own1 := S.own1
  inj := S.inj
  ownx := fun x a e => let ⟨o, ho⟩ := S.ownx x a e; ⟨o, hk _ _ ho⟩

theorem lookup_vis (x : String) : ∀ (σ : St), (vis σ).lookup x = (σ.lookup x).map (·.2)
  | [] => rfl
  | (y, v) :: r => by
    have ih := lookup_vis x r
    unfold vis at ih ⊢
    rw [List.map_cons, List.lookup_cons, List.lookup_cons]
    by_cases h : x = y
    · subst h; simp
    · have : (x == y) = false := by simpa using h
      simp only [this]
      exact ih
theorem lookup_setv (x y : String) (v : Bool × D) : ∀ (σ : St), (setv σ x v).lookup y = if y = x then some v else σ.lookup y
  | [] => by
    unfold setv
    rw [List.lookup_cons]
    by_cases h : y = x
    · simp [h]
    · have : (y == x) = false := by simpa using h
      simp [h, this]
  | (z, u) :: r => by
    unfold setv
    split
    · rename_i h; subst h
      rw [List.lookup_cons, List.lookup_cons]
      by_cases h : y = z
      · simp [h]
      · have : (y == z) = false := by simpa using h
        simp [h, this]
    · rename_i hz
      rw [List.lookup_cons, List.lookup_cons, lookup_setv x y v r]
      by_cases h : y = x
      · subst h
        have : (y == z) = false := by simpa using Ne.symm hz
        simp [this]
      · simp [h]
theorem lookup_freeze (ns : List String) (x : String) : ∀ (σ : St), (freeze ns σ).lookup x = (σ.lookup x).map fun p => (p.1 && !ns.contains x, p.2)
  | [] => rfl
  | (y, v) :: r => by
    have ih := lookup_freeze ns x r
    unfold freeze at ih ⊢
    rw [List.map_cons, List.lookup_cons, List.lookup_cons]
    by_cases h : x = y
    · subst h; simp
    · have : (x == y) = false := by simpa using h
      simp only [this]
      exact ih

theorem StOk.freeze {w : World} {base ent h : Heap} {env : Env} {H₀ : Addr → Prop} {own : Own} {m : Str → Option Value} {σ : St} (S : StOk w base ent h env H₀ own m σ) (ns : List String) :
    StOk w base ent h env H₀ (own.less ns) m (Mine.freeze ns σ) where
  rep := S.rep
  plain := fun x d e => by
    rw [lookup_freeze] at e
    simp only [Option.map_eq_some_iff, Prod.mk.injEq] at e
    obtain ⟨⟨o, d'⟩, h1, h2, h3⟩ := e
    simp only at h2 h3
    subst h3
    cases o with
    | false =>
      obtain ⟨v, q1, q2⟩ := S.plain x d' h1
      exact ⟨v, q1, q2.sub fun _ q => q.less⟩
    | true =>
      simp only [Bool.true_and, Bool.not_eq_false', List.contains_iff_mem] at h2
      obtain ⟨a, q1, q2, q4⟩ := S.owned x d' h1
      refine ⟨_, q2, (q4.mono (H' := Hot env H₀ (own.less ns)) (fun _ e => e) (fun _ _ _ e => e) fun _ _ _ q => .inl q.less).rep ?_⟩
      obtain ⟨_, g1, g2, g3⟩ := S.own1 x a q1
      rintro (e | e | ⟨y, e⟩ | ⟨y, e⟩)
      · exact g1 e
      · exact g2 e
      · exact g3 y e
      · unfold Own.less at e
        split at e
        · cases e
        · rename_i hy
          exact hy (S.inj x y a q1 e ▸ h2)
  owned := fun x d e => by
    rw [lookup_freeze] at e
    simp only [Option.map_eq_some_iff, Prod.mk.injEq] at e
    obtain ⟨⟨o, d'⟩, h1, h2, h3⟩ := e
    simp only at h2 h3
    subst h3
    simp only [Bool.and_eq_true, Bool.not_eq_true', List.contains_eq_mem, decide_eq_false_iff_not] at h2
    obtain ⟨rfl, h2⟩ := h2
    obtain ⟨a, q1, q2, q4⟩ := S.owned x d' h1
    exact ⟨a, by unfold Own.less; rw [if_neg h2]; exact q1, q2, q4.mono (fun _ e => e) (fun _ _ _ e => e) fun _ _ _ q => .inl q.less⟩
  hot := ⟨S.hot.keep, fun a q => S.hot.ex a q.less, fun b o e q => S.hot.off b o e q.less⟩
  keep := S.keep
  frE := S.frE
  own1 := fun x a e => S.own1 x a (by unfold Own.less at e; split at e <;> first | cases e | exact e)
  inj := fun x y a e1 e2 => S.inj x y a (by unfold Own.less at e1; split at e1 <;> first | cases e1 | exact e1) (by unfold Own.less at e2; split at e2 <;> first | cases e2 | exact e2)
  ownx := fun x a e => S.ownx x a (by unfold Own.less at e; split at e <;> first | cases e | exact e)

/-- what is known of the variables, all those of ns let go -/
theorem StOk.nv {w : World} {base ent h : Heap} {env : Env} {H₀ : Addr → Prop} {own : Own} {m : Str → Option Value} {σ : St} (S : StOk w base ent h env H₀ own m σ) (ns : List String) :
    NV w.params env.kindOf ns (vis σ) m h (Hot env H₀ (own.less ns)) := by
  intro x hx _ d hd
  rw [lookup_vis] at hd
  simp only [Option.map_eq_some_iff] at hd
  obtain ⟨⟨o, d'⟩, h1, h2⟩ := hd
  simp only at h2
  subst h2
  have : (Mine.freeze ns σ).lookup x = some (false, d') := by
    rw [lookup_freeze, h1]
    simp [List.contains_iff_mem, hx]
  exact (S.freeze ns).plain x d' this
end Mine
namespace Mine
open PySem PySem.SeqAt

section
variable {w : World} {base ent h h₁ h₂ : Heap} {env : Env} {H₀ : Addr → Prop} {own : Own} {m : Str → Option Value} {σ : St}

theorem frame_ex {a : Addr} (R : EnvRep h env m) (ha : a = env.locals ∨ ∃ y, env.cells.lookup y = some a) : ∃ o, h.get? a = some o := by
  rcases ha with rfl | ⟨y, e⟩
  · obtain ⟨_, ⟨o, _, _, e, _⟩, _⟩ := R.loc; exact ⟨o, e⟩
  · exact R.ex y a e

theorem StOk.assign (S : StOk w base ent h env H₀ own m σ) (hk : ∀ b o, h.get? b = some o → h₁.get? b = some o) {x : String} {v : Value} {a : Addr} {fr : Bool} {d : D} {nw : Option Addr}
    (R₂ : EnvRep h₂ env (upd m (Str.ofString x) v)) (ha : a = env.locals ∨ ∃ y, env.cells.lookup y = some a) {X : Addr → Prop} (hX : ∀ b, X b → h.get? b = none) (hs : ∀ b, b ≠ a → ¬ X b → h₂.get? b = h₁.get? b)
    (hv : (fr = false ∧ nw = none ∧ Rep w.params h₁ (fun b => Hot env H₀ own b ∨ X b) v d) ∨ (fr = true ∧ ∃ c, nw = some c ∧ v = .ref c ∧ h.get? c = none ∧ ¬ H₀ c ∧ ¬ X c ∧ OwnD w.params h₁ (fun b => Hot env H₀ own b ∨ X b) c d)) :
    StOk w base ent h₂ env H₀ (fun y => if y = x then nw else own y) (upd m (Str.ofString x) v) (setv σ x (fr, d)) := by
  have aHot : ∀ own', Hot env H₀ own' a := fun own' => .inr (ha.elim .inl fun e => .inr (.inl e))
  have aEx : ∃ o, h.get? a = some o := frame_ex S.rep ha
  have nX : ∀ b o, h.get? b = some o → ¬ X b := fun b o e q => by have := hX b q; rw [e] at this; cases this
  have newc : ∀ c, nw = some c → h.get? c = none ∧ ¬ H₀ c ∧ ∃ o, h₂.get? c = some o := by
    intro c hc
    rcases hv with ⟨_, e, _⟩ | ⟨_, c', e, _, h1, h2, hXc, h3⟩
    · rw [e] at hc; cases hc
    · rw [e] at hc; cases hc
      obtain ⟨_, h3⟩ := h3.ex
      refine ⟨h1, h2, _, (hs c (fun q => ?_) hXc).trans h3⟩
      obtain ⟨o, ho⟩ := aEx
      rw [← q, h1] at ho; cases ho
  have hotEq : ∀ b o, h.get? b = some o → Hot env H₀ (fun y => if y = x then nw else own y) b → Hot env H₀ own b := by
    intro b o e q
    rcases q with q | q | q | ⟨y, q⟩
    · exact .inl q
    · exact .inr (.inl q)
    · exact .inr (.inr (.inl q))
    · dsimp only at q
      split at q
      · have := (newc b q).1; rw [e] at this; cases this
      · exact .inr (.inr (.inr ⟨y, q⟩))
  have k2 : ∀ b o, ¬ Hot env H₀ own b → h.get? b = some o → h₂.get? b = some o := fun b o hn e => (hs b (fun q => hn (q ▸ aHot own)) (nX b o e)).trans (hk b o e)
  have k2' : ∀ b o, h.get? b = some o → ∃ o', h₂.get? b = some o' := fun b o e => by
    by_cases q : b = a
    · exact q ▸ frame_ex R₂ ha
    · exact ⟨o, (hs b q (nX b o e)).trans (hk b o e)⟩
  refine ⟨R₂, ?_, ?_, ⟨?_, ?_, ?_⟩, ?_, S.frE, ?_, ?_, ?_⟩
  · intro y d' e
    rw [lookup_setv] at e
    split at e
    · rename_i q; subst q
      cases e
      rcases hv with ⟨_, rfl, r⟩ | ⟨e, _⟩
      · refine ⟨v, by simp [upd], r.mono (fun b o hn e => (hs b (fun q => hn (.inl (q ▸ aHot own))) (fun q => hn (.inr q))).trans e) fun b o _ q => .inl ?_⟩
        rcases q with q | q | q | ⟨z, q⟩
        · exact .inl q
        · exact .inr (.inl q)
        · exact .inr (.inr (.inl q))
        · dsimp only at q
          split at q
          · cases q
          · exact .inr (.inr (.inr ⟨z, q⟩))
      · cases e
    · rename_i q
      obtain ⟨u, h1, h2⟩ := S.plain y d' e
      refine ⟨u, ?_, h2.mono k2 hotEq⟩
      have : Str.ofString y ≠ Str.ofString x := fun e => q (ofString_inj e)
      simp [upd, this, h1]
  · intro y d' e
    rw [lookup_setv] at e
    split at e
    · rename_i q; subst q
      cases e
      rcases hv with ⟨e, _⟩ | ⟨_, c, rfl, rfl, h1, h2, hXc, h3⟩
      · cases e
      · have hca : c ≠ a := fun q => by obtain ⟨o, ho⟩ := aEx; rw [← q, h1] at ho; cases ho
        refine ⟨c, by simp, by simp [upd], h3.mono (fun o e => (hs c hca hXc).trans e) (fun b o hn e => (hs b (fun q => hn (.inl (q ▸ aHot own))) (fun q => hn (.inr q))).trans e) fun b o _ q => ?_⟩
        rcases q with q | q | q | ⟨z, q⟩
        · exact .inl (.inl (.inl q))
        · exact .inl (.inl (.inr (.inl q)))
        · exact .inl (.inl (.inr (.inr (.inl q))))
        · dsimp only at q
          split at q
          · cases q; exact .inr rfl
          · exact .inl (.inl (.inr (.inr (.inr ⟨z, q⟩))))
    · rename_i q
      obtain ⟨c, h1, h2, h4⟩ := S.owned y d' e
      have hca : c ≠ a := by
        obtain ⟨_, _, g2, g3⟩ := S.own1 y c h1
        rcases ha with rfl | ⟨z, e⟩
        · exact g2
        · rintro rfl; exact g3 z e
      have : Str.ofString y ≠ Str.ofString x := fun e => q (ofString_inj e)
      exact ⟨c, by simp [q, h1], by simp [upd, this, h2], h4.mono (fun o e => (hs c hca (nX _ _ e)).trans (hk _ _ e)) k2 fun b o e q => .inl (hotEq b o e q)⟩
  · intro b o e
    exact k2 b o (S.hot.off b o e) (S.hot.keep b o e)
  · intro b q
    rcases q with q | q | q | ⟨y, q⟩
    · obtain ⟨b', o, hb, ho⟩ := S.hot.ex b (.inl q)
      obtain ⟨o', ho'⟩ := k2' b' o ho
      exact ⟨b', o', hb, ho'⟩
    · obtain ⟨o', ho'⟩ := frame_ex R₂ (.inl q)
      exact ⟨b, o', Nat.le_refl _, ho'⟩
    · obtain ⟨o', ho'⟩ := frame_ex R₂ (.inr q)
      exact ⟨b, o', Nat.le_refl _, ho'⟩
    · dsimp only at q
      split at q
      · obtain ⟨_, _, o', ho'⟩ := newc b q
        exact ⟨b, o', Nat.le_refl _, ho'⟩
      · obtain ⟨b', o, hb, ho⟩ := S.hot.ex b (.inr (.inr (.inr ⟨y, q⟩)))
        obtain ⟨o', ho'⟩ := k2' b' o ho
        exact ⟨b', o', hb, ho'⟩
  · intro b o e q
    exact S.hot.off b o e (hotEq b o (S.hot.keep b o e) q)
  · intro b o e
    refine (hs b (fun q => ?_) (nX b o (S.keep b o e))).trans (hk b o (S.keep b o e))
    rcases ha with rfl | ⟨z, ez⟩
    · rw [q, S.frE.1] at e; cases e
    · rw [q, S.frE.2 z a ez] at e; cases e
  · intro y c hc
    split at hc
    · obtain ⟨g1, g2, _⟩ := newc c hc
      refine ⟨?_, g2, ?_, ?_⟩
      · cases e : ent.get? c with
        | none => rfl
        | some o => rw [S.keep c o e] at g1; cases g1
      · rintro rfl
        obtain ⟨o, ho⟩ := frame_ex S.rep (.inl rfl)
        rw [g1] at ho; cases ho
      · intro z ez
        obtain ⟨o, ho⟩ := frame_ex S.rep (.inr ⟨z, ez⟩)
        rw [g1] at ho; cases ho
    · exact S.own1 y c hc
  · intro y z c h1 h2
    split at h1 <;> split at h2
    · rename_i e1 e2; rw [e1, e2]
    · obtain ⟨o, ho⟩ := S.ownx z c h2
      rw [(newc c h1).1] at ho; cases ho
    · obtain ⟨o, ho⟩ := S.ownx y c h1
      rw [(newc c h2).1] at ho; cases ho
    · exact S.inj y z c h1 h2
  · intro y c hc
    split at hc
    · exact (newc c hc).2.2
    · obtain ⟨o, ho⟩ := S.ownx y c hc
      exact k2' c o ho

/-- the owned object of x turns into another -/
theorem StOk.turn (S : StOk w base ent h env H₀ own m σ) {x : String} {a : Addr} {d₀ d : D} (hx : σ.lookup x = some (true, d₀)) (hown : own x = some a) (hs : Heap.SameBut a h h₂) (hd : OwnD w.params h₂ (Hot env H₀ own) a d) :
    StOk w base ent h₂ env H₀ own m (setv σ x (true, d)) := by
  have aHot : Hot env H₀ own a := .inr (.inr (.inr ⟨x, hown⟩))
  obtain ⟨g0, g1, g2, g3⟩ := S.own1 x a hown
  have k2 : ∀ b o, ¬ Hot env H₀ own b → h.get? b = some o → h₂.get? b = some o := fun b o hn e => (hs.2 b fun q => hn (q ▸ aHot)).trans e
  have k2' : ∀ b o, h.get? b = some o → ∃ o', h₂.get? b = some o' := fun b o e => by
    by_cases q : b = a
    · exact q ▸ hd.ex
    · exact ⟨o, (hs.2 b q).trans e⟩
  have R₂ : EnvRep h₂ env m := S.rep.keepsAt fun b o hb e => (hs.2 b (by
    rcases hb with rfl | ⟨z, ez⟩
    · exact Ne.symm g2
    · rintro rfl; exact g3 z ez)).trans e
  refine ⟨R₂, ?_, ?_, ⟨?_, ?_, S.hot.off⟩, ?_, S.frE, S.own1, S.inj, ?_⟩
  · intro y d' e
    rw [lookup_setv] at e
    split at e
    · cases e
    · obtain ⟨u, h1, h2⟩ := S.plain y d' e
      exact ⟨u, h1, h2.mono k2 fun _ _ _ q => q⟩
  · intro y d' e
    rw [lookup_setv] at e
    split at e
    · rename_i q; subst q
      cases e
      obtain ⟨a', q1, q2, _⟩ := S.owned y _ hx
      rw [hown] at q1; cases q1
      exact ⟨a, hown, q2, hd⟩
    · rename_i q
      obtain ⟨c, h1, h2, h4⟩ := S.owned y d' e
      have hca : c ≠ a := fun e => q (S.inj y x a (e ▸ h1) hown)
      exact ⟨c, h1, h2, h4.mono (fun o e => (hs.2 c hca).trans e) k2 fun b o e q => .inl q⟩
  · intro b o e
    exact k2 b o (S.hot.off b o e) (S.hot.keep b o e)
  · intro b q
    obtain ⟨b', o, hb, ho⟩ := S.hot.ex b q
    obtain ⟨o', ho'⟩ := k2' b' o ho
    exact ⟨b', o', hb, ho'⟩
  · intro b o e
    exact (hs.2 b fun q => by rw [q, g0] at e; cases e).trans (S.keep b o e)
  · intro y c hc
    obtain ⟨o, ho⟩ := S.ownx y c hc
    exact k2' c o ho
theorem StOk.append (S : StOk w base ent h env H₀ own m σ) {x : String} {a : Addr} {ds : List D} {vs : Array Value} {n : Nat} {v : Value} {d : D} (hx : σ.lookup x = some (true, .list ds)) (hown : own x = some a)
    (hl : h.get? a = some (lstO vs n)) (hr : RepAll w.params h (fun b => Hot env H₀ own b ∨ b = a) vs.toList ds) (hv : Rep w.params h (Hot env H₀ own) v d) (hsz : (ds ++ [d]).length ≤ big) (hs : Heap.SameBut a h h₂) (hl₂ : ∃ n', h₂.get? a = some (lstO (vs.push v) n')) :
    StOk w base ent h₂ env H₀ own m (setv σ x (true, .list (ds ++ [d]))) := by
  have aHot : Hot env H₀ own a := .inr (.inr (.inr ⟨x, hown⟩))
  have k2 : ∀ b o, ¬ Hot env H₀ own b → h.get? b = some o → h₂.get? b = some o := fun b o hn e => (hs.2 b fun q => hn (q ▸ aHot)).trans e
  obtain ⟨n', e'⟩ := hl₂
  refine S.turn hx hown hs ⟨vs.push v, n', e', hsz, ?_⟩
  have r : RepAll w.params h (fun b => Hot env H₀ own b ∨ b = a) (vs.toList ++ [v]) (ds ++ [d]) := hr.append (.cons (hv.mono (fun _ _ _ e => e) fun b o _ q => q.elim id fun q => q ▸ aHot) .nil)
  have r' := r.mono (h' := h₂) (H' := fun b => Hot env H₀ own b ∨ b = a) (fun b o hn e => k2 b o (fun q => hn (.inl q)) e) fun _ _ _ q => q
  simpa using r'
end
end Mine
namespace Mine
open PySem PySem.SeqAt
section
variable {prog : Program} {w : World} {A : Around}
theorem StOk.ownM {base ent h : Heap} {env : Env} {H₀ : Addr → Prop} {own : Own} {m : Str → Option Value} {σ : St} (S : StOk w base ent h env H₀ own m σ) {x : String} {L : Addr} {ks vs : List D} (hx : σ.lookup x = some (true, .dict ks vs)) (hL : own x = some L) :
    OwnM w.params h (Hot env H₀ own) L ks vs := by
  obtain ⟨L', q1, q2, o⟩ := S.owned x _ hx
  rw [hL] at q1; cases q1
  exact o
theorem setItem_own {s : Shared} {H : Addr → Prop} {L : Addr} {ks vs : List D} {u kv : Value} {d dk : D} {Q : Unit → Shared → Prop} {E : Value → Shared → Prop} (hu : A.units + 1 < cLine) (o : OwnM w.params s.heap H L ks vs)
    (rk : Rep w.params s.heap (fun b => H b ∨ b = L) kv dk) (rv : Rep w.params s.heap (fun b => H b ∨ b = L) u d) (hc : keyOk dk ks = true) (hlen : ks.length < big)
    (hQ : ∀ h' tk dw, Heap.SameBut L s.heap h' → OwnM w.params h' H L (dput ks vs dk d).1 (dput ks vs dk d).2 → Q () { s with heap := h', toks := tk, drawn := dw }) : wpAny (model prog w) A (setItem (.ref L) kv u) Q E s := by
  obtain ⟨es, n, o1, o2, o3, o4, o5, o6, o7, o8⟩ := o
  have e0 : big ≤ sizeLine := by decide
  have hdl : (dput ks vs dk d).1.length ≤ big := by have := dput_len dk d ks vs; omega
  unfold keyOk at hc
  rw [Bool.or_eq_true, Bool.and_eq_true] at hc
  have mv : ∀ {h'}, Heap.SameBut L s.heap h' → ∀ {l : List Value} {ds : List D}, RepAll w.params s.heap (fun b => H b ∨ b = L) l ds → RepAll w.params h' (fun b => H b ∨ b = L) l ds := fun hs _ _ r =>
    r.mono (fun b o hb e => (hs.2 b fun q => hb (.inr q)).trans e) fun _ _ _ q => q
  rcases hc with hc | hc
  · obtain ⟨cs, rfl⟩ := cells_ck hc.2
    obtain ⟨c, rfl⟩ := cell_ck hc.1
    have hl : cs.length = (es.toList.map (·.val)).length := by have := o3.length; simpa using this.symm
    have hcn : cs.Nodup := (List.pairwise_map.mp o7).imp fun h e => h (by rw [e])
    refine wpAny_setItem_pairs (knd := cellKind prog w) (rep_ck rk) (dictOf_rep o1 o3 o5 o7) (fun h' hm hs => ?_) (by
      simp only [List.length_map] at hlen
      rw [List.length_zip]; omega)
    obtain ⟨p1, p2⟩ := stored_dput (k := c) rv hl hcn o4
    obtain ⟨es', n', r1, r2, r3, r4, r5, r6⟩ := rep_dictOf (H := fun b => H b ∨ b = L) hm
    rw [p1] at r2 r4 r5 r6
    exact hQ _ _ _ hs ⟨es', n', r1, hdl, r2, r3 ▸ mv hs p2, r4, r5, r6, o8⟩
  · cases hc
end
end Mine
namespace Mine
open PySem PySem.SeqAt

noncomputable def frm (env : Env) (b : Addr) : Prop := b = env.locals ∨ ∃ x, env.cells.lookup x = some b

noncomputable def SPost (w : World) (base ent : Heap) (env : Env) (H₀ : Addr → Prop) (s : Shared) (own : Own) (r : Fl × St) (f : Flow) (s' : Shared) : Prop :=
  ∃ h' tk dw, s' = { s with heap := h', toks := tk, drawn := dw } ∧ (∀ b o, s.heap.get? b = some o → ¬ frm env b → (∀ x, own x ≠ some b) → h'.get? b = some o) ∧ (∀ b o, s.heap.get? b = some o → ∃ o', h'.get? b = some o') ∧
  match r.1 with
  | .next => f = .next ∧ ∃ own' m', StOk w base ent h' env H₀ own' m' r.2 ∧ ∀ x a, own' x = some a → own x = some a ∨ s.heap.get? a = none
  | .ret fr d => ∃ v, f = .ret v ∧ Rep w.params h' H₀ v d ∧ (∀ b o, ent.get? b = some o → h'.get? b = some o) ∧ (fr = true → ∃ a, v = .ref a ∧ ent.get? a = none ∧ OwnD w.params h' H₀ a d)

section
variable {prog : Program} {w : World} {A : Around} {base : Heap} {mg mb : Str → Option Value} {cf : CF}

noncomputable def SS (prog : Program) (w : World) (A : Around) (base : Heap) (cf : CF) (ms : MS) : Prop :=
  ∀ (s : Shared) (env : Env) (st : Stmt) (H₀ : Addr → Prop) (ent : Heap) (own : Own) (m : Str → Option Value) (σ : St) (r : Fl × St) (E : Value → Shared → Prop), chkS env.kindOf st ms = true → StOk w base ent s.heap env H₀ own m σ →
    exS cf ms σ = some r → wpAny (model prog w) A (exec st env) (SPost w base ent env H₀ s own r) E s
noncomputable def SSs (prog : Program) (w : World) (A : Around) (base : Heap) (cf : CF) (ms : List MS) : Prop :=
  ∀ (s : Shared) (env : Env) (ss : List Stmt) (H₀ : Addr → Prop) (ent : Heap) (own : Own) (m : Str → Option Value) (σ : St) (r : Fl × St) (E : Value → Shared → Prop), chkSs env.kindOf ss ms = true → StOk w base ent s.heap env H₀ own m σ →
    exSs cf ms σ = some r → wpAny (model prog w) A (execs ss env) (SPost w base ent env H₀ s own r) E s

theorem own_sub {s : Shared} {own own' : Own} (hh : ∀ x a, own' x = some a → own x = some a ∨ s.heap.get? a = none) {b : Addr} {o : Obj} (e : s.heap.get? b = some o) (hn : ∀ x, own x ≠ some b) : ∀ x, own' x ≠ some b := by
  intro x q
  rcases hh x b q with q | q
  · exact hn x q
  · rw [e] at q; cases q

theorem SPost.trans {ent : Heap} {env : Env} {H₀ : Addr → Prop} {s s₁ : Shared} {own own₁ : Own} {r : Fl × St} {f : Flow} {s' : Shared} (h₁ : Heap) (tk₁ : Nat) (dw₁ : Drawn) (e₁ : s₁ = { s with heap := h₁, toks := tk₁, drawn := dw₁ })
    (k₁ : ∀ b o, s.heap.get? b = some o → ¬ frm env b → (∀ x, own x ≠ some b) → h₁.get? b = some o) (x₁ : ∀ b o, s.heap.get? b = some o → ∃ o', h₁.get? b = some o') (o₁ : ∀ x a, own₁ x = some a → own x = some a ∨ s.heap.get? a = none)
    (q : SPost w base ent env H₀ s₁ own₁ r f s') : SPost w base ent env H₀ s own r f s' := by
  subst e₁
  obtain ⟨h', tk, dw, rfl, k, x, q⟩ := q
  have newn : ∀ a, h₁.get? a = none → s.heap.get? a = none := by
    intro a e
    cases q : s.heap.get? a with
    | none => rfl
    | some o =>
      obtain ⟨o', e'⟩ := x₁ a o q
      rw [e] at e'; cases e'
  refine ⟨h', tk, dw, rfl, fun b o e hf ho => k b o (k₁ b o e hf ho) hf (own_sub o₁ e ho), fun b o e => (fun ⟨o', e'⟩ => x b o' e') (x₁ b o e), ?_⟩
  cases hr : r.1 with
  | next =>
    rw [hr] at q
    obtain ⟨q1, own', m', q2, q3⟩ := q
    refine ⟨q1, own', m', q2, fun x a e => ?_⟩
    rcases q3 x a e with e | e
    · exact o₁ x a e
    · exact .inr (newn a e)
  | ret fr d => rw [hr] at q; exact q

/-- a state after a run of an expression -/
theorem StOk.settle {ent h : Heap} {env : Env} {H₀ : Addr → Prop} {own : Own} {m : Str → Option Value} {σ : St} (S : StOk w base ent h env H₀ own m σ) (d : D) (ns : List String) :
    ∃ own', StOk w base ent h env H₀ own' m (Mine.settle d ns σ) ∧ (∀ x a, own' x = some a → own x = some a) ∧ ((d.scalar = true ∧ own' = own) ∨ (d.scalar = false ∧ own' = own.less ns)) := by
  unfold Mine.settle
  cases hd : d.scalar with
  | true => exact ⟨own, S, fun _ _ e => e, .inl ⟨rfl, rfl⟩⟩
  | false => exact ⟨own.less ns, S.freeze ns, fun x a e => by unfold Own.less at e; split at e <;> first | cases e | exact e, .inr ⟨rfl, rfl⟩⟩

theorem store_core {s : Shared} {env : Env} {H₀ : Addr → Prop} {ent : Heap} {own : Own} {m : Str → Option Value} {σ : St} {x : String} {ns : List String} {d : D} {fr : Bool} {v : Value} {h₁ h₂ : Heap} {a : Addr} {X : Addr → Prop} {tk : Nat} {dw : Drawn}
    (S : StOk w base ent s.heap env H₀ own m σ) (hk : ∀ b o, s.heap.get? b = some o → h₁.get? b = some o) (rv : Rep w.params h₁ (fun b => Hot env H₀ (own.less ns) b ∨ X b) v d)
    (hfr : fr = true → ∃ c, v = .ref c ∧ s.heap.get? c = none ∧ OwnD w.params h₁ (fun b => Hot env H₀ (own.less ns) b ∨ X b) c d)
    (R₂ : EnvRep h₂ env (upd m (Str.ofString x) v)) (ha : frm env a) (hX : ∀ b, X b → s.heap.get? b = none) (hs : ∀ b, b ≠ a → ¬ X b → h₂.get? b = h₁.get? b) :
    SPost w base ent env H₀ s own (.next, setv (Mine.settle d ns σ) x (fr, d)) .next { s with heap := h₂, toks := tk, drawn := dw } := by
  obtain ⟨own', S', hsub, hcase⟩ := S.settle d ns
  have hv : (fr = false ∧ (if fr then (match v with | .ref c => some c | _ => none) else none) = none ∧ Rep w.params h₁ (fun b => Hot env H₀ own' b ∨ X b) v d) ∨
      (fr = true ∧ ∃ c, (if fr then (match v with | .ref c => some c | _ => none) else none) = some c ∧ v = .ref c ∧ s.heap.get? c = none ∧ ¬ H₀ c ∧ ¬ X c ∧ OwnD w.params h₁ (fun b => Hot env H₀ own' b ∨ X b) c d) := by
    cases fr with
    | false =>
      refine .inl ⟨rfl, rfl, ?_⟩
      rcases hcase with ⟨e1, _⟩ | ⟨_, e2⟩
      · exact rv.scalar e1
      · rw [e2]; exact rv
    | true =>
      obtain ⟨c, e1, e3, e4⟩ := hfr rfl
      subst e1
      rcases hcase with ⟨e5, _⟩ | ⟨_, e6⟩
      · rw [e4.scalar] at e5; cases e5
      · rw [e6]
        have hn := rv.off
        exact .inr ⟨rfl, c, rfl, rfl, e3, fun q => hn (.inl (.inl q)), fun q => hn (.inr q), e4⟩
  have S₂ := S'.assign (x := x) (v := v) (fr := fr) (d := d) hk R₂ ha hX hs hv
  have nX : ∀ b o, s.heap.get? b = some o → ¬ X b := fun b o e q => by have := hX b q; rw [e] at this; cases this
  refine ⟨h₂, tk, dw, rfl, fun b o e hf _ => (hs b (fun q => hf (q ▸ ha)) (nX b o e)).trans (hk b o e), fun b o e => ?_, rfl, _, _, S₂, fun y c hc => ?_⟩
  · by_cases q : b = a
    · exact q ▸ frame_ex R₂ ha
    · exact ⟨o, (hs b q (nX b o e)).trans (hk b o e)⟩
  · split at hc
    · rcases hv with ⟨_, e, _⟩ | ⟨_, c', e, _, h1, _⟩
      · rw [e] at hc; cases hc
      · rw [e] at hc; cases hc; exact .inr h1
    · exact .inl (hsub y c hc)

theorem isStore_kind {k : KD} {x : Str} (hx : isStore k x = true) : k x = some .local ∨ k x = some .cell := by
  unfold isStore at hx
  simp only [Bool.and_eq_true, Bool.or_eq_true, beq_iff_eq] at hx
  exact hx.1

/-- a store of an expression's value into a name -/
theorem store_value {s s₁ : Shared} {env : Env} {H₀ : Addr → Prop} {ent : Heap} {own : Own} {m : Str → Option Value} {σ : St} {x : String} {e : ME} {d : D} {fr : Bool} {v : Value} {E : Value → Shared → Prop} {Q : Unit → Shared → Prop}
    (S : StOk w base ent s.heap env H₀ own m σ) (hx : isStore env.kindOf (Str.ofString x) = true) (q : PostF w s (Hot env H₀ (own.less e.names)) d fr v s₁)
    (hQ : ∀ s₂, SPost w base ent env H₀ s own (.next, setv (Mine.settle d e.names σ) x (fr, d)) .next s₂ → Q () s₂) :
    wpAny (model prog w) A (storeName env (Str.ofString x) v) Q E s₁ := by
  obtain ⟨kp, rv, hfr⟩ := q
  obtain ⟨h₁, tk₁, dw₁, rfl, hk⟩ := kp
  refine store_snd (s := { s with heap := h₁, toks := tk₁, drawn := dw₁ }) (S.rep.keeps hk) (isStore_kind hx) fun h₂ tk₂ dw₂ a R₂ ha hs => hQ _ ?_
  refine store_core (X := fun _ => False) S hk (rv.sub fun _ q => q.elim id False.elim) (fun hf => ?_) R₂ (ha.imp id fun e => ⟨_, e⟩) (fun _ q => q.elim) fun b hb _ => hs.2 b hb
  obtain ⟨c, e1, e3, e4⟩ := hfr hf
  exact ⟨c, e1, e3, e4.mono (fun _ e => e) (fun _ _ _ e => e) fun _ _ _ q => q.elim .inl False.elim⟩

theorem ss_assign (G : GOk mg mb base) (C : CSound prog w base mg cf A) (hh : A.handled = none) (hu : A.units + 1 < cLine) (x : String) (e : ME) : SS prog w A base cf (.assign x e) := by
  intro s env st H₀ ent own m σ r E hc S hev
  replace hc := inv_assign hc; obtain ⟨_, _, _, _, rfl, hc⟩ := hc
  · rename_i y p v pos
    simp only [Bool.and_eq_true, beq_iff_eq] at hc
    obtain ⟨⟨rfl, hst⟩, hc⟩ := hc
    simp only [xs_assign, xs_append, xs_setk, xs_ite, xs_for_, xs_ret, xs_bad] at hev
    split at hev
    · rename_i d fr hd
      cases hev
      have Sf := (all_E G C hh hu e).2.2
      have nv := S.nv e.names
      have hw : HOk base s.heap (Hot env H₀ (own.less e.names)) := (S.freeze e.names).hot
      have plain : swapsWith v (some (.Name (Str.ofString x) p)) pos.line env = pure false → wpAny (model prog w) A (exec (.Assign [.Name (Str.ofString x) p] v pos) env) (SPost w base ent env H₀ s own (.next, setv (Mine.settle d e.names σ) x (fr, d))) E s := fun hsw => by
        refine wpAny_Assign_Name (wpAny_mono (Sf s env v _ (vis σ) m d fr E hc S.rep hw nv hd) (fun u s₁ q => ?_) fun _ _ e => e) hsw
        exact store_value S hst q fun s₂ q => q
      by_cases hcomp : notComp v = true
      · refine plain ?_
        cases v <;> first | rfl | cases hcomp
      · have hl : ∃ t gens scope lp, v = .ListComp t gens scope lp := by
          cases v with
          | ListComp t g sc lp => exact ⟨t, g, sc, lp, rfl⟩
          | SetComp => have hs := chk_shape hc; cases e <;> cases hs
          | DictComp => have hs := chk_shape hc; cases e <;> cases hs
          | _ => exact absurd rfl hcomp
        obtain ⟨t, gens, scope, lp, rfl⟩ := hl
        have hsw : ∃ b, swapsWith (.ListComp t gens scope lp) (some (.Name (Str.ofString x) p)) pos.line env = pure b := ⟨_, rfl⟩
        obtain ⟨b, hsw⟩ := hsw
        cases b with
        | false => exact plain hsw
        | true =>
          have he : ∃ elt z src cs, e = .comp elt z src cs := by have hs := chk_shape hc; cases e <;> first | exact ⟨_, _, _, _, rfl⟩ | cases hs
          obtain ⟨elt, z, src, cs, rfl⟩ := he
          simp only [evF_comp, Option.map_eq_some_iff] at hd
          obtain ⟨d', hd, e'⟩ := hd
          cases e'
          obtain ⟨t', y', py', it', ifs', scope', lp', heq, _⟩ := inv_comp hc
          · cases heq
            rw [exec_Assign_Name_used _ _ _ _ hsw]
            refine wpAny_bind (wpAny_standAt (wpAny_bind ?_))
            show wpAny _ A (do let _ ← comprehension (.ListComp t [⟨.Name y' py', it', ifs', 0⟩] scope lp) scope env _ (newList []) false (eval it' env) (some (assign (.Name (Str.ofString x) p) env))) _ _ s
            refine wpAny_bind (wpAny_mono (comp_snd (use := some (assign (.Name (Str.ofString x) p) env)) (Q := fun _ s' => SPost w base ent env H₀ s own (.next, setv (Mine.settle d (ME.comp elt z src cs).names σ) x (true, d)) .next s') hh (all_E G C hh hu elt).1 (all_E G C hh hu src).1 (all_Es G C hh hu cs).2.2.1 hc S.rep hw nv hd ?_)
              (fun _ s' hq => wpAny_pure (wpAny_pure hq)) fun _ _ e => e)
            intro L Cc h' tk dw m' out hdl hL hC hLC hns hown hk
            subst hdl
            show wpAny _ A (assign (.Name (Str.ofString x) p) env (.ref L)) _ _ _
            refine wpAny_assign_Name (store_snd (s := { s with heap := h', toks := tk, drawn := dw }) (S.rep.keeps hk) (isStore_kind hst) fun h₂ tk₂ dw₂ a R₂ ha hs => ?_)
            have ha' : frm env a := ha.imp id fun e => ⟨_, e⟩
            obtain ⟨oa, hoa⟩ := frame_ex S.rep ha'
            have haC : a ≠ Cc := fun q => by rw [q, hC] at hoa; cases hoa
            refine ⟨m', hns.sameBut hs (Ne.symm haC), fun h₃ hs₃ => ?_⟩
            have hLn : s.heap.get? L = none := by
              cases e : s.heap.get? L with
              | none => rfl
              | some o => exact absurd (hL _ _ e) (Nat.lt_irrefl _)
            have hLo : ¬ Hot env H₀ (own.less (ME.comp elt z src cs).names) L := fun q => by
              obtain ⟨b, o, hb, ho⟩ := hw.ex L q
              exact Nat.lt_irrefl _ (Nat.lt_of_le_of_lt hb (hL b o ho))
            refine store_core (X := fun b => b = Cc) (h₁ := h') S hk (hown.rep fun q => q.elim hLo hLC) (fun _ => ⟨L, rfl, hLn, hown⟩) (R₂.keepsAt fun b o hb e => (hs₃.2 b fun q => ?_).trans e) ha' (fun b q => q ▸ hC) fun b hb1 hb2 => (hs₃.2 b hb2).trans (hs.2 b hb1)
            obtain ⟨ob, hob⟩ := frame_ex S.rep hb
            rw [q, hC] at hob; cases hob
    · cases hev
end
end Mine
namespace Mine
open PySem PySem.SeqAt

theorem freeze_nil : ∀ (σ : St), freeze [] σ = σ
  | [] => rfl
  | (x, (o, d)) :: r => by
    have := freeze_nil r
    unfold freeze at this ⊢
    rw [List.map_cons, this]
    simp
theorem settle_nil (d : D) (σ : St) : settle d [] σ = σ := by
  unfold settle
  split
  · rfl
  · exact freeze_nil σ
theorem less_nil (own : Own) : own.less [] = own := by
  funext x
  simp [Own.less]

section
variable {prog : Program} {w : World} {A : Around} {base : Heap} {mg mb : Str → Option Value} {cf : CF}
variable {ent h h' : Heap} {env : Env} {H₀ : Addr → Prop} {own : Own} {m : Str → Option Value} {σ : St} {I : Addr}

theorem hot_add {b : Addr} (q : Hot env (fun b => H₀ b ∨ b = I) own b) : Hot env H₀ own b ∨ b = I := by
  rcases q with (q | q) | q | q | q
  · exact .inl (.inl q)
  · exact .inr q
  · exact .inl (.inr (.inl q))
  · exact .inl (.inr (.inr (.inl q)))
  · exact .inl (.inr (.inr (.inr q)))
theorem hot_sub {b : Addr} (q : Hot env H₀ own b) : Hot env (fun b => H₀ b ∨ b = I) own b := by
  rcases q with q | q | q | q
  · exact .inl (.inl q)
  · exact .inr (.inl q)
  · exact .inr (.inr (.inl q))
  · exact .inr (.inr (.inr q))

theorem StOk.addH (S : StOk w base ent h env H₀ own m σ) (hk : ∀ b o, h.get? b = some o → h'.get? b = some o) (hI : h.get? I = none) (hIx : ∃ o, h'.get? I = some o) :
    StOk w base ent h' env (fun b => H₀ b ∨ b = I) own m σ := by
  have S' := S.keeps hk
  have hH : ∀ b o, h.get? b = some o → Hot env (fun b => H₀ b ∨ b = I) own b → Hot env H₀ own b := fun b o e q => (hot_add q).elim id fun q => by rw [q, hI] at e; cases e
  refine ⟨S'.rep, fun x d e => ?_, fun x d e => ?_, ⟨S'.hot.keep, fun b q => ?_, fun b o e q => S.hot.off b o e (hH b o (S.hot.keep b o e) q)⟩, S'.keep, S.frE, fun x a e => ?_, S.inj, S'.ownx⟩
  · obtain ⟨v, h1, h2⟩ := S.plain x d e
    exact ⟨v, h1, h2.mono (fun b o _ e => hk b o e) hH⟩
  · obtain ⟨a, h1, h2, h4⟩ := S.owned x d e
    exact ⟨a, h1, h2, h4.mono (fun o e => hk _ o e) (fun b o _ e => hk b o e) fun b o e q => .inl (hH b o e q)⟩
  · rcases hot_add q with q | q
    · exact S'.hot.ex b q
    · obtain ⟨o, ho⟩ := hIx
      exact ⟨I, o, q ▸ Nat.le_refl _, ho⟩
  · obtain ⟨g1, g2, g3⟩ := S.own1 x a e
    refine ⟨g1, fun q => q.elim g2 fun q => ?_, g3⟩
    obtain ⟨o, ho⟩ := S.ownx x a e
    rw [q, hI] at ho; cases ho

/-- only I has turned -/
theorem StOk.turnI (S : StOk w base ent h env (fun b => H₀ b ∨ b = I) own m σ) (hk : ∀ b o, b ≠ I → h.get? b = some o → h'.get? b = some o) (hIx : ∃ o, h'.get? I = some o) (hf : ¬ frm env I) (hE : ent.get? I = none) :
    StOk w base ent h' env (fun b => H₀ b ∨ b = I) own m σ := by
  have IH : Hot env (fun b => H₀ b ∨ b = I) own I := .inl (.inr rfl)
  have k2 : ∀ b o, ¬ Hot env (fun b => H₀ b ∨ b = I) own b → h.get? b = some o → h'.get? b = some o := fun b o hn e => hk b o (fun q => hn (q ▸ IH)) e
  have k3 : ∀ b o, h.get? b = some o → ∃ o', h'.get? b = some o' := fun b o e => by
    by_cases q : b = I
    · exact q ▸ hIx
    · exact ⟨o, hk b o q e⟩
  refine ⟨S.rep.keepsAt fun b o hb e => hk b o (fun q => hf (q ▸ hb)) e, fun x d e => ?_, fun x d e => ?_, ⟨fun b o e => k2 b o (S.hot.off b o e) (S.hot.keep b o e), fun b q => ?_, S.hot.off⟩, fun b o e => hk b o (fun q => by rw [q, hE] at e; cases e) (S.keep b o e), S.frE, S.own1, S.inj, fun x a e => (fun ⟨o, ho⟩ => k3 a o ho) (S.ownx x a e)⟩
  · obtain ⟨v, h1, h2⟩ := S.plain x d e
    exact ⟨v, h1, h2.mono k2 fun _ _ _ q => q⟩
  · obtain ⟨a, h1, h2, h4⟩ := S.owned x d e
    exact ⟨a, h1, h2, h4.mono (fun o e => hk _ o (fun q => (S.own1 x a h1).2.1 (.inr q)) e) k2 fun b o e q => .inl q⟩
  · obtain ⟨b', o, hb, ho⟩ := S.hot.ex b q
    obtain ⟨o', ho'⟩ := k3 b' o ho
    exact ⟨b', o', hb, ho'⟩

/-- the loop is left: I is nobody's -/
theorem StOk.leave (S : StOk w base ent h env (fun b => H₀ b ∨ b = I) own m σ) (hk : ∀ b o, b ≠ I → h.get? b = some o → h'.get? b = some o) (hx : Ex h' H₀) (hf : ¬ frm env I) (hE : ent.get? I = none) :
    StOk w base ent h' env H₀ own m σ := by
  have IH : Hot env (fun b => H₀ b ∨ b = I) own I := .inl (.inr rfl)
  have k2 : ∀ b o, ¬ Hot env (fun b => H₀ b ∨ b = I) own b → h.get? b = some o → h'.get? b = some o := fun b o hn e => hk b o (fun q => hn (q ▸ IH)) e
  have ownk : ∀ x a, own x = some a → ∃ o, h'.get? a = some o := fun x a e => by
    obtain ⟨o, ho⟩ := S.ownx x a e
    exact ⟨o, hk a o (fun q => (S.own1 x a e).2.1 (.inr q)) ho⟩
  have R : EnvRep h' env m := S.rep.keepsAt fun b o hb e => hk b o (fun q => hf (q ▸ hb)) e
  refine ⟨R, fun x d e => ?_, fun x d e => ?_, ⟨fun b o e => k2 b o (S.hot.off b o e) (S.hot.keep b o e), fun b q => ?_, fun b o e q => S.hot.off b o e (hot_sub q)⟩, fun b o e => hk b o (fun q => by rw [q, hE] at e; cases e) (S.keep b o e), S.frE, fun x a e => ?_, S.inj, ownk⟩
  · obtain ⟨v, h1, h2⟩ := S.plain x d e
    exact ⟨v, h1, h2.mono k2 fun _ _ _ q => hot_sub q⟩
  · obtain ⟨a, h1, h2, h4⟩ := S.owned x d e
    exact ⟨a, h1, h2, h4.mono (fun o e => hk _ o (fun q => (S.own1 x a h1).2.1 (.inr q)) e) k2 fun b o e q => .inl (hot_sub q)⟩
  · rcases q with q | q | q | ⟨y, q⟩
    · exact hx b q
    · obtain ⟨o, ho⟩ := frame_ex R (.inl q); exact ⟨b, o, Nat.le_refl _, ho⟩
    · obtain ⟨o, ho⟩ := frame_ex R (.inr q); exact ⟨b, o, Nat.le_refl _, ho⟩
    · obtain ⟨o, ho⟩ := ownk y b q; exact ⟨b, o, Nat.le_refl _, ho⟩
  · obtain ⟨g1, g2, g3⟩ := S.own1 x a e
    exact ⟨g1, fun q => g2 (.inl q), g3⟩

theorem ss_ret (G : GOk mg mb base) (C : CSound prog w base mg cf A) (hh : A.handled = none) (hu : A.units + 1 < cLine) (e : ME) : SS prog w A base cf (.ret e) := by
  intro s env st H₀ ent own m σ r E hc S hev
  replace hc := inv_ret hc; obtain ⟨_, _, rfl, hc⟩ := hc
  · rename_i v pos
    have gen : ∀ d fr, evF cf (vis σ) e = some (d, fr) → wpAny (model prog w) A (exec (.Return (some v) pos) env) (SPost w base ent env H₀ s own (.ret fr d, σ)) E s := by
      intro d fr hd
      refine wpAny_Return_some (wpAny_mono ((all_E G C hh hu e).2.2 s env v _ (vis σ) m d fr E hc S.rep (S.freeze e.names).hot (S.nv e.names) hd) (fun u s₁ q => ?_) fun _ _ e => e)
      obtain ⟨⟨h₁, tk₁, dw₁, rfl, hk⟩, rv, hfr⟩ := q
      refine ⟨h₁, tk₁, dw₁, rfl, fun b o e _ _ => hk b o e, fun b o e => ⟨o, hk b o e⟩, u, rfl, rv.sub fun _ q => .inl q, fun b o e => hk b o (S.keep b o e), fun hf => ?_⟩
      obtain ⟨a, e1, e3, e4⟩ := hfr hf
      refine ⟨a, e1, ?_, e4.mono (fun _ e => e) (fun _ _ _ e => e) fun _ _ _ q => .inl (.inl q)⟩
      cases q : ent.get? a with
      | none => rfl
      | some o => rw [S.keep a o q] at e3; cases e3
    simp only [xs_assign, xs_append, xs_setk, xs_ite, xs_for_, xs_ret, xs_bad] at hev
    split at hev
    · rename_i x
      split at hev
      · rename_i fr d hd
        cases hev
        have hv : (vis σ).lookup x = some d := by rw [lookup_vis, hd]; rfl
        cases fr with
        | false => exact gen d false (by show (evE cf (vis σ) (.var _)).map _ = _; simp only [ev_var, ev_glob, ev_int, ev_str, ev_bool, ev_none, ev_bin, ev_cmp, ev_bop, ev_not, ev_neg, ev_tup, ev_lst, ev_dct, ev_sub, ev_sl, ev_comp, ev_call, ev_isi, ev_blt, ev_lcp, hv]; rfl)
        | true =>
          obtain ⟨a, q1, q2, q4⟩ := S.owned x d hd
          replace hc := inv_var hc; obtain ⟨_, _, rfl, hc⟩ := hc
          · simp only [Bool.and_eq_true, beq_iff_eq] at hc
            obtain ⟨rfl, hvar⟩ := hc
            obtain ⟨g1, g2, g3⟩ := S.own1 x a q1
            have q5 : OwnD w.params s.heap H₀ a d := q4.mono (fun _ e => e) (fun _ _ _ e => e) fun _ _ _ q => .inl (.inl q)
            refine wpAny_Return_some (load_snd S.rep hvar q2 ?_)
            exact ⟨s.heap, s.toks, s.drawn, rfl, fun b o e _ _ => e, fun b o e => ⟨o, e⟩, _, rfl, q5.rep g2, S.keep, fun _ => ⟨a, rfl, g1, q5⟩⟩
      · cases hev
    · split at hev
      · rename_i d fr hd
        cases hev
        exact gen d fr hd
      · cases hev

theorem ss_append (G : GOk mg mb base) (C : CSound prog w base mg cf A) (hh : A.handled = none) (hu : A.units + 1 < cLine) (x : String) (e : ME) : SS prog w A base cf (.append x e) := by
  intro s env st H₀ ent own m σ r E hc S hev
  replace hc := inv_append hc; obtain ⟨_, _, _, _, _, _, _, rfl, hc⟩ := hc
  · rename_i y yp at_ ap a p pos
    simp only [Bool.and_eq_true, beq_iff_eq] at hc
    obtain ⟨⟨⟨⟨rfl, hst⟩, rfl⟩, hline⟩, hc⟩ := hc
    simp only [xs_assign, xs_append, xs_setk, xs_ite, xs_for_, xs_ret, xs_bad] at hev
    split at hev
    · rename_i d hd
      obtain ⟨own', S', hsub, hcase⟩ := S.settle d e.names
      split at hev
      · rename_i ds hds
        split at hev
        · rename_i hlen
          cases hev
          obtain ⟨L, q1, q2, vs, n, q4, q5, q6⟩ := S'.owned x _ hds
          have hvar : isVar env.kindOf (Str.ofString x) = true := by unfold isStore at hst; simp only [Bool.and_eq_true] at hst; exact hst.2
          have hstar : starEach [a] env = [(false, eval a env)] := spliced_ok (es := [a]) (ms := [e]) (k := env.kindOf) (by simp [cs_nil, cs_cons, cs_consn, hc]) env
          refine wpAny_Expr (wpAny_Call_append rfl (by rw [hstar]; rfl) (by simpa using hline) (by rw [hstar]; rfl) (load_snd S.rep hvar q2 ⟨L, vs, rfl, ⟨_, n, q4, rfl, rfl, rfl⟩, ?_⟩)) (by unfold interactive; rw [S.rep.kind]; rfl) rfl
          refine wpAny_mono ((all_E G C hh hu e).1 s env a _ (vis σ) m d E hc S.rep (S.freeze e.names).hot (S.nv e.names) hd) (fun u s₁ q => ?_) fun _ _ e => e
          obtain ⟨⟨h₁, tk₁, dw₁, rfl, hk⟩, rv⟩ := q
          have rv' : Rep w.params h₁ (Hot env H₀ own') u d := by
            rcases hcase with ⟨e1, _⟩ | ⟨_, e2⟩
            · exact rv.scalar e1
            · rw [e2]; exact rv
          have e1 := q6.length
          simp only [Array.length_toList] at e1
          refine wpAny_list_append_plain (items := vs) ⟨n, hk _ _ q4⟩ (fun h₂ hl₂ hs₂ => ?_) (by rw [e1]; exact q5)
          have hl₂' : ∃ n', h₂.get? L = some (lstO (vs.push u) n') := hl₂
          have S₂ := (S'.keeps hk).append (x := x) (d := d) (v := u) hds q1 (hk _ _ q4) (q6.keeps hk) rv' (by simp; omega) hs₂ hl₂'
          refine ⟨h₂, tk₁, dw₁, rfl, fun b o e hf ho => ?_, fun b o e => ?_, rfl, own', m, S₂, fun y a e => .inl (hsub y a e)⟩
          · exact (hs₂.2 b fun q => ho x (hsub x b (q ▸ q1))).trans (hk b o e)
          · by_cases q : b = L
            · obtain ⟨n', e'⟩ := hl₂'; exact ⟨_, q ▸ e'⟩
            · exact ⟨o, (hs₂.2 b q).trans (hk b o e)⟩
        · cases hev
      · cases hev
    · cases hev

theorem Hot.mono {env : Env} {H₀ : Addr → Prop} {own own' : Own} (hs : ∀ x a, own' x = some a → own x = some a) {b : Addr} (h : Hot env H₀ own' b) : Hot env H₀ own b :=
  h.imp id fun h => h.imp id fun h => h.imp id fun ⟨x, h⟩ => ⟨x, hs x b h⟩
theorem ss_setk (G : GOk mg mb base) (C : CSound prog w base mg cf A) (hh : A.handled = none) (hu : A.units + 1 < cLine) (x : String) (ke e : ME) : SS prog w A base cf (.setk x ke e) := by
  intro s env st H₀ ent own m σ r E hc S hev
  replace hc := inv_setk hc; obtain ⟨y, yp, i, p, v, pos, rfl, hc⟩ := hc
  simp only [Bool.and_eq_true, beq_iff_eq] at hc
  obtain ⟨⟨⟨rfl, hst⟩, hci⟩, hcv⟩ := hc
  simp only [xs_assign, xs_append, xs_setk, xs_ite, xs_for_, xs_ret, xs_bad] at hev
  split at hev
  · rename_i d hd
    split at hev
    · rename_i dk hdk
      obtain ⟨own1, S1, hsub1, hcase1⟩ := S.settle d e.names
      obtain ⟨own', S', hsub2, hcase2⟩ := S1.settle dk ke.names
      split at hev
      · rename_i ks vs hds
        split at hev
        · rename_i hcond
          cases hev
          simp only [Bool.and_eq_true, decide_eq_true_eq] at hcond
          obtain ⟨L, q1, q2, o⟩ := S'.owned x _ hds
          have hvar : isVar env.kindOf (Str.ofString x) = true := by unfold isStore at hst; simp only [Bool.and_eq_true] at hst; exact hst.2
          refine wpAny_Assign_Subscript (wpAny_mono ((all_E G C hh hu e).1 s env v _ (vis σ) m d E hcv S.rep (S.freeze e.names).hot (S.nv e.names) hd) (fun u s₁ q => ?_) fun _ _ e => e) (by cases v <;> rfl)
          obtain ⟨⟨h₁, tk₁, dw₁, rfl, hk⟩, rv⟩ := q
          refine load_snd (s := { s with heap := h₁, toks := tk₁, drawn := dw₁ }) (S.rep.keeps hk) hvar q2 ?_
          have Sk := S.keeps hk
          refine wpAny_mono ((all_E G C hh hu ke).1 { s with heap := h₁, toks := tk₁, drawn := dw₁ } env i _ (vis σ) m _ E hci Sk.rep (Sk.freeze ke.names).hot (Sk.nv ke.names) hdk) (fun kv s₂ q => ?_) fun _ _ e => e
          obtain ⟨⟨h₂, tk₂, dw₂, rfl, hk2⟩, rk⟩ := q
          have k02 : ∀ b o, s.heap.get? b = some o → h₂.get? b = some o := fun b o e => hk2 b o (hk b o e)
          have LHot : ∀ b, Hot env H₀ own' b ∨ b = L → Hot env H₀ own' b := fun b q => q.elim id fun q => q ▸ .inr (.inr (.inr ⟨x, q1⟩))
          have rv' : Rep w.params h₂ (fun b => Hot env H₀ own' b ∨ b = L) u d := by
            rcases hcase1 with ⟨e1, _⟩ | ⟨_, e2⟩
            · exact rv.scalar e1
            · exact rv.mono (fun b o _ e => hk2 b o e) fun b o _ q => e2 ▸ (LHot b q).mono hsub2
          have rk' : Rep w.params h₂ (fun b => Hot env H₀ own' b ∨ b = L) kv dk := by
            rcases hcase2 with ⟨e1, _⟩ | ⟨_, e2⟩
            · exact rk.scalar e1
            · refine rk.sub fun b q => ?_
              have q := LHot b q
              rw [e2] at q
              exact q.mono fun x a e => by unfold Own.less at e ⊢; split at e <;> first | cases e | (rename_i hx; rw [if_neg hx]; exact hsub1 x a e)
          refine setItem_own (s := { s with heap := h₂, toks := tk₂, drawn := dw₂ }) hu ((S'.keeps k02).ownM hds q1) rk' rv' hcond.1 hcond.2 fun h' tk dw hs own2 => ?_
          have S₂ := (S'.keeps k02).turn hds q1 hs (d := .dict _ _) own2
          refine ⟨h', tk, dw, rfl, fun b o e hf ho => ?_, fun b o e => ?_, rfl, own', m, S₂, fun y a e => .inl (hsub1 y a (hsub2 y a e))⟩
          · exact (hs.2 b fun q => ho x (hsub1 x b (hsub2 x b (q ▸ q1)))).trans (k02 b o e)
          · by_cases q : b = L
            · obtain ⟨es', n', r1, _⟩ := own2
              exact ⟨_, q ▸ r1⟩
            · exact ⟨o, (hs.2 b q).trans (k02 b o e)⟩
        · cases hev
      · cases hev
    · cases hev
  · cases hev

theorem sss_nil : SSs prog w A base cf [] := by
  intro s env ss H₀ ent own m σ r E hc S hev
  cases ss with
  | nil =>
    simp only [xss_nil, xss_cons] at hev; cases hev
    exact wpAny_execs_nil ⟨s.heap, s.toks, s.drawn, rfl, fun b o e _ _ => e, fun b o e => ⟨o, e⟩, rfl, own, m, S, fun x a e => .inl e⟩
  | cons _ _ => simp [css_nil, css_cons, css_consn] at hc
theorem sss_cons {a : MS} {l : List MS} (ha : SS prog w A base cf a) (hl : SSs prog w A base cf l) : SSs prog w A base cf (a :: l) := by
  intro s env ss H₀ ent own m σ r E hc S hev
  cases ss with
  | nil => simp [css_nil, css_cons, css_consn] at hc
  | cons st ss' =>
    simp only [css_nil, css_cons, css_consn, Bool.and_eq_true] at hc
    simp only [xss_nil, xss_cons] at hev
    split at hev
    · rename_i σ₁ h1
      refine wpAny_execs_cons (wpAny_mono (ha s env st H₀ ent own m σ _ E hc.1 S h1) (fun f s₁ q => ?_) fun _ _ e => e)
      obtain ⟨h₁, tk₁, dw₁, rfl, k, x, rfl, own', m', S', hsub⟩ := q
      exact wpAny_mono (hl _ env ss' H₀ ent own' m' σ₁ r E hc.2 S' hev) (fun f s₂ q => q.trans h₁ tk₁ dw₁ rfl k x hsub) fun _ _ e => e
    · rename_i hne
      refine wpAny_execs_cons (wpAny_mono (ha s env st H₀ ent own m σ r E hc.1 S hev) (fun f s₁ q => ?_) fun _ _ e => e)
      obtain ⟨fl, σ₁⟩ := r
      cases fl with
      | next => exact absurd hev (hne σ₁)
      | ret fr d =>
        have q' := q
        obtain ⟨h₁, tk₁, dw₁, rfl, k, x, v, rfl, _⟩ := q
        exact q'

theorem ss_ite (G : GOk mg mb base) (C : CSound prog w base mg cf A) (hh : A.handled = none) (hu : A.units + 1 < cLine) {c : ME} {t f : List MS} (ht : SSs prog w A base cf t) (hf : SSs prog w A base cf f) : SS prog w A base cf (.ite c t f) := by
  intro s env st H₀ ent own m σ r E hc S hev
  replace hc := inv_ite hc; obtain ⟨_, _, _, _, rfl, hc⟩ := hc
  · rename_i v b o pos
    simp only [Bool.and_eq_true] at hc
    obtain ⟨⟨h1, h2⟩, h3⟩ := hc
    simp only [xs_assign, xs_append, xs_setk, xs_ite, xs_for_, xs_ret, xs_bad] at hev
    split at hev
    · rename_i d hd
      have run : ∀ tt, truth d = some tt → wpAny (model prog w) A (isTrue v env (eval v env)) (fun b s' => Keeps s s' ∧ b = tt) E s := fun tt htt =>
        (all_E G C hh hu c).2.1 s env v _ (vis σ) m d tt E h1 S.rep (S.freeze c.names).hot (S.nv c.names) hd htt
      split at hev
      · rename_i htt
        refine wpAny_If (wpAny_mono (run true htt) (fun b s₁ q => ?_) fun _ _ e => e)
        obtain ⟨⟨h₁, tk₁, dw₁, rfl, hk⟩, rfl⟩ := q
        simp only [if_true]
        exact wpAny_mono (ht _ env _ H₀ ent own m σ r E h2 (S.keeps hk) hev) (fun f s₂ q => q.trans h₁ tk₁ dw₁ rfl (fun b o e _ _ => hk b o e) (fun b o e => ⟨o, hk b o e⟩) fun x a e => .inl e) fun _ _ e => e
      · rename_i htt
        refine wpAny_If (wpAny_mono (run false htt) (fun b s₁ q => ?_) fun _ _ e => e)
        obtain ⟨⟨h₁, tk₁, dw₁, rfl, hk⟩, rfl⟩ := q
        simp only [Bool.false_eq_true, if_false]
        exact wpAny_mono (hf _ env _ H₀ ent own m σ r E h3 (S.keeps hk) hev) (fun f s₂ q => q.trans h₁ tk₁ dw₁ rfl (fun b o e _ _ => hk b o e) (fun b o e => ⟨o, hk b o e⟩) fun x a e => .inl e) fun _ _ e => e
      · cases hev
    · cases hev

theorem ss_for (G : GOk mg mb base) (C : CSound prog w base mg cf A) (hh : A.handled = none) (hu : A.units + 1 < cLine) {x : String} {src : ME} {body : List MS} (hb : SSs prog w A base cf body) : SS prog w A base cf (.for_ x src body) := by
  intro s env st H₀ ent own m σ r E hc S hev
  replace hc := inv_for hc; obtain ⟨_, _, _, _, _, rfl, hc⟩ := hc
  · rename_i y yp it b pos
    simp only [Bool.and_eq_true, beq_iff_eq] at hc
    obtain ⟨⟨⟨⟨rfl, hst⟩, hset⟩, hcs⟩, hcb⟩ := hc
    simp only [xs_assign, xs_append, xs_setk, xs_ite, xs_for_, xs_ret, xs_bad] at hev
    split at hev
    · rename_i d hd
      split at hev
      · rename_i its hits
        have S0 := S.freeze src.names
        refine wpAny_For (wpAny_mono ((all_E G C hh hu src).1 s env it _ (vis σ) m d E hcs S.rep S0.hot (S.nv src.names) hd) (fun xv s₁ q₁ => ?_) fun _ _ e => e) (notSet_folded hset)
        obtain ⟨k01, rep1⟩ := q₁
        refine wpAny_mono (iter_snd rep1 hh hits) (fun itv s₂ q₂ => ?_) fun _ _ e => e
        obtain ⟨I, rfl, IA⟩ := q₂
        obtain ⟨fp, P, Stt, W, hst0, hfp, hP, hlive⟩ := IA.walk
        obtain ⟨h2, tk2, dw2, rfl, k12⟩ := IA.keeps
        obtain ⟨h1, tk1, dw1, rfl, k01⟩ := k01
        dsimp only at k12 k01 rep1 hfp hP hst0
        have hIf : h1.get? I = none := IA.fresh
        have hIx : ∃ o, h2.get? I = some o := IA.ex
        have S1 := S0.keeps k01
        have S2 := S1.addH (I := I) k12 hIf hIx
        have fex : ∀ c, frm env c → ∃ o, h1.get? c = some o := fun c hc => frame_ex S1.rep hc
        have nIf : ¬ frm env I := fun q => by obtain ⟨o, e⟩ := fex I q; rw [hIf] at e; cases e
        have nIe : ent.get? I = none := by
          cases q : ent.get? I with
          | none => rfl
          | some o => rw [k01 I o (S.keep I o q)] at hIf; cases hIf
        have sub0 : ∀ z a, (own.less src.names) z = some a → own z = some a := fun z a e => by unfold Own.less at e; split at e <;> first | cases e | exact e
        have e02 : ∀ b o, s.heap.get? b = some o → h2.get? b = some o := fun b o e => k12 b o (k01 b o e)
        have nIs : ∀ b o, h1.get? b = some o → b ≠ I := fun b o e q => by rw [q, hIf] at e; cases e
        have body1 : ∀ dv σ', (fun it σ => exSs cf body (setv σ x (false, it))) dv σ' = exSs cf body (setv σ' x (false, dv)) := fun _ _ => rfl
        refine codeAny_forLoop (fun k s' => ∃ h tk dw done rest own' m' σ', s' = { s with heap := h, toks := tk, drawn := dw } ∧ its = done ++ rest ∧ Stt done.length h ∧ StOk w base ent h env (fun b => H₀ b ∨ b = I) own' m' σ' ∧
          (∀ z a, own' z = some a → (own.less src.names) z = some a ∨ h2.get? a = none) ∧ (∀ b o, h2.get? b = some o → ¬ frm env b → (∀ z, (own.less src.names) z ≠ some b) → b ≠ I → h.get? b = some o) ∧ (∀ b o, h2.get? b = some o → b ≠ I → ∃ o', h.get? b = some o') ∧
          forD (fun it σ => exSs cf body (setv σ x (false, it))) rest σ' = some r ∧ k = rest.length + 1) ?_ (its.length + 1)
          ⟨h2, tk2, dw2, [], its, _, m, _, rfl, rfl, hst0, S2, fun z a e => .inl e, fun b o e _ _ _ => e, fun b o e _ => ⟨o, e⟩, hev, rfl⟩
        rintro k s' ⟨h, tk, dw, done, rest, own', m', σ', rfl, hdr, hstt, S', o1, k1, x1, hfor, rfl⟩
        cases rest with
        | nil =>
          simp only [List.append_nil] at hdr
          subst hdr
          refine W.done _ _ _ hstt fun h' tk' hk' => ?_
          simp only [forD] at hfor; cases hfor
          have hk'' : ∀ b o, b ≠ I → h.get? b = some o → h'.get? b = some o := fun b o hb e => hk' b o (by simpa using hb) e
          have hE' : Ex h' H₀ := fun c hc => by
            obtain ⟨b', o, hb, ho⟩ := S.hot.ex c (.inl hc)
            obtain ⟨o', ho'⟩ := x1 b' o (e02 b' o ho) (nIs b' o (k01 b' o ho))
            exact ⟨b', o', hb, hk'' b' o' (nIs b' o (k01 b' o ho)) ho'⟩
          have S3 := S'.leave hk'' hE' nIf nIe
          refine wpAny_execs_nil ⟨h', tk', dw, rfl, fun b o e hf ho => ?_, fun b o e => ?_, rfl, own', m', S3, fun z a e => ?_⟩
          · exact hk'' b o (nIs b o (k01 b o e)) (k1 b o (e02 b o e) hf (fun z q => ho z (sub0 z b q)) (nIs b o (k01 b o e)))
          · obtain ⟨o', ho'⟩ := x1 b o (e02 b o e) (nIs b o (k01 b o e))
            exact ⟨o', hk'' b o' (nIs b o (k01 b o e)) ho'⟩
          · rcases o1 z a e with q | q
            · exact .inl (sub0 z a q)
            · right
              cases q' : s.heap.get? a with
              | none => rfl
              | some o => rw [e02 a o q'] at q; cases q
        | cons dv rest' =>
          have hlt : done.length < its.length := by rw [hdr]; simp
          refine W.item done.length _ _ _ hlt hstt fun v h₁ tk₁ hPv hst₁ hk₁ => ?_
          obtain ⟨dv', e1, rv⟩ := hP _ v hlt hPv
          have : dv' = dv := by
            rw [hdr] at e1
            simpa using e1.symm
          subst this
          have hk₁' : ∀ b o, b ≠ I → h.get? b = some o → h₁.get? b = some o := fun b o hb e => hk₁ b o (by simpa using hb) e
          have SI := S'.turnI hk₁' (hlive _ _ hst₁) nIf nIe
          have hot0 : ∀ b o, h1.get? b = some o → Hot env (fun b => H₀ b ∨ b = I) own' b → Hot env H₀ (own.less src.names) b := by
            intro b o e q
            rcases hot_add q with q | q
            · rcases q with q | q | q | ⟨z, q⟩
              · exact .inl q
              · exact .inr (.inl q)
              · exact .inr (.inr (.inl q))
              · rcases o1 z b q with q | q
                · exact .inr (.inr (.inr ⟨z, q⟩))
                · rw [k12 b o e] at q; cases q
            · exact absurd q (nIs b o e)
          have kk1 : ∀ b o, ¬ Hot env H₀ (own.less src.names) b → h1.get? b = some o → h₁.get? b = some o := fun b o hn e =>
            hk₁' b o (nIs b o e) (k1 b o (k12 b o e) (fun q => hn (.inr (q.elim .inl fun q => .inr (.inl q)))) (fun z q => hn (.inr (.inr (.inr ⟨z, q⟩)))) (nIs b o e))
          have rv' : Rep w.params h₁ (Hot env (fun b => H₀ b ∨ b = I) own') v dv' := rv.mono kk1 hot0
          refine wpAny_assign_Name (store_snd (s := { s with heap := h₁, toks := tk₁, drawn := dw }) SI.rep (isStore_kind hst) fun h₂ tk₂ dw₂ a R₂ ha hs => ?_)
          have ha' : frm env a := ha.imp id fun e => ⟨_, e⟩
          have q3 := store_core (s := { s with heap := h₁, toks := tk₁, drawn := dw }) (x := x) (ns := []) (d := dv') (fr := false) (v := v) (h₁ := h₁) (h₂ := h₂) (a := a) (X := fun _ => False) (tk := tk₂) (dw := dw₂) SI (fun _ _ e => e)
            (by rw [less_nil]; exact rv'.sub fun _ q => q.elim id False.elim) (fun e => by cases e) R₂ ha' (fun _ q => q.elim) fun b hb _ => hs.2 b hb
          rw [settle_nil] at q3
          obtain ⟨h₂', tk₂', dw₂', e₂, k3, x3, _, own₂, m₂, S₂, o2⟩ := q3
          have e4 : h₂ = h₂' := congrArg Shared.heap e₂
          subst e4
          have e5 : tk₂ = tk₂' := congrArg Shared.toks e₂
          have e6 : dw₂ = dw₂' := congrArg Shared.drawn e₂
          subst e5
          have aI : a ≠ I := fun q => nIf (q ▸ ha')
          have hst₂ : Stt (done.length + 1) h₂ := W.frame _ _ _ hst₁ fun b hb o' e => by
            refine (hs.2 b fun q => ?_).trans e
            rcases hfp b hb with e2 | ⟨hn2, o2', e2⟩
            · exact aI (q ▸ e2)
            · exact hn2 (.inr (((q ▸ ha') : frm env b).elim .inl fun q => .inr (.inl q)))
          -- what the body finds
          have keep2 : ∀ b o, h2.get? b = some o → ¬ frm env b → (∀ z, (own.less src.names) z ≠ some b) → b ≠ I → h₂.get? b = some o := fun b o e hf ho hI => (hs.2 b fun q => hf (q ▸ ha')).trans (hk₁' b o hI (k1 b o e hf ho hI))
          have ex2 : ∀ b o, h2.get? b = some o → b ≠ I → ∃ o', h₂.get? b = some o' := fun b o e hI => by
            obtain ⟨o', e'⟩ := x1 b o e hI
            obtain ⟨o'', e''⟩ := x3 b o' (hk₁' b o' hI e')
            exact ⟨o'', e''⟩
          have own2 : ∀ z c, own₂ z = some c → (own.less src.names) z = some c ∨ h2.get? c = none := fun z c e => by
            rcases o2 z c e with q | q
            · exact o1 z c q
            · refine .inr ?_
              cases q' : h2.get? c with
              | none => rfl
              | some o =>
                by_cases hcI : c = I
                · obtain ⟨o', e'⟩ := hlive _ _ hst₁
                  rw [hcI] at q
                  have q : h₁.get? I = none := q
                  rw [e'] at q; cases q
                · obtain ⟨o', e'⟩ := x1 c o q' hcI
                  have q : h₁.get? c = none := q
                  rw [hk₁' c o' hcI e'] at q; cases q
          simp only [forD] at hfor
          have go : ∀ (E' : Value → Shared → Prop) rb, exSs cf body (setv σ' x (false, dv')) = some rb → wpAny (model prog w) A (execs _ env) (SPost w base ent env (fun b => H₀ b ∨ b = I) { s with heap := h₂, toks := tk₂, drawn := dw₂ } own₂ rb) E' { s with heap := h₂, toks := tk₂, drawn := dw₂ } :=
            fun E' rb hrb => hb { s with heap := h₂, toks := tk₂, drawn := dw₂ } env _ _ ent own₂ m₂ _ rb E' hcb S₂ hrb
          cases hbody : exSs cf body (setv σ' x (false, dv')) with
          | none => rw [hbody] at hfor; cases hfor
          | some rb =>
            obtain ⟨fl, σ₂⟩ := rb
            rw [hbody] at hfor
            refine wpAny_mono (go _ _ hbody) (fun f s₃ q => ?_) fun _ _ e => e
            obtain ⟨h₃, tk₃, dw₃, rfl, k5, x5, q⟩ := q
            have hIx2 : ∃ o, h₂.get? I = some o := hlive _ _ hst₂
            have nIo : ∀ z, own₂ z ≠ some I := fun z q => (S₂.own1 z I q).2.1 (.inr rfl)
            have hst₃ : Stt (done.length + 1) h₃ := W.frame _ _ _ hst₂ fun b hb o' e => by
              rcases hfp b hb with e2 | ⟨hn2, o2', e2⟩
              · subst e2; exact k5 b o' e nIf nIo
              · refine k5 b o' e (fun q => hn2 (.inr (q.elim .inl fun q => .inr (.inl q)))) fun z q => ?_
                rcases own2 z b q with q | q
                · exact hn2 (.inr (.inr (.inr ⟨z, q⟩)))
                · rw [k12 b o2' e2] at q; cases q
            have keep3 : ∀ b o, h2.get? b = some o → ¬ frm env b → (∀ z, (own.less src.names) z ≠ some b) → b ≠ I → h₃.get? b = some o := fun b o e hf ho hI => k5 b o (keep2 b o e hf ho hI) hf fun z q => by
              rcases own2 z b q with q | q
              · exact ho z q
              · rw [e] at q; cases q
            have ex3 : ∀ b o, h2.get? b = some o → b ≠ I → ∃ o', h₃.get? b = some o' := fun b o e hI => by
              obtain ⟨o', e'⟩ := ex2 b o e hI
              exact x5 b o' e'
            have nxt : (∃ own₃ m₃, StOk w base ent h₃ env (fun b => H₀ b ∨ b = I) own₃ m₃ σ₂ ∧ ∀ z c, own₃ z = some c → own₂ z = some c ∨ h₂.get? c = none) → forD (fun it σ => exSs cf body (setv σ x (false, it))) rest' σ₂ = some r →
                ∃ k, k < (dv' :: rest').length + 1 ∧ ∃ h tk dw done rest own' m' σ', ({ s with heap := h₃, toks := tk₃, drawn := dw₃ } : Shared) = { s with heap := h, toks := tk, drawn := dw } ∧ its = done ++ rest ∧ Stt done.length h ∧ StOk w base ent h env (fun b => H₀ b ∨ b = I) own' m' σ' ∧
                (∀ z a, own' z = some a → (own.less src.names) z = some a ∨ h2.get? a = none) ∧ (∀ b o, h2.get? b = some o → ¬ frm env b → (∀ z, (own.less src.names) z ≠ some b) → b ≠ I → h.get? b = some o) ∧ (∀ b o, h2.get? b = some o → b ≠ I → ∃ o', h.get? b = some o') ∧
                forD (fun it σ => exSs cf body (setv σ x (false, it))) rest σ' = some r ∧ k = rest.length + 1 := by
              rintro ⟨own₃, m₃, S₃, o3⟩ hf
              refine ⟨rest'.length + 1, by simp, h₃, tk₃, dw₃, done ++ [dv'], rest', own₃, m₃, σ₂, rfl, by rw [hdr]; simp, by simpa using hst₃, S₃, fun z c e => ?_, keep3, ex3, hf, rfl⟩
              rcases o3 z c e with q | q
              · exact own2 z c q
              · refine .inr ?_
                cases q' : h2.get? c with
                | none => rfl
                | some o =>
                  by_cases hcI : c = I
                  · obtain ⟨o', e'⟩ := hIx2
                    rw [hcI, e'] at q; cases q
                  · obtain ⟨o', e'⟩ := ex2 c o q' hcI
                    rw [e'] at q; cases q
            cases fl with
            | next =>
              obtain ⟨rfl, q⟩ := q
              exact nxt q hfor
            | ret fr dr =>
              cases hfor
              obtain ⟨u, rfl, q1, q2, q3⟩ := q
              refine ⟨h₃, tk₃, dw₃, rfl, fun b o e hf ho => keep3 b o (e02 b o e) hf (fun z q => ho z (sub0 z b q)) (nIs b o (k01 b o e)), fun b o e => ex3 b o (e02 b o e) (nIs b o (k01 b o e)), u, rfl, q1.sub fun _ q => .inl q, q2, fun hf => ?_⟩
              obtain ⟨c, g1, g3, g4⟩ := q3 hf
              exact ⟨c, g1, g3, g4.mono (fun _ e => e) (fun _ _ _ e => e) fun _ _ _ q => .inl (.inl q)⟩
      · cases hev
    · cases hev
end
end Mine
namespace Mine
open PySem PySem.SeqAt
section
variable {prog : Program} {w : World} {A : Around} {base : Heap} {mg mb : Str → Option Value} {cf : CF}
mutual
theorem all_S (G : GOk mg mb base) (C : CSound prog w base mg cf A) (hh : A.handled = none) (hu : A.units + 1 < cLine) (ms : MS) : SS prog w A base cf ms := by
  match ms with
  | .assign x e => exact ss_assign G C hh hu x e
  | .append x e => exact ss_append G C hh hu x e
  | .setk x k e => exact ss_setk G C hh hu x k e
  | .bad => exact fun s env st H₀ ent own m σ r E hc S hev => by simp only [xs_assign, xs_append, xs_setk, xs_ite, xs_for_, xs_ret, xs_bad] at hev; cases hev
  | .ite c t f => exact ss_ite G C hh hu (all_Ss G C hh hu t) (all_Ss G C hh hu f)
  | .for_ x src body => exact ss_for G C hh hu (all_Ss G C hh hu body)
  | .ret e => exact ss_ret G C hh hu e
termination_by structural ms
theorem all_Ss (G : GOk mg mb base) (C : CSound prog w base mg cf A) (hh : A.handled = none) (hu : A.units + 1 < cLine) (ms : List MS) : SSs prog w A base cf ms := by
  match ms with
  | [] => exact sss_nil
  | a :: r => exact sss_cons (all_S G C hh hu a) (all_Ss G C hh hu r)
termination_by structural ms
end
end
end Mine
namespace Mine
open PySem

theorem lookup_zip_mem {α : Type} : ∀ (ns : List Str) (vs : List α), ns.length = vs.length → ∀ x ∈ ns, ((ns.zip vs).lookup x).isSome = true
  | [], _, _, x, h => nomatch h
  | n :: ns, [], h, _, _ => by simp at h
  | n :: ns, v :: vs, h, x, hx => by
    rw [List.zip_cons_cons, lookup_cons']
    split
    · rfl
    · rename_i hne
      rcases List.mem_cons.mp hx with e | e
      · exact absurd e hne
      · exact lookup_zip_mem ns vs (by simpa using h) x e
theorem filterMap_zip {α : Type} : ∀ (ns : List Str) (vs : List α), ns.Nodup → ns.length = vs.length → ns.filterMap (fun n => ((ns.zip vs).lookup n).map (n, ·)) = ns.zip vs
  | [], [], _, _ => rfl
  | [], _ :: _, _, h => by simp at h
  | _ :: _, [], _, h => by simp at h
  | n :: ns, v :: vs, hn, h => by
    rw [List.zip_cons_cons, List.filterMap_cons, lookup_cons', if_pos rfl]
    simp only [Option.map_some]
    congr 1
    rw [List.nodup_cons] at hn
    have ih := filterMap_zip ns vs hn.2 (by simpa using h)
    have cg : ∀ (l : List Str), (∀ x ∈ l, x ∈ ns) → l.filterMap (fun m => (((n, v) :: ns.zip vs).lookup m).map (m, ·)) = l.filterMap (fun m => ((ns.zip vs).lookup m).map (m, ·)) := by
      intro l
      induction l with
      | nil => intro _; rfl
      | cons x l il =>
        intro hl
        rw [List.filterMap_cons, List.filterMap_cons, lookup_cons', if_neg (show x ≠ n from fun e => hn.1 (e ▸ hl x (.head _))), il fun y hy => hl y (.tail _ hy)]
    rw [cg ns fun _ h => h]; exact ih

theorem bindArgs_plain {fd : FuncData} {vals : List Value} (h1 : fd.params.posonlyargs = []) (h2 : fd.params.kwonlyargs = []) (h3 : fd.params.vararg = none) (h4 : fd.params.kwarg = none) (h5 : fd.defaults = .none)
    (hnd : (fd.params.args.map (·.arg)).Nodup) (hl : (fd.params.args.map (·.arg)).length = vals.length) : bindArgs fd ⟨vals, []⟩ = pure ((fd.params.args.map (·.arg)).zip vals) := by
  unfold bindArgs
  simp only [h1, h2, h3, h4, h5, List.map_nil, List.nil_append, List.append_nil]
  have hm : List.filter (fun n => (List.lookup n (((fd.params.args.map (·.arg)).zip vals))).isNone) (fd.params.args.map (·.arg)) = [] := by
    rw [List.filter_eq_nil_iff]
    intro x hx
    have := lookup_zip_mem _ vals hl x hx
    simp only [Option.isNone_iff_eq_none]
    intro e
    rw [e] at this
    cases this
  have hs : seqItems? Value.none = (pure none : Sem (Option (Array Value))) := rfl
  simp only [List.forIn_nil, pure_bind, hs, Option.getD_none, List.drop_nil, List.length_nil, Nat.sub_zero, List.take_length]
  have hg : decide (vals.length > (List.map (fun x => x.arg) fd.params.args).length) = false := by simp; rw [← hl]; simp
  rw [hm, hg]
  simp only [Bool.false_and, Bool.false_eq_true, if_false, List.isEmpty_nil, Bool.not_true, List.zip_nil_right, List.forIn_nil, pure_bind]
  rw [filterMap_zip _ _ hnd hl]
end Mine
namespace Mine
open PySem PySem.SeqAt

/-- a def of the text, and its mini form -/
structure FnOk (base : Heap) (mg : Str → Option Value) (f : String) (fn : Fn) : Prop where
  ok : ∃ a o fd body, mg (Str.ofString f) = some (.ref a) ∧ base.get? a = some o ∧ o.data = .func fd ∧ fd.body = .stmts body ∧ fd.closure = [] ∧ fd.globals = mainGlobals ∧ fd.builtins = builtinsNs ∧ base.CodeRec fd.code fd.qualname ∧
    fd.params.posonlyargs = [] ∧ fd.params.kwonlyargs = [] ∧ fd.params.vararg = none ∧ fd.params.kwarg = none ∧ fd.defaults = .none ∧ fd.params.args.map (·.arg) = fn.params.map Str.ofString ∧ fn.params.Nodup ∧
    fd.scope.kind = .function ∧ fd.scope.isCoroutine = false ∧ fd.scope.isGenerator = false ∧ (fd.scope.names.map (·.1)).Nodup ∧ (∀ p ∈ fd.scope.names, p.2 ≠ .free) ∧
    (∀ x ∈ fn.params, fd.scope.names.lookup (Str.ofString x) = some .local ∨ fd.scope.names.lookup (Str.ofString x) = some .cell) ∧ chkSs (fun x => fd.scope.names.lookup x) body fn.body = true

theorem bindL_eq {k : KD} : ∀ (binds : List (Str × Value)) (m : Str → Option Value) (x : Str), (binds.map (·.1)).Nodup → k x = some .local → bindL k binds m x = (binds.lookup x).or (m x)
  | [], m, x, _, _ => by simp [bindL]
  | (n, v) :: r, m, x, hn, hk => by
    unfold bindL
    simp only [List.map_cons, List.nodup_cons] at hn
    rw [bindL_eq r _ x hn.2 hk, lookup_cons']
    by_cases h : x = n
    · subst h
      have : r.lookup x = none := by
        cases q : r.lookup x with
        | none => rfl
        | some c => exact absurd (List.mem_map_of_mem (f := (·.1)) (mem_of_lookup q)) hn.1
      rw [this, if_pos rfl, if_pos hk]
      simp
    · rw [if_neg h]
      split
      · simp [h]
      · rfl
theorem bindC_eq {k : KD} : ∀ (binds : List (Str × Value)) (m : Str → Option Value) (x : Str), (binds.map (·.1)).Nodup → k x ≠ some .local → bindC k binds m x = (binds.lookup x).or (m x)
  | [], m, x, _, _ => by simp [bindC]
  | (n, v) :: r, m, x, hn, hk => by
    unfold bindC
    simp only [List.map_cons, List.nodup_cons] at hn
    rw [bindC_eq r _ x hn.2 hk, lookup_cons']
    by_cases h : x = n
    · subst h
      have : r.lookup x = none := by
        cases q : r.lookup x with
        | none => rfl
        | some c => exact absurd (List.mem_map_of_mem (f := (·.1)) (mem_of_lookup q)) hn.1
      rw [this, if_pos rfl, if_neg hk]
      simp
    · rw [if_neg h]
      split
      · rfl
      · simp [h]

theorem lookup_zip_map {h : Heap} {P : Params} {H : Addr → Prop} : ∀ (ns : List String) (vs : List Value) (ds : List D) (x : String) (d : D), RepAll P h H vs ds → (ns.zip ds).lookup x = some d → ∃ v, ((ns.map Str.ofString).zip vs).lookup (Str.ofString x) = some v ∧ Rep P h H v d
  | [], _, _, x, d, _, e => by simp at e
  | n :: ns, _, _, x, d, .nil, e => by simp at e
  | n :: ns, _, _, x, d, .cons hv hr, e => by
    rw [List.zip_cons_cons, List.lookup_cons] at e
    rw [List.map_cons, List.zip_cons_cons, lookup_cons']
    by_cases h : x = n
    · subst h
      simp only [beq_self_eq_true] at e
      cases e
      exact ⟨_, if_pos rfl, hv⟩
    · have hb : (x == n) = false := by simpa using h
      rw [hb] at e
      rw [if_neg (fun q => h (ofString_inj q))]
      exact lookup_zip_map ns _ _ x d hr e

theorem lookup_start (x : String) : ∀ (ns : List String) (ds : List D), ((ns.zip ds).map fun p => (p.1, (false, p.2))).lookup x = ((ns.zip ds).lookup x).map fun d => (false, d)
  | [], _ => rfl
  | _ :: _, [] => rfl
  | n :: ns, d :: ds => by
    have ih := lookup_start x ns ds
    rw [List.zip_cons_cons, List.map_cons, List.lookup_cons, List.lookup_cons]
    by_cases h : x = n
    · subst h; simp
    · have hb : (x == n) = false := by simpa using h
      simp only [hb]
      exact ih

section
variable {prog : Program} {w : World} {base : Heap} {mg mb : Str → Option Value} {P : List (String × Fn)} {X : CF}

theorem call_fn (G : GOk mg mb base) {A : Around} {cf : CF} (hh : A.handled = none) (hd : A.depth < recursionLimit) (hu : A.units + 4 < cLine) (C : ∀ env, CSound prog w base mg cf (A.deeper env)) {f : String} {fn : Fn} (F : FnOk base mg f fn) {ds : List D} (hl : ds.length = fn.params.length)
    {r : Fl × St} (hev : exSs cf fn.body ((fn.params.zip ds).map fun p => (p.1, (false, p.2))) = some r) {d : D} {fr : Bool} (hr : (∃ σ, r = (.ret fr d, σ)) ∨ (∃ σ, r = (.next, σ) ∧ d = .none ∧ fr = false)) :
    ∃ a o fd, mg (Str.ofString f) = some (.ref a) ∧ base.get? a = some o ∧ o.data = .func fd ∧
    ∀ (s : Shared) (H : Addr → Prop) (vs : List Value) (E : Value → Shared → Prop), HOk base s.heap H → RepAll w.params s.heap H vs ds → wpAny (model prog w) A (PySem.call (.ref a) vs) (PostF w s H d fr) E s := by
  obtain ⟨a, o, fd, body, f1, f2, f3, f4, f5, f6, f7, f8, f9, f10, f11, f12, f13, f14, f15, f16, f17, f18, f19, f20, f21, f22⟩ := F.ok
  refine ⟨a, o, fd, f1, f2, f3, fun s H vs E hw hvs => ?_⟩
  have hnames : (fd.params.args.map (·.arg)).Nodup := by
    rw [f14]
    exact List.pairwise_map.mpr (f15.imp fun hne e => hne (ofString_inj e))
  have hlen : (fd.params.args.map (·.arg)).length = vs.length := by rw [f14, List.length_map, hvs.length, hl]
  have hb := bindArgs_plain (vals := vs) f9 f10 f11 f12 f13 hnames hlen
  have hbn : ((((fd.params.args.map (·.arg)).zip vs)).map (·.1)) = fd.params.args.map (·.arg) := by
    rw [List.map_fst_zip (by omega)]
  refine wpAny_call (codeAny_call_cells (binds := (fd.params.args.map (·.arg)).zip vs) hd (hw.keep _ _ f2) f3 (G.lim.keeps hw.keep) (f8.keeps hw.keep) f4 hb f5 ?_ ?_ f17 f18 f16)
  · intro x hx
    have hx' : x.1 ∈ fn.params.map Str.ofString := by rw [← f14, ← hbn]; exact List.mem_map_of_mem hx
    obtain ⟨z, hz, e⟩ := List.mem_map.mp hx'
    rcases f21 z hz with q | q
    · exact .inl (by rw [← e]; exact q)
    · refine .inr ⟨by rw [← e]; exact q, ?_⟩
      obtain ⟨c, hc⟩ := cellsFrom_has fd.scope.names (s.heap.objs.size + 1) (Str.ofString z) (mem_of_lookup q)
      obtain ⟨c', hc'⟩ := lookup_some_of_mem hc
      rw [← e, hc']; rfl
  · intro s₁ ic
    obtain ⟨h₁, tk₁, rfl, hk⟩ := ic.toInCall.done
    have Lsz : @Eq Nat (callEnvC fd s.heap.objs.size a).locals s.heap.objs.size := rfl
    have cge : ∀ x c, (callEnvC fd s.heap.objs.size a).cells.lookup x = some c → @LT.lt Nat _ s.heap.objs.size c := fun x c hc => ic.above x c (mem_of_lookup hc)
    have newN : ∀ c, @LE.le Nat _ s.heap.objs.size c → s.heap.get? c = none := fun c hc => Heap.get?_none_of_le hc
    have kindEq : ∀ x, (callEnvC fd s.heap.objs.size a).kindOf x = fd.scope.names.lookup x := fun _ => rfl
    have R : EnvRep h₁ (callEnvC fd s.heap.objs.size a) (fun x => ((fd.params.args.map (·.arg)).zip vs).lookup x) := by
      refine ⟨f16, f6, f7, ⟨_, ic.toInCall.ns, fun x hx => ?_⟩, fun x hx => ?_, fun x y c h1 h2 => ?_, fun x c hc e => ?_, fun x c hc => ?_⟩
      · rw [bindL_eq _ _ x (by rw [hbn]; exact hnames) hx]; simp
      · have hcell : fd.scope.names.lookup x = some .cell := by
          rcases hx with q | q
          · exact q
          · exact absurd rfl (f20 _ (mem_of_lookup q))
        obtain ⟨c, hc⟩ := cellsFrom_has fd.scope.names (s.heap.objs.size + 1) x (mem_of_lookup hcell)
        obtain ⟨c', hc'⟩ := lookup_some_of_mem hc
        refine ⟨c', hc', ?_⟩
        have := ic.cell x c' hc'
        rw [bindC_eq _ _ x (by rw [hbn]; exact hnames) (by rw [kindEq, hcell]; simp)] at this
        simpa using this
      · exact name_of_addr ic.apart (mem_of_lookup h1) (mem_of_lookup h2)
      · have := cge x c hc
        have e' : @Eq Nat c s.heap.objs.size := e
        omega
      · obtain ⟨o', e', _⟩ := ic.cell x c hc
        exact ⟨o', e'⟩
    have hot : ∀ b, Hot (callEnvC fd s.heap.objs.size a) H (fun _ => none) b → H b ∨ frm (callEnvC fd s.heap.objs.size a) b := by
      rintro b (q | q | q | ⟨x, q⟩)
      · exact .inl q
      · exact .inr (.inl q)
      · exact .inr (.inr q)
      · cases q
    have frn : ∀ b, frm (callEnvC fd s.heap.objs.size a) b → s.heap.get? b = none := by
      rintro b (q | ⟨x, q⟩)
      · exact newN b (by rw [q]; exact Nat.le_refl _)
      · exact newN b (Nat.le_of_lt (cge x b q))
    have S : StOk w base s.heap h₁ (callEnvC fd s.heap.objs.size a) H (fun _ => none) (fun x => ((fd.params.args.map (·.arg)).zip vs).lookup x) ((fn.params.zip ds).map fun p => (p.1, (false, p.2))) := by
      refine ⟨R, fun x d' e => ?_, fun x d' e => ?_, ⟨fun b o' e => hk b o' (hw.keep b o' e), fun b q => ?_, fun b o' e q => ?_⟩, hk, ⟨frn _ (.inl rfl), fun x c hc => frn c (.inr ⟨x, hc⟩)⟩, fun x c e => (by cases e), fun x y c e => (by cases e), fun x c e => (by cases e)⟩
      · rw [lookup_start] at e
        simp only [Option.map_eq_some_iff, Prod.mk.injEq] at e
        obtain ⟨d'', e1, _, e2⟩ := e
        subst e2
        obtain ⟨v, e3, e4⟩ := lookup_zip_map fn.params vs ds x d'' hvs e1
        refine ⟨v, by rw [f14]; exact e3, e4.mono (fun b o' _ e => hk b o' e) fun b o' e q => ?_⟩
        rcases hot b q with q | q
        · exact q
        · rw [frn b q] at e; cases e
      · rw [lookup_start] at e
        simp only [Option.map_eq_some_iff, Prod.mk.injEq] at e
        obtain ⟨_, _, e1, _⟩ := e
        cases e1
      · rcases hot b q with q | q
        · obtain ⟨b', o', h1, h2⟩ := hw.ex b q
          exact ⟨b', o', h1, hk _ _ h2⟩
        · obtain ⟨o', ho'⟩ := frame_ex R q
          exact ⟨b, o', Nat.le_refl _, ho'⟩
      · rcases hot b q with q | q
        · exact hw.off b o' e q
        · have := frn b q
          rw [hw.keep b o' e] at this; cases this
    refine wpAny_mono (all_Ss G (C (callEnvC fd s.heap.objs.size a)) (A := A.deeper (callEnvC fd s.heap.objs.size a)) hh (by show A.units + 3 + 1 < cLine; exact hu) fn.body { s with heap := h₁, toks := tk₁ } (callEnvC fd s.heap.objs.size a) body H s.heap (fun _ => none) _ _ r _ f22 S hev) (fun fl s' q => ?_) fun _ _ e => e
    obtain ⟨h', tk', dw', rfl, k, x, q⟩ := q
    rcases hr with ⟨σ, rfl⟩ | ⟨σ, rfl, rfl, rfl⟩
    · obtain ⟨v, rfl, q1, q2, q3⟩ := q
      refine ⟨⟨h', tk', dw', rfl, q2⟩, q1, fun hf => ?_⟩
      exact q3 hf
    · obtain ⟨rfl, own', m', S', _⟩ := q
      exact ⟨⟨h', tk', dw', rfl, S'.keep⟩, .none, fun e => by cases e⟩

/-- all calls, to the depth n -/
theorem callN_sound (G : GOk mg mb base) (HF : ∀ f fn, P.lookup f = some fn → FnOk base mg f fn) (HX : ∀ A, AOk A 0 → CSound prog w base mg X A) : ∀ (n : Nat) (A : Around), AOk A n → CSound prog w base mg (callN P X n) A
  | 0, A, hA => ⟨fun f ds d fr h => (by simp only [callN] at h; exact nomatch h), (HX A hA).glob⟩
  | n + 1, A, hA => by
    have hA0 : AOk A 0 := ⟨hA.handled, by have := hA.depth; omega, by have := hA.units; omega⟩
    refine ⟨fun f ds d fr h => ?_, (HX A hA0).glob⟩
    simp only [callN] at h
    split at h
    · exact (HX A hA0).call f ds d fr h
    · rename_i fn hfn
      split at h
      · rename_i hl
        have C : ∀ env, CSound prog w base mg (callN P X n) (A.deeper env) := fun env => callN_sound G HF HX n (A.deeper env) ⟨hA.handled, by
          have := hA.depth
          show A.depth + 1 + n + 20 < recursionLimit
          omega, by
          have := hA.units
          show A.units + 3 + 3 * n + 100 < cLine
          omega⟩
        have hd : A.depth < recursionLimit := by have := hA.depth; omega
        have hu : A.units + 4 < cLine := by have := hA.units; omega
        split at h
        · rename_i fr' d' σ hev
          cases h
          exact call_fn G hA.handled hd hu C (HF f fn hfn) hl hev (.inl ⟨σ, rfl⟩)
        · rename_i σ hev
          cases h
          exact call_fn G hA.handled hd hu C (HF f fn hfn) hl hev (.inr ⟨σ, rfl, rfl, rfl⟩)
        · cases h
      · cases h
end
end Mine
namespace Mine
open PySem PySem.SeqAt PySem.W PyProof.Rows

noncomputable def chkFn (d : DefRec) (fn : Fn) : Bool :=
  d.params.posonlyargs.isEmpty && d.params.kwonlyargs.isEmpty && d.params.vararg.isNone && d.params.kwarg.isNone && d.params.args.map (·.arg) == fn.params.map Str.ofString && decide fn.params.Nodup &&
  d.scope.kind == .function && !d.scope.isCoroutine && !d.scope.isGenerator && decide (d.scope.names.map (·.1)).Nodup && d.scope.names.all (fun p => p.2 != .free) &&
  fn.params.all (fun x => d.scope.names.lookup (Str.ofString x) == some .local || d.scope.names.lookup (Str.ofString x) == some .cell) && chkSs (fun x => d.scope.names.lookup x) d.body fn.body
noncomputable def chkProg (recs : List DefRec) (P : List (String × Fn)) : Bool := P.all fun q => match recs.find? (fun d => d.name == Str.ofString q.1) with
  | some d => chkFn d q.2
  | none => false
noncomputable def bltFree (p : Program) (loose : List Str) : Bool := bltNames.all fun f => !startupNames.contains (Str.ofString f) && !loose.contains (Str.ofString f) && !((recsOf p).map (·.name)).contains (Str.ofString f) && !((litsOf p).map (·.1)).contains (Str.ofString f) && !((clssOf p loose).map (·.name)).contains (Str.ofString f)

theorem mem_of_lookupS {α : Type} : ∀ {l : List (String × α)} {x : String} {c : α}, l.lookup x = some c → (x, c) ∈ l
  | (y, d) :: r, x, c, h => by
    rw [List.lookup_cons] at h
    by_cases e : x = y
    · subst e
      simp only [beq_self_eq_true] at h
      cases h
      exact .head _
    · have hb : (x == y) = false := by simpa using e
      rw [hb] at h
      exact .tail _ (mem_of_lookupS h)

theorem fnOk_of {p : Program} {loose : List Str} {mean : ExcName → Option Value} {mg mb : Str → Option Value} {h : Heap} (T : Top p loose mean mg mb h) {P : List (String × Fn)} (hP : chkProg (recsOf p) P = true) {f : String} {fn : Fn} (hf : P.lookup f = some fn) : FnOk h mg f fn := by
  unfold chkProg at hP
  have := List.all_eq_true.mp hP _ (mem_of_lookupS hf)
  dsimp only at this
  cases hd : (recsOf p).find? (fun d => d.name == Str.ofString f) with
  | none => rw [hd] at this; cases this
  | some d =>
    rw [hd] at this
    have hn : d.name = Str.ofString f := by simpa using List.find?_some hd
    obtain ⟨a, o, pm, code, doc, h1, h2, h3, h4⟩ := T.fn d (List.mem_of_find?_eq_some hd)
    simp only [chkFn, Bool.and_eq_true, decide_eq_true_eq, beq_iff_eq, List.isEmpty_iff, Option.isNone_iff_eq_none, Bool.not_eq_true', List.all_eq_true, bne_iff_ne, Bool.or_eq_true] at this
    obtain ⟨⟨⟨⟨⟨⟨⟨⟨⟨⟨⟨⟨c1, c2⟩, c3⟩, c4⟩, c5⟩, c6⟩, c7⟩, c8⟩, c9⟩, c10⟩, c11⟩, c12⟩, c13⟩ := this
    exact ⟨a, o, _, d.body, hn ▸ h1, h2, h3, rfl, rfl, rfl, rfl, h4, c1, c2, c3, c4, rfl, c5, c6, c7, c8, c9, c10, c11, c12, c13⟩

theorem gOk_of {p : Program} {loose : List Str} {mean : ExcName → Option Value} {mg mb : Str → Option Value} {h : Heap} (T : Top p loose mean mg mb h) (hB : bltFree p loose = true) : GOk mg mb h := by
  refine ⟨T.g, T.b, T.nolimit, fun f hf => ⟨?_, ?_⟩⟩
  · have := List.all_eq_true.mp hB f hf
    simp only [Bool.and_eq_true, Bool.not_eq_true', List.contains_eq_mem, decide_eq_false_iff_not] at this
    obtain ⟨⟨⟨⟨c1, c2⟩, c3⟩, c4⟩, c5⟩ := this
    exact T.free _ c1 c2 c3 c4 c5
  · rw [T.builtins]
    · have : (bltNames.all fun f => bootBuiltins (Str.ofString f) == some (bltVal f)) = true := by decide +kernel
      simpa using List.all_eq_true.mp this f hf
    · have : (bltNames.all fun f => Str.ofString f != Str.ofString "__name__") = true := by decide +kernel
      simpa using List.all_eq_true.mp this f hf

theorem wellInts {P : Params} {h : Heap} {H : Addr → Prop} : ∀ {vs : List Value} {ns : List Int}, WellAll P h vs (ofPys (ns.map PyData.int)) → RepAll P h H vs (ns.map .int)
  | vs, [], hw => by cases hw; exact .nil
  | vs, n :: ns, hw => by
    cases hw with
    | cons h1 h2 =>
      cases h1
      exact .cons (.int _ _) (wellInts h2)

theorem law_fin {l : OpenLaw} {w : World} {s₀ s₁ : Shared} {mg mb : Str → Option Value} {p : Program} {loose : List Str} {mean mean' : ExcName → Option Value} {P : List (String × Fn)} {X : CF} (N : Nat) (T : Top p loose mean mg mb s₁.heap)
    (hP : chkProg (recsOf p) P = true) (hB : bltFree p loose = true) (hN : N ≤ 600) (HX : ∀ A, AOk A 0 → CSound l.prog w s₁.heap mg X A)
    {fa a : Addr} {ns : List Int} (hmg : mg (Str.ofString "law") = some (.ref fa)) (hg : s₁.gens = #[]) (hw : Well w.params s₁.heap (.ref a) (ofPy (PyData.list (ns.map PyData.int)))) (hlen : ¬ ((63 : Nat) : Int) < (ns.length : Int))
    (hpure : ∃ fr, (callN P X N).call "law" [.list (ns.map .int)] = some (.bool true, fr)) :
    wpAny (model l.row.toRowW.prog w) callerA (call (.ref fa) [.ref a]) (fun v s' => GoodWG l.row.toRowW.claim (classAt s₀.heap) mean' [ofPy (PyData.list (ns.map PyData.int))] s₁ (.ok (.ret v)) s')
      (fun e s' => GoodWG l.row.toRowW.claim (classAt s₀.heap) mean' [ofPy (PyData.list (ns.map PyData.int))] s₁ (.error e) s') s₁ := by
  obtain ⟨fr, hp⟩ := hpure
  have G := gOk_of T hB
  have hA : AOk callerA N := ⟨rfl, by
    show 1 + claimMargin + N + 20 < recursionLimit
    have e1 : claimMargin = 300 := rfl
    have e2 : recursionLimit = 1000 := rfl
    omega, by
    show 4 + 3 * N + 100 < cLine
    have e2 : cLine = 9900 := rfl
    omega⟩
  have C := callN_sound (prog := l.prog) (w := w) G (fun f fn hf => fnOk_of T hP hf) HX N callerA hA
  obtain ⟨a', o, fd, h1, h2, h3, h4⟩ := C.call "law" _ _ fr hp
  rw [hmg] at h1
  cases h1
  have hrep : Rep w.params s₁.heap (fun _ => False) (.ref a) (.list (ns.map .int)) := by
    cases hw with
    | list ho hr =>
      refine .list ho (fun q => q) ?_ (wellInts (by simpa using hr))
      simp only [List.length_map]
      have : ns.length ≤ 63 := by omega
      exact Nat.le_trans this (by decide)
  refine wpAny_mono (h4 s₁ (fun _ => False) [.ref a] _ ⟨fun _ _ e => e, fun _ q => q.elim, fun _ _ _ q => q⟩ (.cons hrep .nil)) (fun v s' q => ?_) fun _ _ e => e
  obtain ⟨⟨h', tk, dw, rfl, hk⟩, rv, _⟩ := q
  cases rv
  exact GoodW.toG ⟨.inl ⟨.bool true, .bool true, [], rfl, fun _ => rfl, .bool true, postW_of (r := l.row.toRowW) rfl (w_eq_bool (w_res rfl) w_lit) rfl, fun _ => ⟨.nil, fun _ h => nomatch h⟩⟩, hk, rfl, hg⟩
end Mine
namespace Mine
open PySem
noncomputable def fin (r : Option (Fl × St)) : Option (D × Bool) := match r with
  | some (.ret fr d, _) => some (d, fr)
  | some (.next, _) => some (.none, false)
  | _ => none
theorem call_eq {P : List (String × Fn)} {X : CF} {f : String} {fn : Fn} (n : Nat) (args : List D) (h : P.lookup f = some fn) (hl : args.length = fn.params.length) :
    (callN P X (n + 1)).call f args = fin (exSs (callN P X n) fn.body ((fn.params.zip args).map fun p => (p.1, (false, p.2)))) := by
  simp only [callN, h, hl, if_true, fin]
  all_goals (split <;> rename_i q <;> simp [q])
noncomputable def thenS (r : Option (Fl × St)) (k : St → Option (Fl × St)) : Option (Fl × St) := match r with
  | some (.next, σ) => k σ
  | x => x
theorem thenS_next (σ : St) (k) : thenS (some (.next, σ)) k = k σ := rfl
theorem x_nil (cf : CF) (σ : St) : exSs cf [] σ = some (.next, σ) := by simp [xss_nil, xss_cons]
theorem x_cons (cf : CF) (s : MS) (r : List MS) (σ : St) : exSs cf (s :: r) σ = thenS (exS cf s σ) (exSs cf r) := by
  simp only [xss_nil, xss_cons, thenS]
  all_goals (split <;> rename_i q <;> simp_all)
theorem x_app (cf : CF) (a b : List MS) (σ : St) : exSs cf (a ++ b) σ = thenS (exSs cf a σ) (exSs cf b) := by
  induction a generalizing σ with
  | nil => simp [x_nil, thenS]
  | cons s a ih =>
    rw [List.cons_append, x_cons, x_cons]
    generalize exS cf s σ = z
    unfold thenS
    cases z with
    | none => rfl
    | some p =>
      obtain ⟨fl, σ'⟩ := p
      cases fl <;> simp [ih, thenS]
theorem x_assign (cf : CF) (x : String) (e : ME) (r : List MS) (σ : St) : exSs cf (.assign x e :: r) σ = (match evF cf (vis σ) e with
    | some (d, fr) => exSs cf r (setv (settle d e.names σ) x (fr, d))
    | none => none) := by
  rw [x_cons]
  simp only [xs_assign, xs_append, xs_setk, xs_ite, xs_for_, xs_ret, xs_bad]
  split <;> simp_all [thenS]
theorem x_append (cf : CF) (x : String) (e : ME) (r : List MS) (σ : St) : exSs cf (.append x e :: r) σ = (match evE cf (vis σ) e with
    | some d => (match (settle d e.names σ).lookup x with
      | some (true, .list ds) => if ds.length < big then exSs cf r (setv (settle d e.names σ) x (true, .list (ds ++ [d]))) else none
      | _ => none)
    | none => none) := by
  rw [x_cons]
  simp only [xs_assign, xs_append, xs_setk, xs_ite, xs_for_, xs_ret, xs_bad]
  split
  · rename_i q
    try simp only [q]
    split
    · rename_i q2
      try simp only [q2]
      split <;> rename_i q3
      · simp [thenS]
      · first | rfl | simp [thenS] | simp [thenS, q3]
    · rename_i q2
      first
      | rfl
      | (split
         · rename_i q3; exact absurd q3 (q2 _)
         · rfl)
  · rename_i q
    first | rfl | simp only [q, thenS]
theorem x_setk (cf : CF) (x : String) (k e : ME) (r : List MS) (σ : St) : exSs cf (.setk x k e :: r) σ = (match evE cf (vis σ) e with
    | some d => (match evE cf (vis σ) k with
      | some dk => (match (settle dk k.names (settle d e.names σ)).lookup x with
        | some (true, .dict ks vs) => if (keyOk dk ks && decide (ks.length < big)) = true then exSs cf r (setv (settle dk k.names (settle d e.names σ)) x (true, .dict (dput ks vs dk d).1 (dput ks vs dk d).2)) else none
        | _ => none)
      | none => none)
    | none => none) := by
  rw [x_cons]
  simp only [xs_assign, xs_append, xs_setk, xs_ite, xs_for_, xs_ret, xs_bad]
  split
  · rename_i q
    try simp only [q]
    split
    · rename_i q1
      try simp only [q1]
      split
      · rename_i q2
        try simp only [q2]
        split <;> rename_i q3
        · simp [thenS]
        · first | rfl | simp [thenS]
      · rename_i q2
        first
        | rfl
        | (split
           · rename_i q3; exact absurd q3 (q2 _ _)
           · rfl)
    · rename_i q1
      first | rfl | simp only [q1, thenS]
  · rename_i q
    first | rfl | simp only [q, thenS]
theorem x_ite (cf : CF) (c : ME) (t f : List MS) (r : List MS) (σ : St) : exSs cf (.ite c t f :: r) σ = (match evE cf (vis σ) c with
    | some d => (match truth d with
      | some true => exSs cf (t ++ r) σ
      | some false => exSs cf (f ++ r) σ
      | none => none)
    | none => none) := by
  rw [x_cons]
  simp only [xs_assign, xs_append, xs_setk, xs_ite, xs_for_, xs_ret, xs_bad]
  split
  · split <;> simp_all [thenS, x_app]
  · simp_all [thenS]
noncomputable def bodyF (cf : CF) (body : List MS) (x : String) : D → St → Option (Fl × St) := fun it σ => exSs cf body (setv σ x (false, it))
noncomputable def loopS (r : Option (Fl × St)) (k : St → Option (Fl × St)) : Option (Fl × St) := match r with
  | some (.next, σ) => k σ
  | x => x
theorem forB_cons (cf : CF) (body : List MS) (x : String) (it : D) (r : List D) (σ : St) : forD (bodyF cf body x) (it :: r) σ = loopS (exSs cf body (setv σ x (false, it))) (forD (bodyF cf body x) r) := by
  show (match exSs cf body (setv σ x (false, it)) with
    | some (.next, σ') => forD (bodyF cf body x) r σ'
    | x => x) = _
  generalize exSs cf body (setv σ x (false, it)) = z
  unfold loopS
  split <;> rfl
theorem x_for (cf : CF) (x : String) (src : ME) (body : List MS) (r : List MS) (σ : St) : exSs cf (.for_ x src body :: r) σ = (match evE cf (vis σ) src with
    | some d => (match d.items with
      | some its => thenS (forD (bodyF cf body x) its (freeze src.names σ)) (exSs cf r)
      | none => none)
    | none => none) := by
  rw [x_cons]
  simp only [xs_assign, xs_append, xs_setk, xs_ite, xs_for_, xs_ret, xs_bad]
  split
  · split
    · rename_i q1 _ _ q2
      try simp only [q1, q2]
      rfl
    · rename_i q1 _ q2
      try simp only [q1, q2]
      rfl
  · first | rfl | simp_all [thenS]
theorem x_ret (cf : CF) (e : ME) (r : List MS) (σ : St) : exSs cf (.ret e :: r) σ = (match (match e with
    | .var x => (match σ.lookup x with | some (fr, d) => some (d, fr) | none => none)
    | e => evF cf (vis σ) e) with
    | some (d, fr) => some (.ret fr d, σ)
    | none => none) := by
  rw [x_cons]
  cases e <;> simp only [xs_assign, xs_append, xs_setk, xs_ite, xs_for_, xs_ret, xs_bad]
  all_goals (split <;> rename_i q <;> first | rfl | simp only [q, thenS])
end Mine
namespace Mine
open PySem
section
variable (cf : CF) (ρ : List (String × D))
theorem e_var (x : String) : evE cf ρ (.var x) = ρ.lookup x := rfl
theorem e_glob (x : String) : evE cf ρ (.glob x) = cf.glob x := rfl
theorem e_int (i : Int) : evE cf ρ (.int i) = some (.int i) := rfl
theorem e_str (i : String) : evE cf ρ (.str i) = some (.str (Str.ofString i)) := rfl
theorem e_bool (i : Bool) : evE cf ρ (.bool i) = some (.bool i) := rfl
theorem e_none : evE cf ρ .none = some .none := rfl
noncomputable def o2 (f : D → D → Option D) (a b : Option D) : Option D := match a with
  | some x => (match b with | some y => f x y | none => none)
  | none => none
theorem e_bin (op : Operator) (a b : ME) : evE cf ρ (.bin op a b) = o2 (binD op) (evE cf ρ a) (evE cf ρ b) := rfl
theorem e_cmp (op : CmpOp) (a b : ME) : evE cf ρ (.cmp op a b) = o2 (cmpD op) (evE cf ρ a) (evE cf ρ b) := rfl
theorem e_sub (a b : ME) : evE cf ρ (.sub a b) = o2 subD (evE cf ρ a) (evE cf ρ b) := rfl
theorem e_bop (op : BoolOp) (es : List ME) : evE cf ρ (.bop op es) = evBop cf ρ op es := rfl
noncomputable def o1 (f : D → Option D) (a : Option D) : Option D := match a with
  | some x => f x
  | none => none
theorem e_not (a : ME) : evE cf ρ (.not a) = o1 (fun x => (truth x).map fun t => .bool (!t)) (evE cf ρ a) := rfl
noncomputable def oL (f : List D → Option D) (a : Option (List D)) : Option D := match a with
  | some x => f x
  | none => none
theorem e_tup (es : List ME) : evE cf ρ (.tup es) = oL (fun ds => if ds.length ≤ big then some (.tup ds) else none) (evEs cf ρ es) := rfl
theorem e_lst (es : List ME) : evE cf ρ (.lst es) = oL (fun ds => if ds.length ≤ big then some (.list ds) else none) (evEs cf ρ es) := rfl
theorem e_blt (f : String) (es : List ME) : evE cf ρ (.blt f es) = oL (bltD f) (evEs cf ρ es) := rfl
theorem e_call (f : String) (es : List ME) : evE cf ρ (.call f es) = oL (fun ds => (cf.call f ds).map (·.1)) (evEs cf ρ es) := rfl
theorem e_sset (a : ME) : evE cf ρ (.sset a) = o1 ssetD (evE cf ρ a) := rfl
theorem e_isi (a : ME) (T : String) : evE cf ρ (.isi a T) = o1 (fun x => (isiD x T).map .bool) (evE cf ρ a) := rfl
theorem e_sl (a l h : ME) : evE cf ρ (.sl a l h) = o1 (fun x => o2 (slD x) (evE cf ρ l) (evE cf ρ h)) (evE cf ρ a) := rfl
noncomputable def compF (elt : ME) (x : String) (cs : List ME) : D → Option (Option D) := fun it => match evCs cf ((x, it) :: ρ) cs with
  | some true => (match evE cf ((x, it) :: ρ) elt with | some y => some (some y) | none => none)
  | some false => some none
  | none => none
theorem e_comp (elt : ME) (x : String) (src : ME) (cs : List ME) : evE cf ρ (.comp elt x src cs) = o1 (fun d => (match d.items with
      | some its => if its.length ≤ big then (compM (compF cf ρ elt x cs) its).map .list else none
      | none => none)) (evE cf ρ src) := rfl
theorem es_nil : evEs cf ρ [] = some [] := rfl
noncomputable def oC (a : Option D) (b : Option (List D)) : Option (List D) := match a with
  | some d => (match b with | some ds => some (d :: ds) | none => none)
  | none => none
theorem es_cons (e : ME) (r : List ME) : evEs cf ρ (e :: r) = oC (evE cf ρ e) (evEs cf ρ r) := rfl
noncomputable def oB (s : Bool) (r : Option D) (a : Option D) : Option D := match a with
  | some d => (match truth d with
    | some t => if t = s then some d else r
    | none => none)
  | none => none
theorem oB_bool (s : Bool) (r : Option D) (t : Bool) : oB s r (some (.bool t)) = if t = s then some (.bool s) else r := by
  unfold oB truth
  by_cases h : t = s
  · subst h; rfl
  · simp [h]
theorem b_and (e e2 : ME) (r : List ME) : evBop cf ρ .And (e :: e2 :: r) = oB false (evBop cf ρ .And (e2 :: r)) (evE cf ρ e) := rfl
theorem b_or (e e2 : ME) (r : List ME) : evBop cf ρ .Or (e :: e2 :: r) = oB true (evBop cf ρ .Or (e2 :: r)) (evE cf ρ e) := rfl
theorem c_nil : evCs cf ρ [] = some true := rfl
noncomputable def oI (k k' : Option (Fl × St)) (a : Option D) : Option (Fl × St) := match a with
  | some d => (match truth d with
    | some t => if t = true then k else k'
    | none => none)
  | none => none
theorem x_if (c : ME) (t f r : List MS) (σ : St) : exSs cf (.ite c t f :: r) σ = oI (exSs cf (t ++ r) σ) (exSs cf (f ++ r) σ) (evE cf (vis σ) c) := by
  rw [x_ite]
  unfold oI
  cases evE cf (vis σ) c with
  | none => rfl
  | some d =>
    show (match truth d with | some true => _ | some false => _ | none => _) = _
    cases h : truth d with
    | none => simp [h]
    | some b => cases b <;> simp [h]
end
theorem compM_ok (f : D → Option (Option D)) (Q : D → D → Prop) : ∀ (its : List D), (∀ it ∈ its, ∃ d, Q it d ∧ f it = some (some d)) → ∃ ds, compM f its = some ds ∧ ds.length = its.length ∧ ∀ d ∈ ds, ∃ it ∈ its, Q it d
  | [], _ => ⟨[], rfl, rfl, fun _ h => nomatch h⟩
  | it :: r, h => by
    obtain ⟨d, q, e⟩ := h it (by simp)
    obtain ⟨ds, e2, hl, hq⟩ := compM_ok f Q r fun i hi => h i (by simp [hi])
    refine ⟨d :: ds, by simp [compM, e, e2], by simp [hl], ?_⟩
    intro d' hd
    rcases List.mem_cons.mp hd with rfl | hd
    · exact ⟨it, by simp, q⟩
    · obtain ⟨i, hi, q'⟩ := hq d' hd
      exact ⟨i, by simp [hi], q'⟩
theorem compF_nil {cf : CF} {ρ : List (String × D)} {elt : ME} {x : String} {it d : D} (h : evE cf ((x, it) :: ρ) elt = some d) : compF cf ρ elt x [] it = some (some d) := by
  unfold compF; simp [c_nil, h]
theorem items_rng (n : Nat) : D.items (.rng 0 n) = some ((List.range n).map fun (i : Nat) => D.int (i : Int)) := by
  simp [D.items]
end Mine
namespace Mine
open PySem
/-! rules of the evaluator -/
noncomputable def Run (cf : CF) (ss : List MS) (σ : St) (d : D) (fr : Bool) : Prop := fin (exSs cf ss σ) = some (d, fr)
noncomputable def ME.isVar : ME → Bool
  | .var _ => true
  | _ => false
/-- one step of a run -/
structure Stp (cf : CF) (s : MS) (σ σ' : St) : Prop where
  go : ∀ r, exSs cf (s :: r) σ = exSs cf r σ'
section
variable {cf : CF} {ρ : List (String × D)} {σ σ' : St} {a b c e : ME} {d x y : D} {i j : Int} {fr : Bool} {r t f body : List MS} {z : String}
theorem v_map (h : evE cf ρ e = some d) (hc : isCallE e = none) (hf : frF e d = fr) : evF cf ρ e = some (d, fr) := by
  unfold evF; rw [hc, h]; show some (d, frF e d) = _; rw [hf]
theorem v_call {g : String} {as : List ME} {ds : List D} (h : evEs cf ρ as = some ds) (hc : cf.call g ds = some (d, fr)) : evF cf ρ (.call g as) = some (d, fr) := by
  rw [evF_call, h]; exact hc
theorem v_callE {g : String} {as : List ME} {ds : List D} (h : evEs cf ρ as = some ds) (hc : cf.call g ds = some (d, fr)) : evE cf ρ (.call g as) = some d := by
  rw [e_call, h]; show (cf.call g ds).map _ = _; rw [hc]; rfl
theorem v_cons {es : List ME} {ds : List D} (h : evE cf ρ e = some d) (hs : evEs cf ρ es = some ds) : evEs cf ρ (e :: es) = some (d :: ds) := by
  rw [es_cons, h, hs]; rfl
theorem v_bin {op : Operator} (ha : evE cf ρ a = some x) (hb : evE cf ρ b = some y) (h : binD op x y = some d) : evE cf ρ (.bin op a b) = some d := by
  rw [e_bin, ha, hb]; exact h
theorem b_mul (h : -lim < j ∧ j < lim) : binD .Mult (.int i) (.int j) = some (.int (i * j)) := if_pos (.inr h)
theorem b_mulL (h : -lim < i ∧ i < lim) : binD .Mult (.int i) (.int j) = some (.int (i * j)) := if_pos (.inl h)
theorem b_div (h : 0 < j ∧ j < lim) : binD .FloorDiv (.int i) (.int j) = some (.int (i / j)) := if_pos h
theorem b_mod (h : 0 < j) : binD .Mod (.int i) (.int j) = some (.int (i % j)) := if_pos h
theorem b_pow (h : -powLim < i ∧ i < powLim ∧ 0 ≤ j ∧ j ≤ 100) : binD .Pow (.int i) (.int j) = some (.int (i ^ j.toNat)) := if_pos h
theorem b_add : binD .Add (.int i) (.int j) = some (.int (i + j)) := rfl
theorem b_sb : binD .Sub (.int i) (.int j) = some (.int (i - j)) := rfl
theorem v_cmp {op : CmpOp} (ha : evE cf ρ a = some x) (hb : evE cf ρ b = some y) (h : cmpD op x y = some d) : evE cf ρ (.cmp op a b) = some d := by
  rw [e_cmp, ha, hb]; exact h
theorem v_sub (ha : evE cf ρ a = some x) (hb : evE cf ρ b = some y) (h : subD x y = some d) : evE cf ρ (.sub a b) = some d := by
  rw [e_sub, ha, hb]; exact h
theorem v_sl {l h : ME} {u v : D} (ha : evE cf ρ a = some x) (hl : evE cf ρ l = some u) (hh : evE cf ρ h = some v) (hd : slD x u v = some d) : evE cf ρ (.sl a l h) = some d := by
  rw [e_sl, ha, hl, hh]; exact hd
theorem v_not {k : Bool} (ha : evE cf ρ a = some x) (h : truth x = some k) : evE cf ρ (.not a) = some (.bool (!k)) := by
  rw [e_not, ha]; show (truth x).map _ = _; rw [h]; rfl
theorem v_isi {T : String} {k : Bool} (ha : evE cf ρ a = some x) (h : isiD x T = some k) : evE cf ρ (.isi a T) = some (.bool k) := by
  rw [e_isi, ha]; show (isiD x T).map _ = _; rw [h]; rfl
theorem v_blt {g : String} {as : List ME} {ds : List D} (ha : evEs cf ρ as = some ds) (h : bltD g ds = some d) : evE cf ρ (.blt g as) = some d := by
  rw [e_blt, ha]; exact h
theorem v_tup {as : List ME} {ds : List D} (ha : evEs cf ρ as = some ds) (h : ds.length ≤ big) : evE cf ρ (.tup as) = some (.tup ds) := by
  rw [e_tup, ha]; exact if_pos h
theorem v_lst {as : List ME} {ds : List D} (ha : evEs cf ρ as = some ds) (h : ds.length ≤ big) : evE cf ρ (.lst as) = some (.list ds) := by
  rw [e_lst, ha]; exact if_pos h
theorem v_sset (ha : evE cf ρ a = some x) (h : ssetD x = some d) : evE cf ρ (.sset a) = some d := by rw [e_sset, ha]; exact h
theorem v_comp {elt src : ME} {cs : List ME} {its ds : List D} (ha : evE cf ρ src = some x) (hi : x.items = some its) (hl : its.length ≤ big) (h : compM (compF cf ρ elt z cs) its = some ds) : evE cf ρ (.comp elt z src cs) = some (.list ds) := by
  rw [e_comp, ha]; show (match x.items with | some its => _ | none => _) = _; rw [hi]; show (if its.length ≤ big then _ else _) = _; rw [if_pos hl, h]; rfl

theorem v_and {k l : Bool} {r' : List ME} (ha : evE cf ρ a = some (.bool k)) (hb : k = true → evE cf ρ (.bop .And (b :: r')) = some (.bool l)) : evE cf ρ (.bop .And (a :: b :: r')) = some (.bool (k && l)) := by
  rw [e_bop, b_and, ha, oB_bool]
  cases k with
  | false => rfl
  | true => exact hb rfl
theorem v_or {k l : Bool} {r' : List ME} (ha : evE cf ρ a = some (.bool k)) (hb : k = false → evE cf ρ (.bop .Or (b :: r')) = some (.bool l)) : evE cf ρ (.bop .Or (a :: b :: r')) = some (.bool (k || l)) := by
  rw [e_bop, b_or, ha, oB_bool]
  cases k with
  | true => rfl
  | false => exact hb rfl
theorem v_bop1 {op : BoolOp} (ha : evE cf ρ a = some d) : evE cf ρ (.bop op [a]) = some d := ha
/-! statements -/
theorem p_assign (h : evF cf (vis σ) e = some (d, fr)) : Stp cf (.assign z e) σ (setv (settle d e.names σ) z (fr, d)) := ⟨fun r => by rw [x_assign, h]⟩
theorem p_append {ds : List D} (h : evE cf (vis σ) e = some d) (hl : (settle d e.names σ).lookup z = some (true, .list ds)) (hb : ds.length < big) : Stp cf (.append z e) σ (setv (settle d e.names σ) z (true, .list (ds ++ [d]))) := ⟨fun r => by rw [x_append, h]; simp only [hl, if_pos hb]⟩
theorem p_setk {k : ME} {dk : D} {ks vs : List D} (h : evE cf (vis σ) e = some d) (hk : evE cf (vis σ) k = some dk) (hl : (settle dk k.names (settle d e.names σ)).lookup z = some (true, .dict ks vs)) (hb : (keyOk dk ks && decide (ks.length < big)) = true) :
    Stp cf (.setk z k e) σ (setv (settle dk k.names (settle d e.names σ)) z (true, .dict (dput ks vs dk d).1 (dput ks vs dk d).2)) := ⟨fun r => by rw [x_setk, h, hk]; simp only [hl, hb, if_true]⟩
theorem r_step {s : MS} (h : Stp cf s σ σ') (k : Run cf r σ' d fr) : Run cf (s :: r) σ d fr := by unfold Run; rw [h.go]; exact k
theorem x_ifb {k : Bool} (h : evE cf (vis σ) c = some x) (hx : truth x = some k) : exSs cf (.ite c t f :: r) σ = if k = true then exSs cf (t ++ r) σ else exSs cf (f ++ r) σ := by
  rw [x_if, h]; show (match truth x with | some t => _ | none => _) = _; rw [hx]
theorem r_if {k : Bool} (h : evE cf (vis σ) c = some x) (hx : truth x = some k) (ht : k = true → Run cf (t ++ r) σ d fr) (hf : k = false → Run cf (f ++ r) σ d fr) : Run cf (.ite c t f :: r) σ d fr := by
  unfold Run; rw [x_ifb h hx]
  cases k with
  | true => exact ht rfl
  | false => exact hf rfl
theorem r_ret (h : evF cf (vis σ) e = some (d, fr)) (hv : e.isVar = false) : Run cf (.ret e :: r) σ d fr := by
  unfold Run; rw [x_ret]
  cases e <;> first | (cases hv; done) | (simp only [h]; rfl)
theorem r_retv (h : σ.lookup z = some (fr, d)) : Run cf (.ret (.var z) :: r) σ d fr := by
  unfold Run; rw [x_ret]; simp only [h]; rfl
theorem r_for {src : ME} {its : List D} (hs : evE cf (vis σ) src = some x) (hi : x.items = some its) (h : forD (bodyF cf body z) its (freeze src.names σ) = some (.next, σ')) (k : Run cf r σ' d fr) : Run cf (.for_ z src body :: r) σ d fr := by
  unfold Run; rw [x_for, hs]; simp only [hi, h, thenS_next]; exact k
theorem run_call {P : List (String × Fn)} {X : CF} {g : String} {ps : List String} {bd : List MS} {n : Nat} {args : List D} (h : P.lookup g = some ⟨ps, bd⟩) (hl : args.length = ps.length) (k : Run (callN P X n) bd ((ps.zip args).map fun p => (p.1, (false, p.2))) d fr) :
    (callN P X (n + 1)).call g args = some (d, fr) := by rw [call_eq n args h hl]; exact k
theorem no_tf {k : Bool} {α : Prop} (h : k = true) (h' : k = false) : α := by rw [h] at h'; cases h'
theorem bin_ss {u v : Str} (h : u.length + v.length ≤ big) : binD .Add (.str u) (.str v) = some (.str (u ++ v)) := if_pos h
theorem bin_sm {u : Str} {k : Int} (h : 0 ≤ k ∧ k ≤ 1000 ∧ u.length ≤ 1000) : binD .Mult (.str u) (.int k) = some (.str (Txt.mul u k)) := if_pos h
theorem sub_s {u : Str} {k : Int} (h : 0 ≤ k ∧ k < u.length ∧ u.length ≤ big) : subD (.str u) (.int k) = some (.str (charAt u k.toNat)) := if_pos h
theorem sub_l {u : List D} {k : Nat} (h : k < u.length) (he : u[k]? = some d) : subD (.list u) (.int k) = some d := by
  show (idx k u.length).bind _ = _
  have : idx (k : Int) u.length = some k := by unfold idx; have : (k : Int) < u.length := by omega
                                               simp [this]
  rw [this]; exact he
theorem sub_t {u : List D} {k : Nat} (h : k < u.length) (he : u[k]? = some d) : subD (.tup u) (.int k) = some d := sub_l h he
theorem blt_rng {k : Nat} (h : k ≤ big) : bltD "range" [.int k] = some (.rng 0 k) := by
  show (if _ then _ else _) = _
  exact if_pos (by omega)
theorem len_s {u : Str} (h : u.length ≤ big) : bltD "len" [.str u] = some (.int u.length) := if_pos h
/-! runs that end in one of many answers -/
noncomputable def Rex (cf : CF) (ss : List MS) (σ : St) (Q : D → Bool → Prop) : Prop := ∃ d fr, Q d fr ∧ Run cf ss σ d fr
variable {Q : D → Bool → Prop}
theorem q_step {s : MS} (h : Stp cf s σ σ') (k : Rex cf r σ' Q) : Rex cf (s :: r) σ Q := let ⟨d, fr, q, k⟩ := k; ⟨d, fr, q, r_step h k⟩
theorem q_if {k : Bool} (h : evE cf (vis σ) c = some x) (hx : truth x = some k) (ht : k = true → Rex cf (t ++ r) σ Q) (hf : k = false → Rex cf (f ++ r) σ Q) : Rex cf (.ite c t f :: r) σ Q := by
  cases k with
  | true => obtain ⟨d, fr, q, k⟩ := ht rfl; exact ⟨d, fr, q, r_if h hx (fun _ => k) nofun⟩
  | false => obtain ⟨d, fr, q, k⟩ := hf rfl; exact ⟨d, fr, q, r_if h hx nofun fun _ => k⟩
theorem q_ret (h : evF cf (vis σ) e = some (d, fr)) (hv : e.isVar = false) (q : Q d fr) : Rex cf (.ret e :: r) σ Q := ⟨d, fr, q, r_ret h hv⟩
theorem q_retv (h : σ.lookup z = some (fr, d)) (q : Q d fr) : Rex cf (.ret (.var z) :: r) σ Q := ⟨d, fr, q, r_retv h⟩
theorem q_norm (h : σ = σ') (k : Rex cf r σ' Q) : Rex cf r σ Q := h ▸ k
theorem rex_call {P : List (String × Fn)} {X : CF} {g : String} {ps : List String} {bd : List MS} {n : Nat} {args : List D} (h : P.lookup g = some ⟨ps, bd⟩) (hl : args.length = ps.length) (k : Rex (callN P X n) bd ((ps.zip args).map fun p => (p.1, (false, p.2))) Q) :
    ∃ d fr, Q d fr ∧ (callN P X (n + 1)).call g args = some (d, fr) := let ⟨d, fr, q, k⟩ := k; ⟨d, fr, q, run_call h hl k⟩
theorem v_rows {elt src : ME} {k : Nat} (hk : k ≤ 1000) (R : D → Prop) (hs : evE cf ρ src = some (.int k)) (h : ∀ i : Nat, i < k → ∃ d, R d ∧ evE cf ((z, .int i) :: ρ) elt = some d) :
    ∃ ds : List D, ds.length = k ∧ (∀ d ∈ ds, R d) ∧ evE cf ρ (.blt "tuple" [.comp elt z (.blt "range" [src]) []]) = some (.tup ds) := by
  obtain ⟨ds, e, hl, hq⟩ := compM_ok (compF cf ρ elt z []) (fun _ d => R d) ((List.range k).map fun (i : Nat) => D.int (i : Int)) (by
    intro it hit
    obtain ⟨i, hi, rfl⟩ := List.mem_map.mp hit
    obtain ⟨d, q, e⟩ := h i (List.mem_range.mp hi)
    exact ⟨d, q, compF_nil e⟩)
  have hb : k ≤ big := Nat.le_trans hk (by decide)
  have hl' : ((List.range k).map fun (i : Nat) => D.int (i : Int)).length = k := by simp
  refine ⟨ds, hl.trans hl', fun d hd => let ⟨_, _, q⟩ := hq d hd; q, ?_⟩
  exact v_blt (v_cons (v_comp (v_blt (v_cons hs (es_nil _ _)) (blt_rng hb)) (items_rng k) (Nat.le_trans (Nat.le_of_eq hl') hb) e) (es_nil _ _)) rfl
/-! a block's outcome -/
noncomputable def Out (cf : CF) (ss : List MS) (σ : St) (R : Fl → St → Prop) : Prop := ∃ fl σ', R fl σ' ∧ exSs cf ss σ = some (fl, σ')
variable {R : Fl → St → Prop}
theorem o_step {s : MS} (h : Stp cf s σ σ') (k : Out cf r σ' R) : Out cf (s :: r) σ R := let ⟨fl, s', q, k⟩ := k; ⟨fl, s', q, (h.go r).trans k⟩
theorem o_if {k : Bool} (h : evE cf (vis σ) c = some x) (hx : truth x = some k) (ht : k = true → Out cf (t ++ r) σ R) (hf : k = false → Out cf (f ++ r) σ R) : Out cf (.ite c t f :: r) σ R := by
  unfold Out; rw [x_ifb h hx]
  cases k with
  | true => exact ht rfl
  | false => exact hf rfl
theorem o_ret (h : evF cf (vis σ) e = some (d, fr)) (hv : e.isVar = false) (q : R (.ret fr d) σ) : Out cf (.ret e :: r) σ R := by
  refine ⟨_, _, q, ?_⟩
  rw [x_ret]
  cases e <;> first | (cases hv; done) | (simp only [h])
theorem o_nil (q : R .next σ) : Out cf [] σ R := ⟨_, _, q, x_nil cf σ⟩
theorem p_cell (h : evF cf (vis σ) e = some (d, fr)) (hc : d.isCell = true) : Stp cf (.assign z e) σ (setv σ z (fr, d)) := by
  have := p_assign (z := z) h
  unfold settle at this
  rwa [if_pos (by cases d <;> first | rfl | cases hc)] at this
theorem loop_inv (I : List D → St → Prop) : ∀ (its pre : List D) (σ : St), I pre σ → (∀ a it b σ, pre ++ its = a ++ it :: b → I a σ → Out cf body (setv σ z (false, it)) fun fl σ' => fl = .next ∧ I (a ++ [it]) σ') →
    ∃ σ', I (pre ++ its) σ' ∧ forD (bodyF cf body z) its σ = some (.next, σ')
  | [], pre, σ, h, _ => ⟨σ, by simpa using h, rfl⟩
  | it :: r, pre, σ, h, hs => by
    obtain ⟨fl, σ₁, ⟨rfl, i1⟩, e⟩ := hs pre it r σ rfl h
    obtain ⟨σ₂, i2, e2⟩ := loop_inv I r (pre ++ [it]) σ₁ i1 fun a i b s h => hs a i b s (by simpa using h)
    exact ⟨σ₂, by simpa using i2, by rw [forB_cons, e]; exact e2⟩
end

/-! states known by what they hold -/
noncomputable def HasR (ρ : List (String × D)) (x : String) (d : D) : Prop := ρ.lookup x = some d
noncomputable def Has (σ : St) (x : String) (d : D) : Prop := ∃ fr, σ.lookup x = some (fr, d)
noncomputable def OwnV (σ : St) (x : String) (d : D) : Prop := σ.lookup x = some (true, d)
section
variable {cf : CF} {ρ : List (String × D)} {σ : St} {x y : String} {d e : D} {v : Bool × D} {ns : List String} {fr : Bool}
theorem hr_eq : HasR ((x, d) :: ρ) x d := by unfold HasR; rw [List.lookup_cons, beq_self_eq_true]
theorem hr_ne (h : (x == y) = false) (k : HasR ρ x d) : HasR ((y, e) :: ρ) x d := by unfold HasR; rw [List.lookup_cons, h]; exact k
theorem hr_vis (h : Has σ x d) : HasR (vis σ) x d := by obtain ⟨fr, h⟩ := h; unfold HasR; rw [lookup_vis, h]; rfl
theorem h_eq : Has (setv σ x (fr, d)) x d := ⟨fr, by rw [lookup_setv, if_pos rfl]⟩
theorem h_ne (h : (x == y) = false) (k : Has σ x d) : Has (setv σ y v) x d := let ⟨fr, k⟩ := k; ⟨fr, by rw [lookup_setv, if_neg (by rintro rfl; rw [beq_self_eq_true] at h; cases h)]; exact k⟩
theorem h_fr (k : Has σ x d) : Has (freeze ns σ) x d := let ⟨fr, k⟩ := k; ⟨_, by rw [lookup_freeze, k]; rfl⟩
theorem h_st (k : Has σ x d) : Has (settle e ns σ) x d := by unfold settle; split; exact k; exact h_fr k
theorem h_cons : Has ((x, (fr, d)) :: σ) x d := ⟨fr, by rw [List.lookup_cons, beq_self_eq_true]⟩
theorem h_consn (h : (x == y) = false) (k : Has σ x d) : Has ((y, v) :: σ) x d := let ⟨fr, k⟩ := k; ⟨fr, by rw [List.lookup_cons, h]; exact k⟩
theorem h_own (k : OwnV σ x d) : Has σ x d := ⟨true, k⟩
theorem w_eq : OwnV (setv σ x (true, d)) x d := by unfold OwnV; rw [lookup_setv, if_pos rfl]
theorem w_ne (h : (x == y) = false) (k : OwnV σ x d) : OwnV (setv σ y v) x d := by unfold OwnV; rw [lookup_setv, if_neg (by rintro rfl; rw [beq_self_eq_true] at h; cases h)]; exact k
theorem w_fr (h : ns.contains x = false) (k : OwnV σ x d) : OwnV (freeze ns σ) x d := by unfold OwnV; rw [lookup_freeze, k]; show some (true && !ns.contains x, d) = _; rw [h]; rfl
theorem w_st (h : ns.contains x = false) (k : OwnV σ x d) : OwnV (settle e ns σ) x d := by unfold settle; split; exact k; exact w_fr h k
theorem v_neg1 : evE cf ρ (.neg (.int 1)) = some (.int (-1)) := rfl
theorem v_var (h : HasR ρ x d) : evE cf ρ (.var x) = some d := h
end

set_option maxRecDepth 100000
set_option maxHeartbeats 4000000
noncomputable def X0 : CF := ⟨fun _ _ => none, fun _ => none⟩
noncomputable def fn_before : Fn := ⟨["one", "other"], [
    .ite (.cmp .NotEq (.isi (.var "one") "str") (.isi (.var "other") "str")) [.ret (.isi (.var "other") "str")] [],
    .ret (.cmp .Lt (.var "one") (.var "other"))]⟩
noncomputable def fn_law_before : Fn := ⟨["_law_one", "_law_other"], [
    .ite (.bop .And [.isi (.var "_law_one") "str", .isi (.var "_law_other") "str"]) [.ret (.cmp .Lt (.var "_law_one") (.var "_law_other"))] [],
    .ite (.bop .Or [.isi (.var "_law_one") "str", .isi (.var "_law_other") "str"]) [.ret (.isi (.var "_law_other") "str")] [],
    .ret (.cmp .Lt (.var "_law_one") (.var "_law_other"))]⟩
noncomputable def fn_law_alike : Fn := ⟨["_law_one", "_law_other"], [
    .ite (.bop .Or [.isi (.var "_law_one") "str", .isi (.var "_law_other") "str"]) [.ret (.bop .And [.isi (.var "_law_one") "str", .isi (.var "_law_other") "str", .cmp .Eq (.var "_law_one") (.var "_law_other")])] [],
    .ret (.cmp .Eq (.var "_law_one") (.var "_law_other"))]⟩
noncomputable def fn_law_sign_by : Fn := ⟨["_law_cell"], [
    .assign "_law_some" (.str " !\"#$&'()*+,-./0123456789:;<=>?@ABCDEFGHIJKLMNOPQRSTUVWXYZ[\\]^_`"),
    .assign "_law_some" (.bin .Add (.var "_law_some") (.str "abcdefghijklmnopqrstuvwxyz{|}~")),
    .ret (.sub (.var "_law_some") (.bin .Mod (.var "_law_cell") (.int 94)))]⟩
noncomputable def fn_law_cell_at : Fn := ⟨["_law_script", "_law_k"], [
    .ite (.cmp .Lt (.var "_law_k") (.blt "len" [.var "_law_script"])) [.ret (.sub (.var "_law_script") (.var "_law_k"))] [],
    .ret (.int 0)]⟩
noncomputable def fn_law_thing_by : Fn := ⟨["_law_cell"], [
    .assign "_law_way" (.bin .Mod (.var "_law_cell") (.int 9)),
    .assign "_law_rest" (.bin .FloorDiv (.var "_law_cell") (.int 9)),
    .ite (.cmp .Lt (.var "_law_way") (.int 4)) [.ret (.bin .Sub (.bin .Mod (.var "_law_rest") (.int 4)) (.int 1))] [],
    .ite (.cmp .Eq (.var "_law_way") (.int 4)) [.ret (.bin .Sub (.bin .Mod (.var "_law_rest") (.int 2000001)) (.int 1000000))] [],
    .ite (.cmp .Eq (.var "_law_way") (.int 5)) [.ret (.sub (.lst [.str "a", .str "b", .str "1", .str "0", .str "-1", .str "col", .str "is", .str "count"]) (.bin .Mod (.var "_law_rest") (.int 8)))] [],
    .ite (.cmp .Eq (.var "_law_way") (.int 6)) [.ret (.bin .Mult (.call "_law_sign_by" [.var "_law_rest"]) (.bin .Mod (.bin .FloorDiv (.var "_law_rest") (.int 94)) (.int 100)))] [],
    .ite (.cmp .Eq (.var "_law_way") (.int 7)) [.ret (.bin .Add (.bin .Sub (.bin .Mod (.bin .Pow (.bin .Add (.bin .Mod (.var "_law_rest") (.bin .Pow (.int 10) (.int 60))) (.int 3)) (.int 9)) (.bin .Sub (.bin .Mult (.int 2) (.bin .Pow (.int 10) (.int 60))) (.int 1))) (.bin .Pow (.int 10) (.int 60))) (.int 1))] [],
    .assign "_law_word" (.sl (.str "any word") .none (.bin .Mod (.var "_law_rest") (.int 9))),
    .assign "_law_at" (.bin .Mod (.bin .FloorDiv (.var "_law_rest") (.int 9)) (.bin .Add (.blt "len" [.var "_law_word"]) (.int 1))),
    .ret (.bin .Add (.bin .Add (.sl (.var "_law_word") .none (.var "_law_at")) (.call "_law_sign_by" [.bin .FloorDiv (.var "_law_rest") (.int 81)])) (.sl (.var "_law_word") (.var "_law_at") .none))]⟩
noncomputable def fn_law_mixed : Fn := ⟨["_law_cell", "_law_k"], [
    .ret (.bin .Mod (.bin .Pow (.bin .Mod (.bin .Add (.bin .Mult (.var "_law_cell") (.int 48271)) (.bin .Mult (.bin .Add (.var "_law_k") (.int 1)) (.int 1299721))) (.int 2147483647)) (.int 5)) (.int 2147483647))]⟩
structure BG (P : List (String × Fn)) : Prop where
  sign : P.lookup "_law_sign_by" = some fn_law_sign_by
  cell : P.lookup "_law_cell_at" = some fn_law_cell_at
  thing : P.lookup "_law_thing_by" = some fn_law_thing_by
  mixed : P.lookup "_law_mixed" = some fn_law_mixed
structure BC (P : List (String × Fn)) : Prop where
  before : P.lookup "before" = some fn_before
  lalike : P.lookup "_law_alike" = some fn_law_alike
  lbefore : P.lookup "_law_before" = some fn_law_before
local macro_rules | `(tactic| walk_at "h") => `(tactic| repeat' (first | (with_reducible (first | assumption | exact h_eq | exact hr_eq | exact w_eq | exact h_cons | apply h_own; assumption)) | ((with_reducible (first | apply h_ne | apply hr_ne | apply w_ne | apply h_consn | apply w_st | apply w_fr)); (focus (exact rfl))) | (with_reducible (first | apply hr_vis | apply h_st | apply h_fr))))
local macro_rules | `(tactic| walk_at "v") => `(tactic| repeat' (first | (with_reducible (first | assumption | apply e_int | apply e_str | apply e_bool | apply e_none | apply es_nil)) | ((with_reducible apply v_var); (focus (walk_at "h"; done))) | ((with_reducible apply v_var); exact rfl) | ((with_reducible refine (e_glob _ _ _).trans ?_); (with_reducible assumption)) | (with_reducible (first | exact v_neg1 | apply v_cons | apply v_bin | exact b_add | exact b_sb | apply b_mod | apply b_div)) | ((with_reducible apply b_mulL); (focus decide)) | (with_reducible (first | apply b_mul | apply v_cmp | apply v_sub | apply v_sl | apply v_not | apply v_isi | apply v_blt | apply v_tup | apply v_lst | apply v_lcp | apply v_callE | apply v_call | apply v_bop1)) | ((with_reducible (first | apply v_and | apply v_or)); rotate_left; intro _; rotate_right) | (with_reducible apply v_map) | ((with_reducible (first | show cmpD _ _ _ = _ | show truth _ = _ | show isiD _ _ = _ | show frF _ _ = _ | show isCallE _ = _ | show bltD _ _ = _ | show lstD _ = _ | show subD _ _ = _)); exact rfl) | decide | exact Nat.le_of_ble_eq_true rfl))
local macro_rules | `(tactic| walk_at "a") => `(tactic| first | ((with_reducible apply p_cell); (focus (walk_at "v"; done)); (with_reducible assumption)) | ((with_reducible apply p_assign); walk_at "v"; done))
local macro_rules | `(tactic| walk_at "i") => `(tactic| ((focus (walk_at "v"; done)); (focus (exact rfl)); (focus (intro hh; first | exact no_tf hh (by assumption) | exact absurd hh (by decide) | skip)); rotate_left; (focus (intro hh; first | exact no_tf (by assumption) hh | exact absurd hh (by decide) | skip))))
local macro_rules | `(tactic| walk_at "s") => `(tactic| repeat' (first | ((first | apply r_step | apply q_step | apply o_step); (focus (walk_at "a"))) | ((first | apply r_if | apply q_if | apply o_if); walk_at "i") | ((first | apply r_retv | apply q_retv); (focus (exact rfl))) | ((first | apply r_ret | apply q_ret | apply o_ret); (focus (walk_at "v"; done)); (focus (exact rfl))) | apply o_nil))
noncomputable def signs : Str := Str.ofString " !\"#$&'()*+,-./0123456789:;<=>?@ABCDEFGHIJKLMNOPQRSTUVWXYZ[\\]^_`" ++ Str.ofString "abcdefghijklmnopqrstuvwxyz{|}~"
theorem signs_len : signs.length = 94 := by decide +kernel
theorem emod_nat (c : Int) {k : Nat} (h : 0 < k) : ∃ m : Nat, c % (k : Int) = m ∧ m < k := ⟨(c % k).toNat, (Int.toNat_of_nonneg (Int.emod_nonneg _ (by omega))).symm, by have := Int.emod_nonneg c (b := (k : Int)) (by omega); have := Int.emod_lt_of_pos c (b := (k : Int)) (by omega); omega⟩
section
variable {P : List (String × Fn)} {X : CF}
theorem sign_by (B : BG P) (n : Nat) (c : Int) : ∃ x : Str, x.length = 1 ∧ (callN P X (n + 1)).call "_law_sign_by" [.int c] = some (.str x, false) := by
  have h1 : (Str.ofString " !\"#$&'()*+,-./0123456789:;<=>?@ABCDEFGHIJKLMNOPQRSTUVWXYZ[\\]^_`").length + (Str.ofString "abcdefghijklmnopqrstuvwxyz{|}~").length ≤ big := by decide +kernel
  have h2 : 0 ≤ c % 94 ∧ c % 94 < (signs.length : Int) ∧ signs.length ≤ big := by rw [signs_len]; refine ⟨by omega, by omega, by decide⟩
  refine ⟨charAt signs (c % 94).toNat, rfl, run_call B.sign rfl ?_⟩
  have q : binD .Add (.str (Str.ofString " !\"#$&'()*+,-./0123456789:;<=>?@ABCDEFGHIJKLMNOPQRSTUVWXYZ[\\]^_`")) (.str (Str.ofString "abcdefghijklmnopqrstuvwxyz{|}~")) = some (.str signs) := bin_ss h1
  have q2 := sub_s h2
  walk_at "s"
theorem cell_at (B : BG P) (n : Nat) (ns : List Int) (k : Nat) : (callN P X (n + 1)).call "_law_cell_at" [.list (ns.map .int), .int k] = some (.int (ns.getD k 0), false) := by
  have hl : (ns.map D.int).length = ns.length := List.length_map ..
  refine run_call B.cell rfl ?_
  by_cases h : k < ns.length
  · have h1 : decide ((k : Int) < (ns.map D.int).length) = true := decide_eq_true (by omega)
    have h2 : subD (.list (ns.map .int)) (.int k) = some (.int (ns.getD k 0)) := sub_l (by omega) (by simp [h])
    walk_at "s"
  · have h1 : decide ((k : Int) < (ns.map D.int).length) = false := decide_eq_false (by omega)
    have h2 : ns.getD k 0 = 0 := by simp [h]
    rw [h2]
    walk_at "s"
theorem mixed (B : BG P) (n : Nat) (c k : Int) : ∃ r : Int, 0 ≤ r ∧ (callN P X (n + 1)).call "_law_mixed" [.int c, .int k] = some (.int r, false) := by
  have hp : -powLim < (c * 48271 + (k + 1) * 1299721) % 2147483647 ∧ (c * 48271 + (k + 1) * 1299721) % 2147483647 < powLim ∧ (0 : Int) ≤ 5 ∧ (5 : Int) ≤ 100 := by
    have h1 : (2147483647 : Int) < powLim := by decide +kernel
    generalize powLim = pl at *
    generalize c * 48271 + (k + 1) * 1299721 = z
    omega
  have q := b_pow hp
  refine ⟨((c * 48271 + (k + 1) * 1299721) % 2147483647) ^ (5 : Int).toNat % 2147483647, Int.emod_nonneg _ (by decide), run_call B.mixed rfl ?_⟩
  walk_at "s"
end
noncomputable def Good (d : D) : Prop := (∃ i : Int, d = .int i ∧ -(10 ^ 61) < i ∧ i < 10 ^ 61) ∨ ∃ x : Str, d = .str x ∧ x.length ≤ 200
theorem Good.cell {d : D} (h : Good d) : d.isCell = true := by rcases h with ⟨i, rfl, _⟩ | ⟨x, rfl, _⟩ <;> rfl

theorem len_append (x y : Str) : (x ++ y).length = x.length + y.length := by
  show (x.cps ++ y.cps).size = _
  simp [Str.length]
theorem mul_len {x : Str} (hx : x.length = 1) {n : Int} (h0 : 0 ≤ n) (h1 : n ≤ 100) : (Txt.mul x n).length ≤ 100 := by
  unfold Txt.mul
  split
  · decide
  · split
    · omega
    · show ((List.replicate n.toNat x.cps).foldl (· ++ ·) #[]).size ≤ 100
      have : ∀ (k : Nat) (a : Array Nat), ((List.replicate k x.cps).foldl (· ++ ·) a).size = a.size + k := by
        intro k
        induction k with
        | zero => intro a; simp
        | succ k ih =>
          intro a
          rw [List.replicate_succ, List.foldl_cons, ih]
          have : x.cps.size = 1 := hx
          simp; omega
      rw [this]; simp; omega

theorem slD_hi (x : Str) (j : Int) (h : x.length ≤ big) : ∃ W : Str, W.length ≤ x.length ∧ slD (.str x) .none (.int j) = some (.str W) := ⟨_, Txt.slice_le _ _ _, if_pos h⟩
theorem slD_lo (x : Str) (j : Int) (h : x.length ≤ big) : ∃ W : Str, W.length ≤ x.length ∧ slD (.str x) (.int j) .none = some (.str W) := ⟨_, Txt.slice_le _ _ _, if_pos h⟩
noncomputable def T60 : Int := 10 ^ 60
theorem list_pick {l : List D} (hn : 0 < l.length) (c : Int) {R : D → Prop} (h : ∀ d ∈ l, R d) : ∃ d, R d ∧ subD (.list l) (.int (c % (l.length : Int))) = some d := by
  obtain ⟨m, e, hm⟩ := emod_nat c hn
  rw [e]
  exact ⟨l[m], h _ (List.getElem_mem hm), sub_l hm (List.getElem?_eq_getElem hm)⟩
theorem thing_by {P : List (String × Fn)} {X : CF} (B : BG P) (n : Nat) (c : Int) : ∃ d, Good d ∧ (callN P X (n + 2)).call "_law_thing_by" [.int c] = some (d, false) := by
  obtain ⟨x, hx, hs⟩ := sign_by (X := X) B n (c / 9)
  obtain ⟨x', hx', hs'⟩ := sign_by (X := X) B n (c / 9 / 81)
  obtain ⟨y, ⟨y', rfl, hy⟩, q5⟩ := list_pick (l := [.str (Str.ofString "a"), .str (Str.ofString "b"), .str (Str.ofString "1"), .str (Str.ofString "0"), .str (Str.ofString "-1"), .str (Str.ofString "col"), .str (Str.ofString "is"), .str (Str.ofString "count")]) (by decide) (c / 9) (R := fun d => ∃ x : Str, d = .str x ∧ x.length ≤ 200) (by
    intro d hd
    simp only [List.mem_cons, List.not_mem_nil, or_false] at hd
    rcases hd with rfl | rfl | rfl | rfl | rfl | rfl | rfl | rfl <;> exact ⟨_, rfl, by decide +kernel⟩)
  have q5' : subD (.list [.str (Str.ofString "a"), .str (Str.ofString "b"), .str (Str.ofString "1"), .str (Str.ofString "0"), .str (Str.ofString "-1"), .str (Str.ofString "col"), .str (Str.ofString "is"), .str (Str.ofString "count")]) (.int (c / 9 % 8)) = some (.str y') := q5
  have hm : 0 ≤ c / 9 / 94 % 100 ∧ c / 9 / 94 % 100 ≤ 100 := by omega
  have q6 := bin_sm (u := x) (k := c / 9 / 94 % 100) ⟨hm.1, Int.le_trans hm.2 (by decide), by rw [hx]; decide⟩
  have p1 : binD .Pow (.int 10) (.int 60) = some (.int T60) := b_pow (i := 10) (j := 60) (by decide +kernel)
  have t0 : 0 < T60 := by decide +kernel
  have hz : 0 ≤ c / 9 % T60 ∧ c / 9 % T60 < T60 := ⟨Int.emod_nonneg _ (by decide +kernel), Int.emod_lt_of_pos _ t0⟩
  have p2 : binD .Pow (.int (c / 9 % T60 + 3)) (.int 9) = some (.int ((c / 9 % T60 + 3) ^ (9 : Int).toNat)) := b_pow (by
    have h2 : T60 + 3 < powLim := by decide +kernel
    generalize powLim = pl at *
    omega)
  have p3 : binD .Mult (.int 2) (.int T60) = some (.int (2 * T60)) := b_mulL (by decide)
  have t1 : 0 < 2 * T60 - 1 := by omega
  obtain ⟨W, hW, w1⟩ := slD_hi (Str.ofString "any word") (c / 9 % 9) (by decide +kernel)
  have hW8 : W.length ≤ 8 := Nat.le_trans hW (by decide +kernel)
  have hWb : W.length ≤ big := Nat.le_trans hW8 (by decide)
  have w2 := len_s hWb
  have w3 : (0 : Int) < (W.length : Int) + 1 := by omega
  obtain ⟨U, hU, w4⟩ := slD_hi W (c / 9 / 9 % ((W.length : Int) + 1)) hWb
  obtain ⟨V, hV, w5⟩ := slD_lo W (c / 9 / 9 % ((W.length : Int) + 1)) hWb
  have hb0 : (16 : Nat) + 1 ≤ big := by decide
  have w6 := bin_ss (u := U) (v := x') (by omega)
  have w7 := bin_ss (u := U ++ x') (v := V) (by rw [len_append]; omega)
  have g1 : -(10 : Int) ^ 61 < c / 9 % 4 - 1 ∧ c / 9 % 4 - 1 < 10 ^ 61 := by omega
  have g2 : -(10 : Int) ^ 61 < c / 9 % 2000001 - 1000000 ∧ c / 9 % 2000001 - 1000000 < 10 ^ 61 := by omega
  have g3 : -(10 : Int) ^ 61 < (c / 9 % T60 + 3) ^ (9 : Int).toNat % (2 * T60 - 1) - T60 + 1 ∧ (c / 9 % T60 + 3) ^ (9 : Int).toNat % (2 * T60 - 1) - T60 + 1 < 10 ^ 61 := by
    have h1 := Int.emod_nonneg ((c / 9 % T60 + 3) ^ (9 : Int).toNat) (b := 2 * T60 - 1) (by omega)
    have h2 := Int.emod_lt_of_pos ((c / 9 % T60 + 3) ^ (9 : Int).toNat) t1
    generalize (c / 9 % T60 + 3) ^ (9 : Int).toNat % (2 * T60 - 1) = v at *
    have e2 : (10 : Int) ^ 61 = 10 * T60 := by decide +kernel
    rw [e2]
    generalize T60 = tt at *
    omega
  have g4 : (U ++ x' ++ V).length ≤ 200 := by rw [len_append, len_append]; omega
  have g5 := Nat.le_trans (mul_len hx hm.1 hm.2) (show 100 ≤ 200 by decide)
  have key : Rex (callN P X (n + 1)) fn_law_thing_by.body [("_law_cell", (false, .int c))] fun d fr => Good d ∧ fr = false := by
    clear hm hz hW hW8 hWb hU hV hb0 hx hx' q5
    walk_at "s"
    all_goals first
      | exact ⟨.inl ⟨_, rfl, g1⟩, rfl⟩
      | exact ⟨.inl ⟨_, rfl, g2⟩, rfl⟩
      | exact ⟨.inr ⟨_, rfl, hy⟩, rfl⟩
      | exact ⟨.inr ⟨_, rfl, g5⟩, rfl⟩
      | exact ⟨.inl ⟨_, rfl, g3⟩, rfl⟩
      | exact ⟨.inr ⟨_, rfl, g4⟩, rfl⟩
  obtain ⟨d, fr, ⟨hd, rfl⟩, hr⟩ := rex_call (X := X) (n := n + 1) (args := [.int c]) B.thing rfl key
  exact ⟨d, hd, hr⟩
theorem getD_at {row : List D} {p : Nat} (h : p < row.length) : subD (.tup row) (.int p) = some (row.getD p .none) := sub_t h (by rw [List.getD_eq_getElem?_getD, List.getElem?_eq_getElem h]; rfl)

set_option maxRecDepth 100000
set_option maxHeartbeats 400000
noncomputable def fn_law_one_by : Fn := ⟨["_law_cell", "_law_many_here"], [
    .assign "_law_word" (.sub (.lst [.str "same", .str "unlike", .str "before", .str "upto", .str "behind", .str "from", .str "unlike", .str "upto", .str "from"]) (.bin .Mod (.var "_law_cell") (.int 9))),
    .assign "_law_place" (.bin .Mod (.bin .FloorDiv (.var "_law_cell") (.int 9)) (.var "_law_many_here")),
    .assign "_law_rest" (.bin .FloorDiv (.bin .FloorDiv (.var "_law_cell") (.int 9)) (.var "_law_many_here")),
    .ite (.cmp .Eq (.bin .Mod (.var "_law_rest") (.int 2)) (.int 0)) [.ret (.tup [.var "_law_word", .var "_law_place", .str "col", .bin .Mod (.bin .FloorDiv (.var "_law_rest") (.int 2)) (.var "_law_many_here")])] [],
    .ret (.tup [.var "_law_word", .var "_law_place", .str "is", .call "_law_thing_by" [.bin .FloorDiv (.var "_law_rest") (.int 2)]])]⟩
noncomputable def fn_law_clause_by : Fn := ⟨["_law_cell", "_law_many_here"], [
    .ite (.bop .Or [.cmp .Eq (.var "_law_many_here") (.int 0), .cmp .Eq (.bin .Mod (.var "_law_cell") (.int 32)) (.int 15)]) [.ret (.tup [])] [],
    .ite (.cmp .Eq (.bin .Mod (.var "_law_cell") (.int 16)) (.int 14)) [.ret (.tup [.tup [.str "same", .bin .Sub (.var "_law_many_here") (.int 1), .str "col", .int 0]])] [],
    .ite (.cmp .Eq (.bin .Mod (.var "_law_cell") (.int 16)) (.int 13)) [.ret (.tup [.tup [.str "same", .int 0, .str "col", .bin .Sub (.var "_law_many_here") (.int 1)]])] [],
    .assign "_law_count" (.bin .Add (.int 1) (.bin .Mod (.bin .FloorDiv (.var "_law_cell") (.int 16)) (.int 2))),
    .ite (.cmp .Eq (.bin .Mod (.bin .FloorDiv (.var "_law_cell") (.int 32)) (.int 11)) (.int 1)) [.assign "_law_count" (.bin .Mod (.bin .FloorDiv (.var "_law_cell") (.int 352)) (.int 13))] [],
    .ret (.blt "tuple" [.comp (.call "_law_one_by" [.call "_law_mixed" [.var "_law_cell", .bin .Add (.int 40) (.var "_law_k")], .var "_law_many_here"]) "_law_k" (.blt "range" [.var "_law_count"]) []])]⟩
structure BD (P : List (String × Fn)) : Prop extends BG P where
  one : P.lookup "_law_one_by" = some fn_law_one_by
  clause : P.lookup "_law_clause_by" = some fn_law_clause_by
local macro_rules | `(tactic| walk_at "v") => `(tactic| repeat' (first | (with_reducible assumption) | (with_reducible exact e_int _ _ _) | (with_reducible exact e_str _ _ _) | (with_reducible exact e_bool _ _ _) | (with_reducible exact e_none _ _) | (with_reducible exact es_nil _ _) | ((with_reducible refine (e_var _ _ _).trans ?_); exact rfl) | (with_reducible apply v_cons) | (with_reducible apply v_bin) | (with_reducible exact b_add) | (with_reducible exact b_sb) | (with_reducible apply b_mod) | (with_reducible apply b_div) | ((with_reducible apply b_mulL); (focus decide)) | (with_reducible apply b_mul) | (with_reducible apply v_cmp) | (with_reducible apply v_sub) | (with_reducible apply v_sl) | (with_reducible apply v_not) | (with_reducible apply v_isi) | (with_reducible apply v_blt) | (with_reducible apply v_tup) | (with_reducible apply v_lst) | (with_reducible apply v_lcp) | (with_reducible apply v_callE) | (with_reducible apply v_call) | (with_reducible apply v_bop1) | ((with_reducible apply v_and); rotate_left; intro _; rotate_right) | ((with_reducible apply v_or); rotate_left; intro _; rotate_right) | (with_reducible apply v_map) | ((with_reducible show cmpD _ _ _ = _); exact rfl) | ((with_reducible show truth _ = _); exact rfl) | ((with_reducible show isiD _ _ = _); exact rfl) | ((with_reducible show frF _ _ = _); exact rfl) | ((with_reducible show isCallE _ = _); exact rfl) | ((with_reducible show bltD _ _ = _); exact rfl) | ((with_reducible show lstD _ = _); exact rfl) | ((with_reducible show subD _ _ = _); exact rfl) | decide | exact Nat.le_of_ble_eq_true rfl))
local macro_rules | `(tactic| walk_at "s") => `(tactic| repeat' (first | (apply r_step; (focus (first | ((with_reducible apply p_cell); (focus (walk_at "v"; done)); (with_reducible assumption)) | ((with_reducible apply p_assign); walk_at "v"; done)))) | (apply r_if; (focus (walk_at "v"; done)); (focus (exact rfl)); (focus (intro hh; first | exact no_tf hh (by assumption) | exact absurd hh (by decide) | skip)); rotate_left; (focus (intro hh; first | exact no_tf (by assumption) hh | exact absurd hh (by decide) | skip))) | (apply r_retv; (focus (exact rfl))) | (apply r_ret; (focus (walk_at "v"; done)); (focus (exact rfl)))))
local macro_rules | `(tactic| walk_at "q") => `(tactic| repeat' (first | (apply q_step; (focus (first | ((with_reducible apply p_cell); (focus (walk_at "v"; done)); (with_reducible assumption)) | ((with_reducible apply p_assign); walk_at "v"; done)))) | (apply q_if; (focus (walk_at "v"; done)); (focus (exact rfl)); (focus (intro hh; first | exact no_tf hh (by assumption) | exact absurd hh (by decide) | skip)); rotate_left; (focus (intro hh; first | exact no_tf (by assumption) hh | exact absurd hh (by decide) | skip))) | (apply q_retv; (focus (exact rfl))) | (apply q_ret; (focus (walk_at "v"; done)); (focus (exact rfl)))))
local macro_rules | `(tactic| walk_at "o") => `(tactic| repeat' (first | (apply o_step; (focus (first | ((with_reducible apply p_cell); (focus (walk_at "v"; done)); (with_reducible assumption)) | ((with_reducible apply p_assign); walk_at "v"; done)))) | (apply o_if; (focus (walk_at "v"; done)); (focus (exact rfl)); (focus (intro hh; first | exact no_tf hh (by assumption) | exact absurd hh (by decide) | skip)); rotate_left; (focus (intro hh; first | exact no_tf (by assumption) hh | exact absurd hh (by decide) | skip))) | (apply o_ret; (focus (walk_at "v"; done)); (focus (exact rfl))) | apply o_nil))
noncomputable def words : List String := ["same", "unlike", "before", "upto", "behind", "from"]
noncomputable def tst (w : String) (p : Nat) (kd : String) (o : D) : D := .tup [.str (Str.ofString w), .int p, .str (Str.ofString kd), o]
/-- a test on a row of m cells -/
noncomputable def Tst (m : Nat) (d : D) : Prop := ∃ w p, w ∈ words ∧ p < m ∧ ((∃ q : Nat, q < m ∧ d = tst w p "col" (.int q)) ∨ ∃ o, Good o ∧ d = tst w p "is" o)
theorem word_at (c : Int) : ∃ w, w ∈ words ∧ subD (.list [.str (Str.ofString "same"), .str (Str.ofString "unlike"), .str (Str.ofString "before"), .str (Str.ofString "upto"), .str (Str.ofString "behind"), .str (Str.ofString "from"), .str (Str.ofString "unlike"), .str (Str.ofString "upto"), .str (Str.ofString "from")]) (.int (c % 9)) = some (.str (Str.ofString w)) := by
  obtain ⟨d, ⟨w, rfl, hw⟩, h⟩ := list_pick (l := ["same", "unlike", "before", "upto", "behind", "from", "unlike", "upto", "from"].map fun s => D.str (Str.ofString s)) (by decide) c (R := fun d => ∃ w, d = .str (Str.ofString w) ∧ w ∈ words) (by
    intro d hd
    obtain ⟨w, hw, rfl⟩ := List.mem_map.mp hd
    exact ⟨w, rfl, (by decide : ∀ w ∈ ["same", "unlike", "before", "upto", "behind", "from", "unlike", "upto", "from"], w ∈ words) w hw⟩)
  exact ⟨w, hw, h⟩
section
variable {P : List (String × Fn)} {X : CF}
theorem one_by (B : BD P) (n : Nat) (c : Int) (m : Nat) (h0 : 0 < m) (h1 : m ≤ 1000) : ∃ d, Tst m d ∧ (callN P X (n + 3)).call "_law_one_by" [.int c, .int m] = some (d, false) := by
  obtain ⟨w, hw, q1⟩ := word_at c
  have q2 : (0 : Int) < (m : Int) ∧ (m : Int) < lim := by unfold lim; omega
  have q3 := q2.1
  obtain ⟨p, hp, hpm⟩ := emod_nat (c / 9) h0
  obtain ⟨q, hq, hqm⟩ := emod_nat (c / 9 / m / 2) h0
  obtain ⟨d, gd, hd⟩ := thing_by (X := X) B.toBG n (c / 9 / m / 2)
  have key : Rex (callN P X (n + 2)) fn_law_one_by.body [("_law_cell", (false, .int c)), ("_law_many_here", (false, .int m))] fun d fr => Tst m d ∧ fr = false := by
    walk_at "q"
    all_goals first
      | exact ⟨⟨w, p, hw, hpm, .inl ⟨q, hqm, by rw [hp, hq]; rfl⟩⟩, rfl⟩
      | exact ⟨⟨w, p, hw, hpm, .inr ⟨d, gd, by rw [hp]; rfl⟩⟩, rfl⟩
  obtain ⟨d, fr, ⟨hd, rfl⟩, hr⟩ := rex_call (X := X) (n := n + 2) (args := [.int c, .int m]) B.one rfl key
  exact ⟨d, hd, hr⟩
/-- a tuple of tests -/
noncomputable def Cls (m : Nat) (d : D) : Prop := ∃ ts, d = .tup ts ∧ (∀ t ∈ ts, Tst m t) ∧ ts.length ≤ 40
theorem clause_by (B : BD P) (n : Nat) (c : Int) (m : Nat) (h1 : m ≤ 1000) : ∃ d, Cls m d ∧ (callN P X (n + 4)).call "_law_clause_by" [.int c, .int m] = some (d, false) := by
  have key : Rex (callN P X (n + 3)) fn_law_clause_by.body [("_law_cell", (false, .int c)), ("_law_many_here", (false, .int m))] fun d fr => Cls m d ∧ fr = false := by
    have nilok : Cls m (.tup []) := ⟨[], rfl, (fun _ h => nomatch h), Nat.zero_le _⟩
    by_cases hm : m = 0
    · subst hm
      have hz : (((0 : Nat) : Int) == 0 || c % 32 == 15) = true := rfl
      walk_at "q"
      exact ⟨nilok, rfl⟩
    have h0 : 0 < m := by omega
    have em : (m : Int) - 1 = ((m - 1 : Nat) : Int) := by omega
    have one : ∀ p q : Nat, p < m → q < m → Cls m (.tup [.tup [.str (Str.ofString "same"), .int p, .str (Str.ofString "col"), .int q]]) := fun p q hp hq => ⟨_, rfl, fun t ht => List.mem_singleton.mp ht ▸ ⟨"same", p, by decide, hp, .inl ⟨q, hq, rfl⟩⟩, Nat.le_of_ble_eq_true rfl⟩
    have s1 := one (m - 1) 0 (by omega) h0
    have s2 := one 0 (m - 1) h0 (by omega)
    rw [← em] at s1 s2
    have tail : ∀ k : Nat, k ≤ 13 → Rex (callN P X (n + 3)) (fn_law_clause_by.body.drop 5) [("_law_cell", (false, .int c)), ("_law_many_here", (false, .int m)), ("_law_count", (false, .int k))] fun d fr => Cls m d ∧ fr = false := by
      intro k hk
      obtain ⟨ds, q1, q2, q3⟩ := v_rows (cf := callN P X (n + 3)) (ρ := vis [("_law_cell", (false, .int c)), ("_law_many_here", (false, .int m)), ("_law_count", (false, .int k))]) (elt := .call "_law_one_by" [.call "_law_mixed" [.var "_law_cell", .bin .Add (.int 40) (.var "_law_k")], .var "_law_many_here"]) (z := "_law_k") (src := .var "_law_count") (Nat.le_trans hk (by decide)) (Tst m) rfl (by
        intro i _
        obtain ⟨r, _, hr⟩ := mixed (X := X) B.toBG (n + 2) c (40 + i)
        obtain ⟨d, td, hd⟩ := one_by (X := X) B n r m h0 h1
        exact ⟨d, td, by walk_at "v"⟩)
      exact q_ret (v_map q3 rfl rfl) rfl ⟨⟨ds, rfl, q2, q1 ▸ Nat.le_trans hk (by decide)⟩, rfl⟩
    obtain ⟨k1, e1, l1⟩ : ∃ k : Nat, 1 + c / 16 % 2 = k ∧ k ≤ 13 := ⟨(1 + c / 16 % 2).toNat, by omega, by omega⟩
    obtain ⟨k2, e2, l2⟩ := emod_nat (c / 352) (k := 13) (by decide)
    have e2 : c / 352 % 13 = (k2 : Int) := e2
    walk_at "q"
    all_goals first
      | exact ⟨nilok, rfl⟩
      | exact ⟨s1, rfl⟩
      | exact ⟨s2, rfl⟩
      | (refine q_norm ?_ (tail k1 l1); rw [← e1] <;> exact rfl)
      | (refine q_norm ?_ (tail k2 (Nat.le_of_lt l2)); rw [← e2] <;> exact rfl)
  obtain ⟨d, fr, ⟨hd, rfl⟩, hr⟩ := rex_call (X := X) (n := n + 3) (args := [.int c, .int m]) B.clause rfl key
  exact ⟨d, hd, hr⟩
end

/-! comprehensions -/
theorem compM_filter (f : D → Option (Option D)) (p : D → Bool) : ∀ (its : List D), (∀ it ∈ its, f it = some (if p it = true then some it else none)) → compM f its = some (its.filter p)
  | [], _ => rfl
  | it :: r, h => by
    rw [compM, h it (.head _)]
    show (match compM f r with | none => none | some ds => _) = _
    rw [compM_filter f p r fun i hi => h i (.tail _ hi)]
    cases hp : p it <;> simp [hp]
theorem compF_one {cf : CF} {ρ : List (String × D)} {elt c : ME} {x : String} {it y d : D} {k : Bool} (hc : evE cf ((x, it) :: ρ) c = some d) (ht : truth d = some k) (he : k = true → evE cf ((x, it) :: ρ) elt = some y) : compF cf ρ elt x [c] it = some (if k = true then some y else none) := by
  have e : evCs cf ((x, it) :: ρ) [c] = some k := by
    show (match evE cf ((x, it) :: ρ) c with | some d => (match truth d with | some t => if t then some true else some false | none => none) | none => none) = _
    rw [hc]; show (match truth d with | some t => _ | none => _) = _; rw [ht]; cases k <;> rfl
  unfold compF; rw [e]
  cases k with
  | true => show (match evE cf ((x, it) :: ρ) elt with | some y => _ | none => _) = _; rw [he rfl]; rfl
  | false => rfl
theorem compM_none (f : D → Option (Option D)) : ∀ (its : List D), (∀ it ∈ its, f it = some none) → compM f its = some []
  | [], _ => rfl
  | it :: r, h => by rw [compM, h it (.head _)]; show (match compM f r with | none => none | some ds => _) = _; rw [compM_none f r fun i hi => h i (.tail _ hi)]
theorem neq_self (i : Int) : cmpD .NotEq (.int i) (.int i) = some (.bool false) := by show some (D.bool (!(i == i))) = _; rw [beq_self_eq_true]; rfl
theorem v_nothing {cf : CF} {ρ : List (String × D)} {src elt c : ME} {z : String} {k : Nat} (hk : k ≤ 1000) (hs : evE cf ρ src = some (.int k)) (h : ∀ i : Nat, i < k → evE cf ((z, .int i) :: ρ) c = some (.bool true)) :
    evE cf ρ (.not (.comp elt z (.blt "range" [src]) [.not c])) = some (.bool true) := by
  have hb : k ≤ big := Nat.le_trans hk (by decide)
  have hlen : ((List.range k).map fun (i : Nat) => D.int (i : Int)).length = k := by simp
  refine v_not (k := false) (v_comp (ds := []) (v_blt (v_cons (d := .int k) hs (es_nil _ _)) (blt_rng hb)) (items_rng k) (Nat.le_trans (Nat.le_of_eq hlen) hb) (compM_none _ _ ?_)) rfl
  intro it hit
  obtain ⟨i, hi, rfl⟩ := List.mem_map.mp hit
  exact compF_one (k := false) (y := .none) (v_not (h i (List.mem_range.mp hi)) rfl) rfl nofun

set_option maxRecDepth 100000
set_option maxHeartbeats 400000
noncomputable def fn_law_cell_is : Fn := ⟨["_law_found", "_law_due"], [
    .ite (.bop .Or [.isi (.var "_law_due") "str", .isi (.var "_law_found") "bool"]) [.ret (.bop .And [.isi (.var "_law_found") "str", .isi (.var "_law_due") "str", .cmp .Eq (.var "_law_found") (.var "_law_due")])] [],
    .ret (.bop .And [.isi (.var "_law_found") "int", .cmp .Eq (.var "_law_found") (.var "_law_due")])]⟩
noncomputable def fn_turned : Fn := ⟨["clause", "places"], [
    .assign "found" (.lst []),
    .for_ "test" (.var "clause") [.assign "other" (.sub (.var "test") (.int 3)), .ite (.cmp .Eq (.sub (.var "test") (.int 2)) (.str "col")) [.assign "other" (.sub (.var "places") (.sub (.var "test") (.int 3)))] [], .append "found" (.tup [.sub (.var "test") (.int 0), .sub (.var "places") (.sub (.var "test") (.int 1)), .sub (.var "test") (.int 2), .var "other"])],
    .ret (.blt "tuple" [.var "found"])]⟩
noncomputable def fn_law_part_is : Fn := ⟨["_law_found", "_law_due"], [
    .ite (.isi (.var "_law_due") "tuple") [.ite (.bop .Or [.not (.isi (.var "_law_found") "tuple"), .cmp .NotEq (.blt "len" [.var "_law_found"]) (.blt "len" [.var "_law_due"])]) [.ret (.bool false)] [], .ret (.not (.comp (.var "_law_k") "_law_k" (.blt "range" [.blt "len" [.var "_law_due"]]) [.not (.call "_law_part_is" [.sub (.var "_law_found") (.var "_law_k"), .sub (.var "_law_due") (.var "_law_k")])]))] [],
    .ret (.call "_law_cell_is" [.var "_law_found", .var "_law_due"])]⟩
noncomputable def fn_places_of : Fn := ⟨["clause"], [
    .assign "found" (.lst []),
    .for_ "test" (.var "clause") [.append "found" (.sub (.var "test") (.int 1)), .ite (.cmp .Eq (.sub (.var "test") (.int 2)) (.str "col")) [.append "found" (.sub (.var "test") (.int 3))] []],
    .ret (.sset (.var "found"))]⟩
noncomputable def fn_law : Fn := ⟨["_law_script"], [
    .assign "_law_wide" (.bin .Add (.int 1) (.bin .Mod (.call "_law_cell_at" [.var "_law_script", .int 0]) (.int 6))),
    .ite (.cmp .Eq (.bin .Mod (.bin .FloorDiv (.call "_law_cell_at" [.var "_law_script", .int 0]) (.int 6)) (.int 4)) (.int 1)) [.assign "_law_wide" (.bin .Add (.int 1) (.bin .Mod (.bin .FloorDiv (.call "_law_cell_at" [.var "_law_script", .int 0]) (.int 24)) (.int 64)))] [],
    .assign "_law_clause" (.call "_law_clause_by" [.call "_law_cell_at" [.var "_law_script", .int 1], .var "_law_wide"]),
    .ite (.cmp .Eq (.bin .Mod (.call "_law_cell_at" [.var "_law_script", .int 2]) (.int 5)) (.int 1)) [.assign "_law_many_here" (.bin .Mod (.bin .FloorDiv (.call "_law_cell_at" [.var "_law_script", .int 2]) (.int 5)) (.int 40)), .assign "_law_clause" (.blt "tuple" [.comp (.call "_law_one_by" [.call "_law_mixed" [.call "_law_cell_at" [.var "_law_script", .int 1], .var "_law_k"], .var "_law_wide"]) "_law_k" (.blt "range" [.var "_law_many_here"]) []])] [],
    .assign "_law_places" (.comp (.bin .Mod (.call "_law_mixed" [.call "_law_cell_at" [.var "_law_script", .int 3], .var "_law_k"]) (.int 70)) "_law_k" (.blt "range" [.var "_law_wide"]) []),
    .ite (.cmp .Eq (.bin .Mod (.call "_law_cell_at" [.var "_law_script", .int 4]) (.int 7)) (.int 1)) [.assign "_law_places" (.comp (.bin .Add (.var "_law_place") (.int 900)) "_law_place" (.var "_law_places") [])] [],
    .assign "_law_due" (.lst []),
    .assign "_law_told" (.dct [] []),
    .for_ "_law_one" (.var "_law_clause") [.setk "_law_told" (.sub (.var "_law_one") (.int 1)) (.bool true), .assign "_law_other" (.sub (.var "_law_one") (.int 3)), .ite (.cmp .Eq (.sub (.var "_law_one") (.int 2)) (.str "col")) [.setk "_law_told" (.sub (.var "_law_one") (.int 3)) (.bool true), .assign "_law_other" (.sub (.var "_law_places") (.sub (.var "_law_one") (.int 3)))] [], .append "_law_due" (.tup [.sub (.var "_law_one") (.int 0), .sub (.var "_law_places") (.sub (.var "_law_one") (.int 1)), .sub (.var "_law_one") (.int 2), .var "_law_other"])],
    .assign "_law_rising" (.comp (.var "_law_k") "_law_k" (.blt "range" [.var "_law_wide"]) [.cmp .In (.var "_law_k") (.var "_law_told")]),
    .assign "_law_found" (.call "places_of" [.var "_law_clause"]),
    .ite (.bop .Or [.not (.isi (.var "_law_found") "list"), .not (.call "_law_part_is" [.blt "tuple" [.var "_law_found"], .blt "tuple" [.var "_law_rising"]])]) [.ret (.bool false)] [],
    .ret (.call "_law_part_is" [.call "turned" [.var "_law_clause", .blt "tuple" [.var "_law_places"]], .blt "tuple" [.var "_law_due"]])]⟩
noncomputable def PP : List (String × Fn) := [("_law_sign_by", fn_law_sign_by), ("_law_cell_is", fn_law_cell_is), ("_law_thing_by", fn_law_thing_by), ("turned", fn_turned), ("_law_part_is", fn_law_part_is), ("places_of", fn_places_of), ("_law_mixed", fn_law_mixed), ("_law_one_by", fn_law_one_by), ("_law_clause_by", fn_law_clause_by), ("_law_cell_at", fn_law_cell_at), ("law", fn_law)]
local macro_rules | `(tactic| walk_at "v") => `(tactic| repeat' (first | (with_reducible (first | assumption | apply e_int | apply e_str | apply e_bool | apply e_none | apply es_nil)) | ((with_reducible apply v_var); (focus (walk_at "h"; done))) | ((with_reducible apply v_var); exact rfl) | ((with_reducible refine (e_glob _ _ _).trans ?_); (with_reducible assumption)) | (with_reducible (first | exact v_neg1 | apply v_cons | apply v_bin | exact b_add | exact b_sb | apply b_mod | apply b_div)) | ((with_reducible apply b_mulL); (focus decide)) | (with_reducible (first | apply b_mul | apply v_cmp | apply v_sub | apply v_sl | apply v_not | apply v_isi | apply v_blt | apply v_tup | apply v_lst | apply v_lcp | apply v_callE | apply v_call | apply v_bop1)) | ((with_reducible (first | apply v_and | apply v_or)); rotate_left; intro _; rotate_right) | (with_reducible apply v_map) | ((with_reducible (first | show cmpD _ _ _ = _ | show truth _ = _ | show isiD _ _ = _ | show frF _ _ = _ | show isCallE _ = _ | show bltD _ _ = _ | show lstD _ = _ | show subD _ _ = _)); exact rfl) | decide | exact Nat.le_of_ble_eq_true rfl))
local macro_rules | `(tactic| walk_at "s") => `(tactic| repeat' (first | ((first | apply r_step | apply q_step | apply o_step); (focus (walk_at "a"))) | ((first | apply r_if | apply q_if | apply o_if); walk_at "i") | ((first | apply r_retv | apply q_retv); (focus (exact rfl))) | ((first | apply r_ret | apply q_ret | apply o_ret); (focus (walk_at "v"; done)); (focus (exact rfl))) | apply o_nil))
theorem bd : BD PP := { sign := rfl, cell := rfl, thing := rfl, mixed := rfl, one := rfl, clause := rfl }
section
variable {X : CF}
theorem cell_is (n : Nat) {a : D} (ha : a.isCell = true) : (callN PP X (n + 1)).call "_law_cell_is" [a, a] = some (.bool true, false) := by
  refine run_call (by rfl : PP.lookup "_law_cell_is" = some fn_law_cell_is) rfl ?_
  cases a <;> first | (cases ha; done) | skip
  · rename_i i
    have e : cmpD .Eq (.int i) (.int i) = some (.bool true) := by show some (D.bool (i == i)) = _; rw [beq_self_eq_true]
    exact r_if (k := false) rfl rfl nofun fun _ => r_ret (v_map (v_and (k := true) (l := true) rfl fun _ => v_bop1 (v_cmp rfl rfl e)) rfl rfl) rfl
  · rename_i x
    have e : cmpD .Eq (.str x) (.str x) = some (.bool true) := by show some (D.bool (x == x)) = _; rw [beq_self_eq_true]
    exact r_if (k := true) rfl rfl (fun _ => r_ret (v_map (v_and (k := true) (l := true) rfl fun _ => v_and (k := true) (l := true) rfl fun _ => v_bop1 (v_cmp rfl rfl e)) rfl rfl) rfl) nofun
/-- part_is of a part with itself, n levels deep -/
noncomputable def Same (n : Nat) (d : D) : Prop := ∀ X, (callN PP X (n + 2)).call "_law_part_is" [d, d] = some (.bool true, false)
theorem same_cell {a : D} (ha : a.isCell = true) (n : Nat) : Same n a := fun X => by
  refine run_call (by rfl : PP.lookup "_law_part_is" = some fn_law_part_is) rfl ?_
  have h := cell_is (X := X) n ha
  cases a <;> first | (cases ha; done) | exact r_if (k := false) rfl rfl nofun fun _ => r_ret (v_call rfl h) rfl
theorem same_tup {ds : List D} {n : Nat} (hl : ds.length ≤ 1000) (h : ∀ d ∈ ds, Same n d) : Same (n + 1) (.tup ds) := fun X => by
  refine run_call (by rfl : PP.lookup "_law_part_is" = some fn_law_part_is) rfl ?_
  refine r_if (k := true) rfl rfl (fun _ => ?_) nofun
  refine r_if (k := false || false) (v_or (k := false) (l := false) rfl fun _ => v_bop1 (v_cmp rfl rfl (neq_self ds.length))) rfl nofun fun _ => ?_
  refine r_ret (v_map (v_nothing (k := ds.length) hl rfl fun i hi => ?_) rfl rfl) rfl
  have hd : subD (.tup ds) (.int i) = some ds[i] := sub_t hi (List.getElem?_eq_getElem hi)
  exact v_callE (v_cons (v_sub (x := .tup ds) (y := .int i) rfl rfl hd) (v_cons (v_sub (x := .tup ds) (y := .int i) rfl rfl hd) (es_nil _ _))) (h _ (List.getElem_mem hi) X)
end

set_option maxRecDepth 100000
set_option maxHeartbeats 400000
/-- the places that a test reads -/
noncomputable def plsV (t : D) : List Int := match t with
  | .tup [_, .int p, .str k, o] => if k == Str.ofString "col" then (match o with | .int q => [p, q] | _ => [p]) else [p]
  | _ => []
/-- a test on other places -/
noncomputable def turnV (pls : List D) (t : D) : D := match t with
  | .tup [w, .int p, .str k, o] => .tup [w, pls.getD p.toNat .none, .str k, if k == Str.ofString "col" then (match o with | .int q => pls.getD q.toNat .none | _ => .none) else o]
  | _ => .none
theorem col_t : (Str.ofString "col" == Str.ofString "col") = true := by decide +kernel
theorem col_f : (Str.ofString "is" == Str.ofString "col") = false := by decide +kernel
theorem pls_col (w : String) (p q : Nat) : plsV (tst w p "col" (.int q)) = [(p : Int), (q : Int)] := rfl
theorem pls_is (w : String) (p : Nat) (o : D) : plsV (tst w p "is" o) = [(p : Int)] := rfl
theorem turn_col (pls : List D) (w : String) (p q : Nat) : turnV pls (tst w p "col" (.int q)) = .tup [.str (Str.ofString w), pls.getD p .none, .str (Str.ofString "col"), pls.getD q .none] := by
  show D.tup [_, _, _, if _ then _ else _] = _
  rw [if_pos col_t]; rfl
theorem turn_is (pls : List D) (w : String) (p : Nat) (o : D) : turnV pls (tst w p "is" o) = .tup [.str (Str.ofString w), pls.getD p .none, .str (Str.ofString "is"), o] := by
  show D.tup [_, _, _, if _ then _ else _] = _
  rw [if_neg (by rw [col_f]; exact Bool.false_ne_true)]; rfl
theorem eq_col : cmpD .Eq (.str (Str.ofString "col")) (.str (Str.ofString "col")) = some (.bool true) := by show some (D.bool (_ == _)) = _; rw [col_t]
theorem eq_is : cmpD .Eq (.str (Str.ofString "is")) (.str (Str.ofString "col")) = some (.bool false) := by show some (D.bool (_ == _)) = _; rw [col_f]
theorem pls_len (t : D) : (plsV t).length ≤ 2 := by
  unfold plsV; split
  · split
    · split <;> exact Nat.le_of_ble_eq_true rfl
    · exact Nat.le_of_ble_eq_true rfl
  · exact Nat.zero_le _
theorem flat_len : ∀ ts : List D, (ts.flatMap plsV).length ≤ 2 * ts.length
  | [] => Nat.zero_le _
  | t :: ts => by
    rw [List.flatMap_cons, List.length_append, List.length_cons, Nat.mul_succ, Nat.add_comm]
    exact Nat.add_le_add (flat_len ts) (pls_len t)
theorem intsD_map : ∀ ns : List Int, intsD (ns.map .int) = some ns
  | [] => rfl
  | n :: ns => by
    show (intsD (ns.map .int)).map (n :: ·) = _
    rw [intsD_map ns]; rfl
section
variable {X : CF} {m : Nat}
theorem places_of (n : Nat) {ts : List D} (ht : ∀ t ∈ ts, Tst m t) (hl : ts.length ≤ 40) : (callN PP X (n + 1)).call "places_of" [.tup ts] = some (.list ((usort (ts.flatMap plsV)).map .int), true) := by
  have hbig : 2000 < big := by decide
  refine run_call (by rfl : PP.lookup "places_of" = some fn_places_of) rfl ?_
  refine r_step (p_assign (d := .list []) (fr := true) rfl) ?_
  obtain ⟨σ', i1, h3⟩ := loop_inv (cf := callN PP X n) (body := [.append "found" (.sub (.var "test") (.int 1)), .ite (.cmp .Eq (.sub (.var "test") (.int 2)) (.str "col")) [.append "found" (.sub (.var "test") (.int 3))] []]) (z := "test")
    (fun a σ => OwnV σ "found" (.list ((a.flatMap plsV).map .int))) ts [] [("clause", (false, .tup ts)), ("found", (true, .list []))] rfl (by
      rintro a it b σ hab i1
      rw [List.nil_append] at hab
      have hit : it ∈ ts := by rw [hab]; simp
      have hal : a.length < ts.length := by rw [hab]; simp
      have hfl := flat_len a
      obtain ⟨w, p, hw, hp, ⟨q, hq, rfl⟩ | ⟨o, ho, rfl⟩⟩ := ht it hit
      · rw [List.flatMap_append, List.flatMap_cons, List.flatMap_nil, pls_col, List.map_append]
        refine o_step (p_append (d := .int p) (ds := (a.flatMap plsV).map .int) (v_sub (x := tst w p "col" (.int q)) (y := .int 1) (by walk_at "v") (by walk_at "v") rfl) (?_ : OwnV _ _ _) (by rw [List.length_map]; omega)) ?_
        · walk_at "h"
        refine o_if (k := true) (v_cmp (v_sub (x := tst w p "col" (.int q)) (y := .int 2) (by walk_at "v") (by walk_at "v") rfl) (by walk_at "v") eq_col) rfl (fun _ => ?_) nofun
        refine o_step (p_append (d := .int q) (ds := (a.flatMap plsV).map .int ++ [.int p]) (v_sub (x := tst w p "col" (.int q)) (y := .int 3) (by walk_at "v") (by walk_at "v") rfl) (?_ : OwnV _ _ _) (by rw [List.length_append, List.length_map]; simp only [List.length_cons, List.length_nil]; omega)) (o_nil ⟨rfl, ?_⟩)
        · walk_at "h"
        · rw [List.append_assoc]; exact w_eq
      · rw [List.flatMap_append, List.flatMap_cons, List.flatMap_nil, pls_is, List.map_append]
        refine o_step (p_append (d := .int p) (ds := (a.flatMap plsV).map .int) (v_sub (x := tst w p "is" o) (y := .int 1) (by walk_at "v") (by walk_at "v") rfl) (?_ : OwnV _ _ _) (by rw [List.length_map]; omega)) ?_
        · walk_at "h"
        exact o_if (k := false) (v_cmp (v_sub (x := tst w p "is" o) (y := .int 2) (by walk_at "v") (by walk_at "v") rfl) (by walk_at "v") eq_is) rfl nofun fun _ => o_nil ⟨rfl, w_eq⟩)
  have hs : ssetD (.list ((ts.flatMap plsV).map .int)) = some (.list ((usort (ts.flatMap plsV)).map .int)) := by
    show (if _ < 127 then (intsD _).map _ else _) = _
    have := flat_len ts
    rw [if_pos (by rw [List.length_map]; omega), intsD_map]; rfl
  refine r_for (x := .tup ts) (its := ts) rfl rfl h3 (r_ret (v_map (v_sset (x := .list ((ts.flatMap plsV).map .int)) (v_var (hr_vis (h_own i1))) hs) rfl rfl) rfl)
theorem turned (n : Nat) {ts pls : List D} (ht : ∀ t ∈ ts, Tst m t) (hl : ts.length ≤ 40) (hm : pls.length = m) : (callN PP X (n + 1)).call "turned" [.tup ts, .tup pls] = some (.tup (ts.map (turnV pls)), false) := by
  have hbig : 2000 < big := by decide
  refine run_call (by rfl : PP.lookup "turned" = some fn_turned) rfl ?_
  refine r_step (p_assign (d := .list []) (fr := true) rfl) ?_
  have at_ : ∀ p : Nat, p < m → subD (.tup pls) (.int p) = some (pls.getD p .none) := fun p hp => getD_at (hm ▸ hp)
  obtain ⟨σ', ⟨_, i1⟩, h3⟩ := loop_inv (cf := callN PP X n) (body := [.assign "other" (.sub (.var "test") (.int 3)), .ite (.cmp .Eq (.sub (.var "test") (.int 2)) (.str "col")) [.assign "other" (.sub (.var "places") (.sub (.var "test") (.int 3)))] [], .append "found" (.tup [.sub (.var "test") (.int 0), .sub (.var "places") (.sub (.var "test") (.int 1)), .sub (.var "test") (.int 2), .var "other"])]) (z := "test")
    (fun a σ => Has σ "places" (.tup pls) ∧ OwnV σ "found" (.list (a.map (turnV pls)))) ts [] [("clause", (false, .tup ts)), ("places", (false, .tup pls)), ("found", (true, .list []))] ⟨by walk_at "h", rfl⟩ (by
      rintro a it b σ hab ⟨i0, i1⟩
      rw [List.nil_append] at hab
      have hit : it ∈ ts := by rw [hab]; simp
      have hal : a.length < ts.length := by rw [hab]; simp
      obtain ⟨w, p, hw, hp, ⟨q, hq, rfl⟩ | ⟨o, ho, rfl⟩⟩ := ht it hit
      · rw [List.map_append, List.map_cons, List.map_nil, turn_col]
        refine o_step (p_assign (d := .int q) (fr := false) (v_map (v_sub (x := tst w p "col" (.int q)) (y := .int 3) (by walk_at "v") (by walk_at "v") rfl) rfl rfl)) ?_
        refine o_if (k := true) (v_cmp (v_sub (x := tst w p "col" (.int q)) (y := .int 2) (by walk_at "v") (by walk_at "v") rfl) (by walk_at "v") eq_col) rfl (fun _ => ?_) nofun
        refine o_step (p_assign (d := pls.getD q .none) (fr := false) (v_map (v_sub (x := .tup pls) (y := .int q) (by walk_at "v") (v_sub (x := tst w p "col" (.int q)) (y := .int 3) (by walk_at "v") (by walk_at "v") rfl) (at_ q hq)) rfl rfl)) ?_
        refine o_step (p_append (d := .tup [.str (Str.ofString w), pls.getD p .none, .str (Str.ofString "col"), pls.getD q .none]) (ds := a.map (turnV pls))
          (v_tup (v_cons (v_sub (x := tst w p "col" (.int q)) (y := .int 0) (by walk_at "v") (by walk_at "v") rfl) (v_cons (v_sub (x := .tup pls) (y := .int p) (by walk_at "v") (v_sub (x := tst w p "col" (.int q)) (y := .int 1) (by walk_at "v") (by walk_at "v") rfl) (at_ p hp)) (v_cons (v_sub (x := tst w p "col" (.int q)) (y := .int 2) (by walk_at "v") (by walk_at "v") rfl) (v_cons (by walk_at "v") (es_nil _ _))))) (Nat.le_of_ble_eq_true rfl)) (?_ : OwnV _ _ _) (by rw [List.length_map]; omega)) (o_nil ⟨rfl, ?_, w_eq⟩)
        · walk_at "h"
        · walk_at "h"
      · rw [List.map_append, List.map_cons, List.map_nil, turn_is]
        refine o_step (p_cell (d := o) (fr := false) (v_map (v_sub (x := tst w p "is" o) (y := .int 3) (by walk_at "v") (by walk_at "v") rfl) rfl rfl) ho.cell) ?_
        refine o_if (k := false) (v_cmp (v_sub (x := tst w p "is" o) (y := .int 2) (by walk_at "v") (by walk_at "v") rfl) (by walk_at "v") eq_is) rfl nofun fun _ => ?_
        refine o_step (p_append (d := .tup [.str (Str.ofString w), pls.getD p .none, .str (Str.ofString "is"), o]) (ds := a.map (turnV pls))
          (v_tup (v_cons (v_sub (x := tst w p "is" o) (y := .int 0) (by walk_at "v") (by walk_at "v") rfl) (v_cons (v_sub (x := .tup pls) (y := .int p) (by walk_at "v") (v_sub (x := tst w p "is" o) (y := .int 1) (by walk_at "v") (by walk_at "v") rfl) (at_ p hp)) (v_cons (v_sub (x := tst w p "is" o) (y := .int 2) (by walk_at "v") (by walk_at "v") rfl) (v_cons (by walk_at "v") (es_nil _ _))))) (Nat.le_of_ble_eq_true rfl)) (?_ : OwnV _ _ _) (by rw [List.length_map]; omega)) (o_nil ⟨rfl, ?_, w_eq⟩)
        · walk_at "h"
        · walk_at "h")
  exact r_for (x := .tup ts) (its := ts) rfl rfl h3 (r_ret (v_map (v_blt (v_cons (d := .list (ts.map (turnV pls))) (v_var (hr_vis (h_own i1))) (es_nil _ _)) rfl) rfl rfl) rfl)
end

set_option maxRecDepth 100000
set_option maxHeartbeats 400000
/-- the dict's keys are the numbers met so far -/
structure KS (ns : List Int) (ks vs : List D) : Prop where
  len : vs.length = ks.length
  le : ks.length ≤ ns.length
  nums : ∀ x ∈ ks, ∃ k : Int, x = .int k
  mem : ∀ k : Int, D.int k ∈ ks ↔ k ∈ ns
theorem dput_int (k : Int) (v : D) : ∀ {ks vs : List D}, vs.length = ks.length → (∀ x ∈ ks, ∃ k : Int, x = .int k) →
    (dput ks vs (.int k) v).2.length = (dput ks vs (.int k) v).1.length ∧ (dput ks vs (.int k) v).1.length ≤ ks.length + 1 ∧ (∀ x ∈ (dput ks vs (.int k) v).1, ∃ k : Int, x = .int k) ∧ ∀ z : Int, D.int z ∈ (dput ks vs (.int k) v).1 ↔ D.int z ∈ ks ∨ z = k
  | [], [], _, _ => ⟨rfl, Nat.le_refl _, fun x hx => ⟨k, List.mem_singleton.mp hx⟩, fun z => ⟨fun h => .inr (D.int.inj (List.mem_singleton.mp h)), fun h => h.elim (fun h => nomatch h) fun h => h ▸ List.mem_cons_self⟩⟩
  | [], _ :: _, h, _ => nomatch h
  | _ :: _, [], h, _ => nomatch h
  | x :: ks, u :: vs, h, hi => by
    obtain ⟨j, rfl⟩ := hi x List.mem_cons_self
    have hi' := fun y hy => hi y (List.mem_cons_of_mem _ hy)
    have e : dput (.int j :: ks) (u :: vs) (.int k) v = if (j == k) = true then (.int j :: ks, v :: vs) else (.int j :: (dput ks vs (.int k) v).1, u :: (dput ks vs (.int k) v).2) := rfl
    rw [e]
    split
    · next hjk =>
      have hjk : j = k := beq_iff_eq.mp hjk
      exact ⟨h, Nat.le_succ _, hi, fun z => ⟨.inl, fun h => h.elim id fun h => by rw [h, ← hjk]; exact List.mem_cons_self⟩⟩
    · obtain ⟨h1, h2, h3, h4⟩ := dput_int k v (Nat.succ.inj h) hi'
      refine ⟨congrArg Nat.succ h1, Nat.succ_le_succ h2, fun y hy => (List.mem_cons.mp hy).elim (fun e => ⟨j, e⟩) (h3 y), fun z => ?_⟩
      show D.int z ∈ D.int j :: (dput ks vs (.int k) v).1 ↔ _
      rw [List.mem_cons, h4 z, List.mem_cons, or_assoc]
theorem KS.put {ns : List Int} {ks vs : List D} (h : KS ns ks vs) (k : Int) (v : D) : KS (ns ++ [k]) (dput ks vs (.int k) v).1 (dput ks vs (.int k) v).2 := by
  obtain ⟨h1, h2, h3, h4⟩ := dput_int k v h.len h.nums
  refine ⟨h1, Nat.le_trans h2 (by rw [List.length_append]; exact Nat.succ_le_succ h.le), h3, fun z => ?_⟩
  rw [h4 z, h.mem z, List.mem_append, List.mem_singleton]
theorem KS.ok {ns : List Int} {ks vs : List D} (h : KS ns ks vs) (hl : ns.length < 1000) (k : Int) : (keyOk (.int k) ks && decide (ks.length < big)) = true := by
  have h1 : ks.all D.isCell = true := List.all_eq_true.mpr fun x hx => by obtain ⟨j, rfl⟩ := h.nums x hx; rfl
  have h2 : ks.length < big := Nat.lt_trans (Nat.lt_of_le_of_lt h.le hl) (by decide)
  unfold keyOk
  rw [h1, decide_eq_true h2]; rfl
theorem KS.test {ns : List Int} {ks vs : List D} (h : KS ns ks vs) (k : Int) : cmpD .In (.int k) (.dict ks vs) = some (.bool (decide (k ∈ ns))) := by
  have h1 : ks.all D.isCell = true := List.all_eq_true.mpr fun x hx => by obtain ⟨j, rfl⟩ := h.nums x hx; rfl
  show ((if keyOk (.int k) ks = true then some (ks.any fun x => keyEq x (.int k)) else Option.none).map D.bool) = _
  rw [if_pos (by unfold keyOk; rw [h1]; rfl)]
  show some (D.bool _) = _
  congr 2
  rw [Bool.eq_iff_iff, List.any_eq_true, decide_eq_true_iff, ← h.mem k]
  constructor
  · rintro ⟨x, hx, e⟩
    obtain ⟨j, rfl⟩ := h.nums x hx
    have : j = k := beq_iff_eq.mp e
    exact this ▸ hx
  · intro hx
    exact ⟨_, hx, beq_self_eq_true k⟩
theorem rising {m : Nat} {ns : List Int} (h : ∀ z ∈ ns, ∃ p : Nat, p < m ∧ z = p) : ((List.range m).map fun (i : Nat) => D.int (i : Int)).filter (fun d => match d with | .int k => decide (k ∈ ns) | _ => false) = (usort ns).map .int := by
  rw [List.filter_map]
  have e : (usort ns) = ((List.range m).filter fun (i : Nat) => decide ((i : Int) ∈ ns)).map fun (i : Nat) => (i : Int) := by
    refine srt_uniq (usort_srt ns) (List.pairwise_map.mpr ((List.pairwise_lt_range.sublist List.filter_sublist).imp fun h => Int.ofNat_lt.mpr h)) fun z => ?_
    rw [usort_mem, List.mem_map]
    constructor
    · intro hz
      obtain ⟨p, hp, rfl⟩ := h z hz
      exact ⟨p, List.mem_filter.mpr ⟨List.mem_range.mpr hp, decide_eq_true hz⟩, rfl⟩
    · rintro ⟨p, hp, rfl⟩
      exact of_decide_eq_true (List.mem_filter.mp hp).2
  rw [e, List.map_map]; rfl
theorem pls_lt {m : Nat} {ts : List D} (ht : ∀ t ∈ ts, Tst m t) : ∀ z ∈ ts.flatMap plsV, ∃ p : Nat, p < m ∧ z = p := fun z hz => by
  obtain ⟨t, h1, h2⟩ := List.mem_flatMap.mp hz
  obtain ⟨w, p, hw, hp, ⟨q, hq, rfl⟩ | ⟨o, ho, rfl⟩⟩ := ht t h1
  · rw [pls_col] at h2
    rcases List.mem_cons.mp h2 with rfl | h2
    · exact ⟨p, hp, rfl⟩
    · exact ⟨q, hq, List.mem_singleton.mp h2⟩
  · rw [pls_is] at h2
    exact ⟨p, hp, List.mem_singleton.mp h2⟩
theorem turn_same {m : Nat} {pls : List D} (hm : pls.length = m) (hp : ∀ d ∈ pls, d.isCell = true) {t : D} (ht : Tst m t) (n : Nat) : Same (n + 1) (turnV pls t) := by
  have hc : ∀ p : Nat, p < m → (pls.getD p .none).isCell = true := fun p h => by
    rw [List.getD_eq_getElem?_getD, List.getElem?_eq_getElem (hm ▸ h)]; exact hp _ (List.getElem_mem _)
  have four : ∀ a b c d : D, a.isCell = true → b.isCell = true → c.isCell = true → d.isCell = true → Same (n + 1) (.tup [a, b, c, d]) := fun a b c d h1 h2 h3 h4 => same_tup (Nat.le_of_ble_eq_true rfl) fun x hx => by
    refine same_cell ?_ n
    rcases List.mem_cons.mp hx with rfl | hx
    · exact h1
    rcases List.mem_cons.mp hx with rfl | hx
    · exact h2
    rcases List.mem_cons.mp hx with rfl | hx
    · exact h3
    · rw [List.mem_singleton.mp hx]; exact h4
  obtain ⟨w, p, hw, hp', ⟨q, hq, rfl⟩ | ⟨o, ho, rfl⟩⟩ := ht
  · rw [turn_col]; exact four _ _ _ _ rfl (hc p hp') rfl (hc q hq)
  · rw [turn_is]; exact four _ _ _ _ rfl (hc p hp') rfl ho.cell

set_option maxRecDepth 100000
set_option maxHeartbeats 400000
noncomputable def loopB : List MS := [.setk "_law_told" (.sub (.var "_law_one") (.int 1)) (.bool true), .assign "_law_other" (.sub (.var "_law_one") (.int 3)), .ite (.cmp .Eq (.sub (.var "_law_one") (.int 2)) (.str "col")) [.setk "_law_told" (.sub (.var "_law_one") (.int 3)) (.bool true), .assign "_law_other" (.sub (.var "_law_places") (.sub (.var "_law_one") (.int 3)))] [], .append "_law_due" (.tup [.sub (.var "_law_one") (.int 0), .sub (.var "_law_places") (.sub (.var "_law_one") (.int 1)), .sub (.var "_law_one") (.int 2), .var "_law_other"])]
theorem ks_nil : KS [] [] [] := ⟨rfl, Nat.le_refl _, fun _ h => (List.not_mem_nil h).elim, fun _ => ⟨fun h => (List.not_mem_nil h).elim, fun h => (List.not_mem_nil h).elim⟩⟩
section
variable {X : CF} {m : Nat} {ts pls : List D} {cf : CF}
theorem law_loop (ht : ∀ t ∈ ts, Tst m t) (hl : ts.length ≤ 40) (hpl : pls.length = m) {σ : St} (i0 : Has σ "_law_wide" (.int m)) (i1 : Has σ "_law_clause" (.tup ts)) (i2 : Has σ "_law_places" (.list pls)) (i3 : OwnV σ "_law_due" (.list [])) (i4 : OwnV σ "_law_told" (.dict [] [])) :
    ∃ σ', (Has σ' "_law_wide" (.int m) ∧ Has σ' "_law_clause" (.tup ts) ∧ Has σ' "_law_places" (.list pls) ∧ OwnV σ' "_law_due" (.list (ts.map (turnV pls))) ∧ ∃ ks vs, KS (ts.flatMap plsV) ks vs ∧ OwnV σ' "_law_told" (.dict ks vs)) ∧ forD (bodyF cf loopB "_law_one") ts σ = some (.next, σ') := by
  have hbig : 2000 < big := by decide
  have at_ : ∀ p : Nat, p < m → subD (.list pls) (.int p) = some (pls.getD p .none) := fun p hp => getD_at (row := pls) (hpl ▸ hp)
  exact loop_inv (cf := cf) (body := loopB) (z := "_law_one") (fun a σ' => Has σ' "_law_wide" (.int m) ∧ Has σ' "_law_clause" (.tup ts) ∧ Has σ' "_law_places" (.list pls) ∧ OwnV σ' "_law_due" (.list (a.map (turnV pls))) ∧ ∃ ks vs, KS (a.flatMap plsV) ks vs ∧ OwnV σ' "_law_told" (.dict ks vs)) ts [] σ
    ⟨i0, i1, i2, i3, [], [], ks_nil, i4⟩ (by
      rintro a it b σ hab ⟨i0, i1, i2, i3, ks, vs, hK, i4⟩
      rw [List.nil_append] at hab
      have hit : it ∈ ts := by rw [hab]; simp
      have hal : a.length < ts.length := by rw [hab]; simp
      have hfl := flat_len a
      have hkl : (a.flatMap plsV).length < 1000 := by omega
      obtain ⟨w, p, hw, hp, ⟨q, hq, rfl⟩ | ⟨o, ho, rfl⟩⟩ := ht it hit
      · have hK1 := hK.put p (.bool true)
        have hK2 := hK1.put q (.bool true)
        have hkl1 : (a.flatMap plsV ++ [(p : Int)]).length < 1000 := by rw [List.length_append, List.length_singleton]; omega
        rw [List.map_append, List.map_cons, List.map_nil, turn_col, List.flatMap_append, List.flatMap_cons, List.flatMap_nil, pls_col, List.append_nil]
        rw [List.append_assoc] at hK2
        refine o_step (p_setk (d := .bool true) (dk := .int p) (ks := ks) (vs := vs) (by walk_at "v") (v_sub (x := tst w p "col" (.int q)) (y := .int 1) (by walk_at "v") (by walk_at "v") rfl) (?_ : OwnV _ _ _) (hK.ok hkl p)) ?_
        · walk_at "h"
        refine o_step (p_assign (d := .int q) (fr := false) (v_map (v_sub (x := tst w p "col" (.int q)) (y := .int 3) (by walk_at "v") (by walk_at "v") rfl) rfl rfl)) ?_
        refine o_if (k := true) (v_cmp (v_sub (x := tst w p "col" (.int q)) (y := .int 2) (by walk_at "v") (by walk_at "v") rfl) (by walk_at "v") eq_col) rfl (fun _ => ?_) nofun
        refine o_step (p_setk (d := .bool true) (dk := .int q) (ks := (dput ks vs (.int p) (.bool true)).1) (vs := (dput ks vs (.int p) (.bool true)).2) (by walk_at "v") (v_sub (x := tst w p "col" (.int q)) (y := .int 3) (by walk_at "v") (by walk_at "v") rfl) (?_ : OwnV _ _ _) (hK1.ok hkl1 q)) ?_
        · walk_at "h"
        refine o_step (p_assign (d := pls.getD q .none) (fr := false) (v_map (v_sub (x := .list pls) (y := .int q) (by walk_at "v") (v_sub (x := tst w p "col" (.int q)) (y := .int 3) (by walk_at "v") (by walk_at "v") rfl) (at_ q hq)) rfl rfl)) ?_
        refine o_step (p_append (d := .tup [.str (Str.ofString w), pls.getD p .none, .str (Str.ofString "col"), pls.getD q .none]) (ds := a.map (turnV pls))
          (v_tup (v_cons (v_sub (x := tst w p "col" (.int q)) (y := .int 0) (by walk_at "v") (by walk_at "v") rfl) (v_cons (v_sub (x := .list pls) (y := .int p) (by walk_at "v") (v_sub (x := tst w p "col" (.int q)) (y := .int 1) (by walk_at "v") (by walk_at "v") rfl) (at_ p hp)) (v_cons (v_sub (x := tst w p "col" (.int q)) (y := .int 2) (by walk_at "v") (by walk_at "v") rfl) (v_cons (by walk_at "v") (es_nil _ _))))) (Nat.le_of_ble_eq_true rfl)) (?_ : OwnV _ _ _) (by rw [List.length_map]; omega)) (o_nil ⟨rfl, ?_, ?_, ?_, w_eq, _, _, hK2, ?_⟩)
        all_goals walk_at "h"
      · have hK1 := hK.put p (.bool true)
        rw [List.map_append, List.map_cons, List.map_nil, turn_is, List.flatMap_append, List.flatMap_cons, List.flatMap_nil, pls_is, List.append_nil]
        refine o_step (p_setk (d := .bool true) (dk := .int p) (ks := ks) (vs := vs) (by walk_at "v") (v_sub (x := tst w p "is" o) (y := .int 1) (by walk_at "v") (by walk_at "v") rfl) (?_ : OwnV _ _ _) (hK.ok hkl p)) ?_
        · walk_at "h"
        refine o_step (p_cell (d := o) (fr := false) (v_map (v_sub (x := tst w p "is" o) (y := .int 3) (by walk_at "v") (by walk_at "v") rfl) rfl rfl) ho.cell) ?_
        refine o_if (k := false) (v_cmp (v_sub (x := tst w p "is" o) (y := .int 2) (by walk_at "v") (by walk_at "v") rfl) (by walk_at "v") eq_is) rfl nofun fun _ => ?_
        refine o_step (p_append (d := .tup [.str (Str.ofString w), pls.getD p .none, .str (Str.ofString "is"), o]) (ds := a.map (turnV pls))
          (v_tup (v_cons (v_sub (x := tst w p "is" o) (y := .int 0) (by walk_at "v") (by walk_at "v") rfl) (v_cons (v_sub (x := .list pls) (y := .int p) (by walk_at "v") (v_sub (x := tst w p "is" o) (y := .int 1) (by walk_at "v") (by walk_at "v") rfl) (at_ p hp)) (v_cons (v_sub (x := tst w p "is" o) (y := .int 2) (by walk_at "v") (by walk_at "v") rfl) (v_cons (by walk_at "v") (es_nil _ _))))) (Nat.le_of_ble_eq_true rfl)) (?_ : OwnV _ _ _) (by rw [List.length_map]; omega)) (o_nil ⟨rfl, ?_, ?_, ?_, w_eq, _, _, hK1, ?_⟩)
        all_goals walk_at "h")
theorem usort_len (hl : ts.length ≤ 40) (ht : ∀ t ∈ ts, Tst m t) : (usort (ts.flatMap plsV)).length ≤ 1000 := by
  have h1 : (usort (ts.flatMap plsV)).length ≤ (ts.flatMap plsV).length := len_le ((usort_srt _).imp fun h => Int.ne_of_lt h) fun z hz => (usort_mem z _).mp hz
  have := flat_len ts
  omega
theorem law_tail (n : Nat) (hm : m ≤ 64) (ht : ∀ t ∈ ts, Tst m t) (hl : ts.length ≤ 40) (hpl : pls.length = m) (hpc : ∀ d ∈ pls, d.isCell = true) {σ : St} (i0 : Has σ "_law_wide" (.int m)) (i1 : Has σ "_law_clause" (.tup ts)) (i2 : Has σ "_law_places" (.list pls)) :
    Run (callN PP X (n + 4)) (fn_law.body.drop 6) σ (.bool true) false := by
  have hbig : 2000 < big := by decide
  refine r_step (p_assign (d := .list []) (fr := true) rfl) (r_step (p_assign (d := .dict [] []) (fr := true) rfl) ?_)
  obtain ⟨σ', ⟨j0, j1, j2, j3, ks, vs, hK, j4⟩, h3⟩ := law_loop (cf := callN PP X (n + 4)) ht hl hpl (σ := freeze ["_law_clause"] (setv (settle (.dict [] []) [] (setv (settle (.list []) [] σ) "_law_due" (true, .list []))) "_law_told" (true, .dict [] []))) (by walk_at "h") (by walk_at "h") (by walk_at "h") (by walk_at "h") (by walk_at "h")
  refine r_for (x := .tup ts) (its := ts) (by walk_at "v") rfl h3 ?_
  have hR := rising (pls_lt ht)
  have hlen : ((List.range m).map fun (i : Nat) => D.int (i : Int)).length ≤ big := by rw [List.length_map, List.length_range]; omega
  refine r_step (p_assign (d := .list ((usort (ts.flatMap plsV)).map .int)) (fr := true) (v_map (v_comp (x := .rng 0 m) (its := (List.range m).map fun (i : Nat) => D.int (i : Int)) (v_blt (v_cons (d := .int m) (by walk_at "v") (es_nil _ _)) (blt_rng (by omega))) (items_rng m) hlen ?_) rfl rfl)) ?_
  · rw [← hR]
    refine compM_filter _ _ _ fun it hit => ?_
    obtain ⟨i, hi, rfl⟩ := List.mem_map.mp hit
    exact compF_one (k := decide ((i : Int) ∈ ts.flatMap plsV)) (v_cmp (x := .int i) (y := .dict ks vs) (by walk_at "v") (by walk_at "v") (hK.test i)) rfl fun _ => by walk_at "v"
  have hf := places_of (X := X) (n + 3) ht hl
  have hf : (callN PP X (n + 4)).call "places_of" [.tup ts] = some (.list ((usort (ts.flatMap plsV)).map .int), true) := hf
  refine r_step (p_assign (v_call (v_cons (d := .tup ts) (by walk_at "v") (es_nil _ _)) hf)) ?_
  have s1 : Same (n + 2) (.tup ((usort (ts.flatMap plsV)).map .int)) := same_tup (by rw [List.length_map]; exact usort_len hl ht) fun d hd => by
    obtain ⟨z, _, rfl⟩ := List.mem_map.mp hd
    exact same_cell rfl _
  have s2 : Same (n + 2) (.tup (ts.map (turnV pls))) := same_tup (by rw [List.length_map]; omega) fun d hd => by
    obtain ⟨t, h, rfl⟩ := List.mem_map.mp hd
    exact turn_same hpl hpc (ht t h) n
  have h1 := s1 X
  have h2 := s2 X
  have h4 : (callN PP X (n + 4)).call "turned" [.tup ts, .tup pls] = some (.tup (ts.map (turnV pls)), false) := turned (X := X) (n + 3) ht hl hpl
  have h1 : (callN PP X (n + 4)).call "_law_part_is" [.tup ((usort (ts.flatMap plsV)).map .int), .tup ((usort (ts.flatMap plsV)).map .int)] = some (.bool true, false) := h1
  have h2 : (callN PP X (n + 4)).call "_law_part_is" [.tup (ts.map (turnV pls)), .tup (ts.map (turnV pls))] = some (.bool true, false) := h2
  refine r_if (k := (!true) || !true) (v_or (k := !true) (l := !true) (v_not (k := true) (v_isi (x := .list ((usort (ts.flatMap plsV)).map .int)) (by walk_at "v") rfl) rfl) fun _ => v_bop1 (v_not (k := true) (v_callE (v_cons (v_blt (v_cons (d := .list ((usort (ts.flatMap plsV)).map .int)) (by walk_at "v") (es_nil _ _)) rfl) (v_cons (v_blt (v_cons (d := .list ((usort (ts.flatMap plsV)).map .int)) (by walk_at "v") (es_nil _ _)) rfl) (es_nil _ _))) h1) rfl)) rfl nofun fun _ => ?_
  exact r_ret (v_call (v_cons (v_callE (v_cons (d := .tup ts) (by walk_at "v") (v_cons (v_blt (v_cons (d := .list pls) (by walk_at "v") (es_nil _ _)) rfl) (es_nil _ _))) h4) (v_cons (v_blt (v_cons (d := .list (ts.map (turnV pls))) (by walk_at "v") (es_nil _ _)) rfl) (es_nil _ _))) h2) rfl
end

set_option maxRecDepth 100000
set_option maxHeartbeats 400000
theorem v_int' {cf : CF} {ρ : List (String × D)} (i : Int) : evE cf ρ (.int i) = some (.int i) := rfl
section
variable {X : CF} {m : Nat} {ts pls : List D} {ns : List Int}
noncomputable def Ints (pls : List D) : Prop := ∀ d ∈ pls, ∃ z : Int, d = .int z
theorem Ints.cell (h : Ints pls) : ∀ d ∈ pls, d.isCell = true := fun d hd => by obtain ⟨z, rfl⟩ := h d hd; rfl
theorem places_tail (n : Nat) (hm : m ≤ 64) (ht : ∀ t ∈ ts, Tst m t) (hl : ts.length ≤ 40) {σ : St} (i0 : Has σ "_law_wide" (.int m)) (i1 : Has σ "_law_clause" (.tup ts)) (i2 : Has σ "_law_script" (.list (ns.map .int))) :
    Run (callN PP X (n + 4)) (fn_law.body.drop 4) σ (.bool true) false := by
  have hbig : 2000 < big := by decide
  have c3 : (callN PP X (n + 4)).call "_law_cell_at" [.list (ns.map .int), .int 3] = some (.int (ns.getD 3 0), false) := cell_at (X := X) bd.toBG (n + 3) ns 3
  have c4 : (callN PP X (n + 4)).call "_law_cell_at" [.list (ns.map .int), .int 4] = some (.int (ns.getD 4 0), false) := cell_at (X := X) bd.toBG (n + 3) ns 4
  have hlen : ((List.range m).map fun (i : Nat) => D.int (i : Int)).length = m := by rw [List.length_map, List.length_range]
  obtain ⟨pls, e1, e2, e3⟩ := compM_ok (compF (callN PP X (n + 4)) (vis σ) (.bin .Mod (.call "_law_mixed" [.call "_law_cell_at" [.var "_law_script", .int 3], .var "_law_k"]) (.int 70)) "_law_k" []) (fun _ d => ∃ z : Int, d = .int z) ((List.range m).map fun (i : Nat) => D.int (i : Int)) (by
    intro it hit
    obtain ⟨i, hi, rfl⟩ := List.mem_map.mp hit
    obtain ⟨r, _, hr⟩ := mixed (X := X) bd.toBG (n + 3) (ns.getD 3 0) i
    have hr : (callN PP X (n + 4)).call "_law_mixed" [.int (ns.getD 3 0), .int i] = some (.int r, false) := hr
    exact ⟨.int (r % 70), ⟨_, rfl⟩, compF_nil (v_bin (v_callE (v_cons (v_callE (v_cons (d := .list (ns.map .int)) (by walk_at "v") (v_cons (by walk_at "v") (es_nil _ _))) c3) (v_cons (by walk_at "v") (es_nil _ _))) hr) (by walk_at "v") (b_mod (by decide)))⟩)
  rw [hlen] at e2
  have hI : Ints pls := fun d hd => let ⟨_, _, h⟩ := e3 d hd; h
  refine r_step (p_assign (d := .list pls) (fr := true) (v_map (v_comp (x := .rng 0 m) (its := (List.range m).map fun (i : Nat) => D.int (i : Int)) (v_blt (v_cons (d := .int m) (by walk_at "v") (es_nil _ _)) (blt_rng (by omega))) (items_rng m) (by rw [hlen]; omega) e1) rfl rfl)) ?_
  refine r_if (k := ns.getD 4 0 % 7 == 1) (v_cmp (v_bin (v_callE (v_cons (d := .list (ns.map .int)) (by walk_at "v") (v_cons (by walk_at "v") (es_nil _ _))) c4) (by walk_at "v") (b_mod (by decide))) (by walk_at "v") rfl) rfl (fun _ => ?_) (fun _ => ?_)
  · obtain ⟨pls2, f1, f2, f3⟩ := compM_ok (compF (callN PP X (n + 4)) (vis (setv (settle (.list pls) (ME.comp (.bin .Mod (.call "_law_mixed" [.call "_law_cell_at" [.var "_law_script", .int 3], .var "_law_k"]) (.int 70)) "_law_k" (.blt "range" [.var "_law_wide"]) []).names σ) "_law_places" (true, .list pls))) (.bin .Add (.var "_law_place") (.int 900)) "_law_place" []) (fun _ d => ∃ z : Int, d = .int z) pls (by
      intro it hit
      obtain ⟨z, rfl⟩ := hI it hit
      exact ⟨.int (z + 900), ⟨_, rfl⟩, compF_nil (v_bin (by walk_at "v") (by walk_at "v") b_add)⟩)
    refine r_step (p_assign (d := .list pls2) (fr := true) (v_map (v_comp (x := .list pls) (its := pls) (by walk_at "v") rfl (by rw [e2]; omega) f1) rfl rfl)) ?_
    have hI2 : Ints pls2 := fun d hd => let ⟨_, _, h⟩ := f3 d hd; h
    exact law_tail n hm ht hl (f2.trans e2) hI2.cell (by walk_at "h") (by walk_at "h") (by walk_at "h")
  · exact law_tail n hm ht hl e2 hI.cell (by walk_at "h") (by walk_at "h") (by walk_at "h")
theorem clause_tail (n : Nat) (h0 : 0 < m) (hm : m ≤ 64) {σ : St} (i0 : Has σ "_law_wide" (.int m)) (i2 : Has σ "_law_script" (.list (ns.map .int))) :
    Run (callN PP X (n + 4)) (fn_law.body.drop 2) σ (.bool true) false := by
  have hm' : m ≤ 1000 := Nat.le_trans hm (by decide)
  have c1 : (callN PP X (n + 4)).call "_law_cell_at" [.list (ns.map .int), .int 1] = some (.int (ns.getD 1 0), false) := cell_at (X := X) bd.toBG (n + 3) ns 1
  have c2 : (callN PP X (n + 4)).call "_law_cell_at" [.list (ns.map .int), .int 2] = some (.int (ns.getD 2 0), false) := cell_at (X := X) bd.toBG (n + 3) ns 2
  obtain ⟨d, ⟨ts, rfl, ht, hl⟩, hc⟩ := clause_by (X := X) bd n (ns.getD 1 0) m hm'
  have hc : (callN PP X (n + 4)).call "_law_clause_by" [.int (ns.getD 1 0), .int m] = some (.tup ts, false) := hc
  refine r_step (p_assign (v_call (v_cons (v_callE (v_cons (d := .list (ns.map .int)) (by walk_at "v") (v_cons (by walk_at "v") (es_nil _ _))) c1) (v_cons (d := .int m) (by walk_at "v") (es_nil _ _))) hc)) ?_
  refine r_if (k := ns.getD 2 0 % 5 == 1) (v_cmp (v_bin (v_callE (v_cons (d := .list (ns.map .int)) (by walk_at "v") (v_cons (by walk_at "v") (es_nil _ _))) c2) (by walk_at "v") (b_mod (by decide))) (by walk_at "v") rfl) rfl (fun _ => ?_) (fun _ => ?_)
  · obtain ⟨k, ek, hk⟩ := emod_nat (ns.getD 2 0 / 5) (k := 40) (by decide)
    have ek : ns.getD 2 0 / 5 % 40 = (k : Int) := ek
    refine r_step (p_assign (d := .int (ns.getD 2 0 / 5 % 40)) (fr := false) (v_map (v_bin (v_bin (v_callE (v_cons (d := .list (ns.map .int)) (by walk_at "v") (v_cons (by walk_at "v") (es_nil _ _))) c2) (by walk_at "v") (b_div (by decide))) (by walk_at "v") (b_mod (by decide))) rfl rfl)) ?_
    rw [ek]
    obtain ⟨ts2, q1, q2, q3⟩ := v_rows (cf := callN PP X (n + 4)) (ρ := vis (setv (settle (.int k) (ME.bin .Mod (.bin .FloorDiv (.call "_law_cell_at" [.var "_law_script", .int 2]) (.int 5)) (.int 40)).names (setv (settle (.tup ts) (ME.call "_law_clause_by" [.call "_law_cell_at" [.var "_law_script", .int 1], .var "_law_wide"]).names σ) "_law_clause" (false, .tup ts))) "_law_many_here" (false, .int k)))
      (elt := .call "_law_one_by" [.call "_law_mixed" [.call "_law_cell_at" [.var "_law_script", .int 1], .var "_law_k"], .var "_law_wide"]) (z := "_law_k") (src := .var "_law_many_here") (k := k) (Nat.le_trans (Nat.le_of_lt hk) (by decide)) (Tst m) (by walk_at "v") (by
        intro i _
        obtain ⟨r, _, hr⟩ := mixed (X := X) bd.toBG (n + 3) (ns.getD 1 0) i
        have hr : (callN PP X (n + 4)).call "_law_mixed" [.int (ns.getD 1 0), .int i] = some (.int r, false) := hr
        obtain ⟨d, td, hd⟩ := one_by (X := X) bd (n + 1) r m h0 hm'
        have hd : (callN PP X (n + 4)).call "_law_one_by" [.int r, .int m] = some (d, false) := hd
        exact ⟨d, td, v_callE (v_cons (v_callE (v_cons (v_callE (v_cons (d := .list (ns.map .int)) (by walk_at "v") (v_cons (by walk_at "v") (es_nil _ _))) c1) (v_cons (by walk_at "v") (es_nil _ _))) hr) (v_cons (d := .int m) (by walk_at "v") (es_nil _ _))) hd⟩)
    refine r_step (p_assign (d := .tup ts2) (fr := false) (v_map q3 rfl rfl)) ?_
    exact places_tail n hm q2 (q1 ▸ Nat.le_of_lt hk) (by walk_at "h") (by walk_at "h") (by walk_at "h")
  · exact places_tail n hm ht hl (by walk_at "h") (by walk_at "h") (by walk_at "h")
theorem pure_ok (n : Nat) (ns : List Int) : ∃ fr, (callN PP X (n + 5)).call "law" [.list (ns.map .int)] = some (.bool true, fr) := by
  refine ⟨false, run_call (by rfl : PP.lookup "law" = some fn_law) rfl ?_⟩
  show Run (callN PP X (n + 4)) fn_law.body [("_law_script", (false, .list (ns.map .int)))] (.bool true) false
  have c0 : (callN PP X (n + 4)).call "_law_cell_at" [.list (ns.map .int), .int 0] = some (.int (ns.getD 0 0), false) := cell_at (X := X) bd.toBG (n + 3) ns 0
  obtain ⟨k1, e1, l1⟩ := emod_nat (ns.getD 0 0) (k := 6) (by decide)
  have e1 : ns.getD 0 0 % 6 = (k1 : Int) := e1
  obtain ⟨k2, e2, l2⟩ := emod_nat (ns.getD 0 0 / 24) (k := 64) (by decide)
  have e2 : ns.getD 0 0 / 24 % 64 = (k2 : Int) := e2
  have w1 : (1 : Int) + k1 = ((k1 + 1 : Nat) : Int) := Int.add_comm 1 k1
  have w2 : (1 : Int) + k2 = ((k2 + 1 : Nat) : Int) := Int.add_comm 1 k2
  refine r_step (p_assign (d := .int ((k1 + 1 : Nat) : Int)) (fr := false) (v_map (v_bin (v_int' 1) (v_bin (v_callE (v_cons (d := .list (ns.map .int)) rfl (v_cons (v_int' 0) (es_nil _ _))) c0) (v_int' 6) (b_mod (by decide))) (by rw [e1, ← w1]; exact b_add)) rfl rfl)) ?_
  refine r_if (k := ns.getD 0 0 / 6 % 4 == 1) (v_cmp (v_bin (v_bin (v_callE (v_cons (d := .list (ns.map .int)) rfl (v_cons (v_int' 0) (es_nil _ _))) c0) (v_int' 6) (b_div (by decide))) (v_int' 4) (b_mod (by decide))) (v_int' 1) rfl) rfl (fun _ => ?_) (fun _ => ?_)
  · refine r_step (p_assign (d := .int ((k2 + 1 : Nat) : Int)) (fr := false) (v_map (v_bin (v_int' 1) (v_bin (v_bin (v_callE (v_cons (d := .list (ns.map .int)) rfl (v_cons (v_int' 0) (es_nil _ _))) c0) (v_int' 24) (b_div (by decide))) (v_int' 64) (b_mod (by decide))) (by rw [e2, ← w2]; exact b_add)) rfl rfl)) ?_
    exact clause_tail (ns := ns) n (Nat.succ_pos _) l2 (by walk_at "h") (by walk_at "h")
  · exact clause_tail (ns := ns) n (Nat.succ_pos _) (Nat.le_trans l1 (by decide)) (by walk_at "h") (by walk_at "h")
end
end Mine
namespace Mine
open PySem PySem.W PyProof.Rows
set_option maxRecDepth 100000
set_option maxHeartbeats 0
noncomputable def keepS : Stmt → Bool
  | .Assign [.Name x _] _ _ => x != Str.ofString "__name__"
  | _ => true
noncomputable def vw : Program := { PySem.Challenge.pw_uf030018_03 with main := { PySem.Challenge.pw_uf030018_03.main with body := PySem.Challenge.pw_uf030018_03.main.body.filter keepS } }
theorem ws : OpenLaw.wellSaid PySem.Challenge.rw_uf030018_03 = true := by decide +kernel
theorem left : LeftO PySem.Challenge.pw_uf030018_03 vw [] (fun s => xlAt vw [] s && recOk (RowW.records PySem.Challenge.rw_uf030018_03.row.toRowW) s) (Hook.obs Hook.none) (Hook.val Hook.none) 20000 := fun w => by kernel_rfl
theorem dlSome : (defOf vw (Str.ofString "law")).isSome = true := by decide +kernel
noncomputable def dl : DefRec × List (Str × Expr) := (defOf vw (Str.ofString "law")).get dlSome
theorem dlDef : defOf vw PySem.Challenge.rw_uf030018_03.row.name = some (dl.1, dl.2) := (Option.some_get dlSome).symm
theorem dlIs : PySem.Challenge.rw_uf030018_03.row.prog.theDef PySem.Challenge.rw_uf030018_03.row.name = some (dl.1.params, dl.1.body, dl.1.scope) := by kernel_rfl
theorem dlKw : kwWritten? dl.1.params.kwonlyargs dl.1.params.kw_defaults = some dl.2 := by kernel_rfl
theorem dlName : dl.1.name = Str.ofString "law" := by kernel_rfl
theorem okAll : (chainsOk vw && opensWell PySem.Challenge.rw_uf030018_03.row.prog && (frees PySem.Challenge.rw_uf030018_03.row.toRowW && PySem.Challenge.rw_uf030018_03.row.within.isEmpty)) = true := by decide +kernel
theorem chkd : chkProg (recsOf vw) PP = true := by decide +kernel
theorem freed : bltFree vw (looseW vw []) = true := by decide +kernel
end Mine
open PySem PySem.W PyProof.Rows
set_option maxRecDepth 100000 in
set_option maxHeartbeats 8000000 in
theorem PySem.Challenge.cw_uf030018_03_holds : PySem.Challenge.rw_uf030018_03.Holds := by
  refine holds_law Mine.ws fun said => ?_
  refine holds_open (q := Mine.vw) (loose := []) (Xt := fun s => xlAt Mine.vw [] s && recOk (RowW.records PySem.Challenge.rw_uf030018_03.row.toRowW) s) (XP := (XL Mine.vw [])) (Yf := Hook.obs Hook.none) (Ya := Hook.val Hook.none) (YP := Hook.says Hook.none) (N := 20000) Mine.left (Hook.of Hook.none) (Hook.keeps Hook.none) (fun s e => xl_of s (Bool.and_eq_true_iff.mp e).1) XL.keeps Mine.dlDef Mine.dlIs Mine.dlKw (fun s e => recFacts_of (Bool.and_eq_true_iff.mp e).2) (by rfl) said Mine.okAll ⟨rfl, rfl, rfl, rfl, rfl, by decide +kernel⟩ ?hw ?hc
  (case hw => w_witness2)
  intro w s₀ s₁ mg mb G Y fa o pm cd doc dV kV ho hd hcd hD hmg hg args vals as hpre hlay hrd hwl hlo
  rw [Mine.dlName] at hmg
  refine Ground.open G ?_
  intro T B D TE TW
  wrow_args hpre hlay hrd hwl hlo
  exact Mine.law_fin (P := Mine.PP) (X := Mine.X0) 20 T Mine.chkd Mine.freed (by decide) (fun _ _ => ⟨fun _ _ _ _ h => (nomatch h), fun _ _ h => (nomatch h)⟩) hmg hg (by assumption) (by assumption) (Mine.pure_ok _ _)
