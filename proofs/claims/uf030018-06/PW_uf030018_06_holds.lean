import PyProof.Rows.All
import Wide.All
import OpenK.AllK
import Wide.FinOn
import PyProof.Cells
import PyProof.RangeIter
import PyProof.FactsAll.tuple
import PyProof.DictKinds
import PyProof.CompMap
import PyProof.DictKind
import PyProof.Rows.Tup
import PyProof.DictRoads
import PyProof.DictDisplay
import PyProof.NeKinds
import PyProof.DictRoadsH
import PyProof.StrBlockI
import PyProof.StrBlock2
import PyProof.CompFree
import PyProof.Rows.IntRules
import PyProof.Rows.RuleB_mul
import PyProof.Rows.RuleB_floordiv
import PyProof.Rows.RuleB_pow
import PyProof.Rows.RuleB_mod
import PyProof.Rows.RuleC_int
import PyProof.Rows.RuleU_int
import PyProof.Rows.StrRules
import PyProof.Rows.Nodes
import PyProof.Rows.TupSub
import PyProof.ListOps
import PyProof.TupleOps
import PyProof.DictStraight
import PyProof.Rows.Lst
import PyProof.Rows.TupMore
import PyProof.Rows.StrTemp
import PyProof.ListTruth
import PyProof.TupleOfSeq
import PyProof.CallStr
import PyProof.RangeFor
import PyProof.Conv_int_bool
import PyProof.SliceStr2
import PyProof.SliceMore
import PyProof.ListIndexNeg
import PyProof.IsiPairs
import PyProof.IsiHeapPairs
import PyProof.Rows.Exc
import PyProof.Rows.Globals
import PyProof.IsiTuple
import PyProof.ListCopy
import PyProof.WalkInts
import PyProof.Rows.SumAny
import KE.KDictList
import PyProof.DictWalks
import PyProof.WalksMore
import PyProof.Rows.StrTempNeg
import PyProof.ForAppend
import PySem.Challenge.RW_uf030018_06
set_option Elab.async false
set_option backward.eqns.nonrecursive false
set_option genSizeOf false
namespace Mine
open PySem

/-- by-value data -/
inductive D where
  | none
  | bool (b : Bool)
  | int (i : Int)
  | str (x : Str)
  | tup (ds : List D)
  | list (ds : List D)
  | dict (ks : List D) (vs : List D)
  | rng (a b : Int)

noncomputable def big : Nat := 2 ^ 24

/-- hashes of keys: ints, strs, tuples of these -/
noncomputable def hashC (P : Params) : D → Int
  | .int i => hashInt i
  | .str x => if x.cps.isEmpty = true then 0 else reduceHash (P.strHash x.cps)
  | _ => 0
noncomputable def hashK (P : Params) : D → Int
  | .tup ds => reduceHash (Builtin.Tuple.tupleHashOf (ds.map (hashC P)))
  | d => hashC P d
noncomputable def D.isCell : D → Bool
  | .int _ | .str _ => true
  | _ => false
noncomputable def D.isKey : D → Bool
  | .int _ | .str _ => true
  | .tup ds => ds.all D.isCell
  | _ => false

noncomputable abbrev tupO (vs : Array Value) (n : Nat) : Obj := { cls := .type "tuple", dict := Option.none, data := .seq vs n, slots := #[] }
noncomputable abbrev lstO (vs : Array Value) (n : Nat) : Obj := { cls := .type "list", dict := Option.none, data := .seq vs n, slots := #[] }
noncomputable abbrev dicO (es : Array DictEntry) (n : Nat) : Obj := { cls := .type "dict", dict := Option.none, data := .dict es n, slots := #[] }

mutual
/-- the value v stands for d in the heap h, by objects that lie outside of H -/
inductive Rep (P : Params) (h : Heap) (H : Addr → Prop) : Value → D → Prop
  | none : Rep P h H .none .none
  | bool (b : Bool) : Rep P h H (.bool b) (.bool b)
  | int (i : Int) (t : Tok) : Rep P h H (.int i t) (.int i)
  | str (x : Str) (t : Tok) : Rep P h H (.str x t) (.str x)
  | tup {a : Addr} {vs : Array Value} {n : Nat} {ds : List D} : h.get? a = some (tupO vs n) → ¬ H a → ds.length ≤ big → RepAll P h H vs.toList ds → Rep P h H (.ref a) (.tup ds)
  | list {a : Addr} {vs : Array Value} {n : Nat} {ds : List D} : h.get? a = some (lstO vs n) → ¬ H a → ds.length ≤ big → RepAll P h H vs.toList ds → Rep P h H (.ref a) (.list ds)
  | dict {a : Addr} {es : Array DictEntry} {n : Nat} {ks vs : List D} : h.get? a = some (dicO es n) → ¬ H a → ks.length ≤ big → RepAll P h H (es.toList.map (·.key)) ks → RepAll P h H (es.toList.map (·.val)) vs →
      es.toList.map (·.hash) = ks.map (hashK P) → ks.all D.isKey = true → ks.Nodup → (a == sysModules) = false → Rep P h H (.ref a) (.dict ks vs)
  | rng {a : Addr} {lo hi : Int} {t u v : Tok} : IsRange h a lo hi 1 t u v → ¬ H a → (-big ≤ lo ∧ lo ≤ big ∧ -big ≤ hi ∧ hi ≤ big) → Rep P h H (.ref a) (.rng lo hi)
inductive RepAll (P : Params) (h : Heap) (H : Addr → Prop) : List Value → List D → Prop
  | nil : RepAll P h H [] []
  | cons {v : Value} {d : D} {vs : List Value} {ds : List D} : Rep P h H v d → RepAll P h H vs ds → RepAll P h H (v :: vs) (d :: ds)
end

mutual
theorem Rep.mono {P : Params} {h h' : Heap} {H H' : Addr → Prop} (hk : ∀ a o, ¬ H a → h.get? a = some o → h'.get? a = some o) (hH : ∀ a o, h.get? a = some o → H' a → H a) :
    ∀ {v : Value} {d : D}, Rep P h H v d → Rep P h' H' v d
  | _, _, .none => .none
  | _, _, .bool b => .bool b
  | _, _, .int i t => .int i t
  | _, _, .str x t => .str x t
  | _, _, .tup ho hn hl hr => .tup (hk _ _ hn ho) (fun x => hn (hH _ _ ho x)) hl (RepAll.mono hk hH hr)
  | _, _, .list ho hn hl hr => .list (hk _ _ hn ho) (fun x => hn (hH _ _ ho x)) hl (RepAll.mono hk hH hr)
  | _, _, .dict ho hn hl hr hr' e1 e2 e3 e4 => .dict (hk _ _ hn ho) (fun x => hn (hH _ _ ho x)) hl (RepAll.mono hk hH hr) (RepAll.mono hk hH hr') e1 e2 e3 e4
  | _, _, .rng hr hn hl => .rng (hk _ _ hn hr) (fun x => hn (hH _ _ hr x)) hl
theorem RepAll.mono {P : Params} {h h' : Heap} {H H' : Addr → Prop} (hk : ∀ a o, ¬ H a → h.get? a = some o → h'.get? a = some o) (hH : ∀ a o, h.get? a = some o → H' a → H a) :
    ∀ {vs : List Value} {ds : List D}, RepAll P h H vs ds → RepAll P h' H' vs ds
  | _, _, .nil => .nil
  | _, _, .cons hv hr => .cons (Rep.mono hk hH hv) (RepAll.mono hk hH hr)
end

theorem Rep.keeps {P : Params} {h h' : Heap} {H : Addr → Prop} {v : Value} {d : D} (hr : Rep P h H v d) (hk : ∀ a o, h.get? a = some o → h'.get? a = some o) : Rep P h' H v d :=
  hr.mono (fun a o _ e => hk a o e) (fun _ _ _ x => x)
theorem RepAll.keeps {P : Params} {h h' : Heap} {H : Addr → Prop} {v : List Value} {d : List D} (hr : RepAll P h H v d) (hk : ∀ a o, h.get? a = some o → h'.get? a = some o) : RepAll P h' H v d :=
  hr.mono (fun a o _ e => hk a o e) (fun _ _ _ x => x)
theorem Rep.sub {P : Params} {h : Heap} {H H' : Addr → Prop} {v : Value} {d : D} (hr : Rep P h H v d) (hH : ∀ a, H' a → H a) : Rep P h H' v d :=
  hr.mono (fun _ _ _ e => e) (fun a _ _ x => hH a x)

theorem RepAll.length {P : Params} {h : Heap} {H : Addr → Prop} : ∀ {vs : List Value} {ds : List D}, RepAll P h H vs ds → vs.length = ds.length
  | _, _, .nil => rfl
  | _, _, .cons _ hr => by simp [RepAll.length hr]
theorem RepAll.append {P : Params} {h : Heap} {H : Addr → Prop} : ∀ {vs ws : List Value} {ds es : List D}, RepAll P h H vs ds → RepAll P h H ws es → RepAll P h H (vs ++ ws) (ds ++ es)
  | _, _, _, _, .nil, k => k
  | _, _, _, _, .cons hv hr, k => .cons hv (RepAll.append hr k)
theorem RepAll.get {P : Params} {h : Heap} {H : Addr → Prop} : ∀ {vs : List Value} {ds : List D} (i : Nat) {d : D}, RepAll P h H vs ds → ds[i]? = some d → ∃ v, vs[i]? = some v ∧ Rep P h H v d
  | _, _, _, _, .nil, e => by simp at e
  | _, _, 0, _, .cons hv hr, e => by simp at e; subst e; exact ⟨_, rfl, hv⟩
  | _, _, i + 1, _, .cons hv hr, e => by simpa using RepAll.get i hr (by simpa using e)
theorem RepAll.drop {P : Params} {h : Heap} {H : Addr → Prop} : ∀ {vs : List Value} {ds : List D} (i : Nat), RepAll P h H vs ds → RepAll P h H (vs.drop i) (ds.drop i)
  | _, _, 0, k => by simpa using k
  | _, _, i + 1, .nil => by simpa using RepAll.nil
  | _, _, i + 1, .cons hv hr => by simpa using RepAll.drop i hr
theorem RepAll.take {P : Params} {h : Heap} {H : Addr → Prop} : ∀ {vs : List Value} {ds : List D} (i : Nat), RepAll P h H vs ds → RepAll P h H (vs.take i) (ds.take i)
  | _, _, 0, _ => by simpa using RepAll.nil
  | _, _, i + 1, .nil => by simpa using RepAll.nil
  | _, _, i + 1, .cons hv hr => by simpa using RepAll.cons hv (RepAll.take i hr)

theorem Rep.off {P : Params} {h : Heap} {H : Addr → Prop} {a : Addr} {d : D} (hr : Rep P h H (.ref a) d) : ¬ H a := by
  cases hr <;> assumption
noncomputable def D.scalar : D → Bool
  | .none | .bool _ | .int _ | .str _ => true
  | _ => false
theorem Rep.scalar {P : Params} {h h' : Heap} {H H' : Addr → Prop} {v : Value} {d : D} (hr : Rep P h H v d) (hs : d.scalar = true) : Rep P h' H' v d := by
  cases hr <;> first | exact .none | exact .bool _ | exact .int _ _ | exact .str _ _ | cases hs

theorem ofString_inj {a b : String} (h : Str.ofString a = Str.ofString b) : a = b := by
  rw [Str.ofString_eq_toList, Str.ofString_eq_toList] at h
  have h1 : a.toList.map Char.toNat = b.toList.map Char.toNat := by simpa using h
  have h2 : a.toList = b.toList := by
    generalize a.toList = l at h1; generalize b.toList = m at h1
    induction l generalizing m with
    | nil => cases m <;> simp_all
    | cons x l ih =>
      cases m with
      | nil => simp at h1
      | cons y m =>
        simp only [List.map_cons, List.cons.injEq] at h1
        have : x = y := by
          have := h1.1
          exact Char.toNat_inj.mp this
        rw [this, ih _ h1.2]
  exact String.toList_inj.mp h2

end Mine
namespace Mine
open PySem PySem.SeqAt
/-! dicts with keys that are ints and strs -/
noncomputable abbrev CK := Int ⊕ Str
noncomputable def ofCK : CK → D
  | .inl i => .int i
  | .inr x => .str x
noncomputable def CK.is : CK → Value → Bool
  | .inl i, v => Value.isInt i v
  | .inr x, v => Value.isStrOf x v
theorem CK.is_inl {i : Int} {v : Value} (h : CK.is (.inl i) v = true) : ∃ t, v = .int i t := Value.isInt_shape h
theorem CK.is_inr {x : Str} {v : Value} (h : CK.is (.inr x) v = true) : ∃ t, v = .str x t := Value.isStrOf_shape h
noncomputable def cellKind (prog : Program) (w : World) : KeyKind prog w CK where
  is := CK.is
  hash := fun k => hashK w.params (ofCK k)
  inj := fun v a b ha hb => by
    cases a <;> cases b
    · obtain ⟨t, rfl⟩ := CK.is_inl ha
      obtain ⟨u, e⟩ := CK.is_inl hb
      cases e; rfl
    · obtain ⟨t, rfl⟩ := CK.is_inl ha
      obtain ⟨u, e⟩ := CK.is_inr hb
      cases e
    · obtain ⟨t, rfl⟩ := CK.is_inr ha
      obtain ⟨u, e⟩ := CK.is_inl hb
      cases e
    · obtain ⟨t, rfl⟩ := CK.is_inr ha
      obtain ⟨u, e⟩ := CK.is_inr hb
      cases e; rfl
  byValue := fun k v h => by
    cases k
    · obtain ⟨t, rfl⟩ := CK.is_inl h; rfl
    · obtain ⟨t, rfl⟩ := CK.is_inr h; rfl
  pyHash := fun {A E s k v Q} hv h => by
    cases k
    · obtain ⟨t, rfl⟩ := CK.is_inl hv; exact wpAny_pyHash_int h
    · obtain ⟨t, rfl⟩ := CK.is_inr hv; exact wpAny_pyHash_str h
  eqBool := fun {A E s a b u v Q} hu hv h => by
    cases a <;> cases b
    · rename_i i j
      obtain ⟨t, rfl⟩ := CK.is_inl hu
      obtain ⟨u, rfl⟩ := CK.is_inl hv
      have h' : Q (decide (i = j)) s := by simpa using h
      exact wpAny_eqBool_int h'
    · obtain ⟨t, rfl⟩ := CK.is_inl hu
      obtain ⟨u, rfl⟩ := CK.is_inr hv
      exact EqAt.int_str _ _ _ _ prog w E Q (by simpa using h)
    · obtain ⟨t, rfl⟩ := CK.is_inr hu
      obtain ⟨u, rfl⟩ := CK.is_inl hv
      exact EqAt.str_int _ _ _ _ prog w E Q (by simpa using h)
    · rename_i i j
      obtain ⟨t, rfl⟩ := CK.is_inr hu
      obtain ⟨u, rfl⟩ := CK.is_inr hv
      have h' : Q (decide (i = j)) s := by simpa using h
      exact wpAny_eqBool_str h'
  «strs» := fun k x t v h => by
    cases k
    · obtain ⟨u, e⟩ := CK.is_inl h; cases e
    · exact (strKind prog w).strs _ x t v h
theorem ofCK_inj {a b : CK} (h : ofCK a = ofCK b) : a = b := by
  cases a <;> cases b <;> cases h <;> rfl
theorem cell_ck {d : D} (h : d.isCell = true) : ∃ k, d = ofCK k := by
  cases d <;> first | cases h | skip
  · exact ⟨.inl _, rfl⟩
  · exact ⟨.inr _, rfl⟩
theorem cells_ck : ∀ {ks : List D}, ks.all D.isCell = true → ∃ cs : List CK, ks = cs.map ofCK
  | [], _ => ⟨[], rfl⟩
  | k :: ks, h => by
    simp only [List.all_cons, Bool.and_eq_true] at h
    obtain ⟨c, rfl⟩ := cell_ck h.1
    obtain ⟨cs, rfl⟩ := cells_ck h.2
    exact ⟨c :: cs, rfl⟩
theorem rep_ck {P : Params} {h : Heap} {H : Addr → Prop} {v : Value} {k : CK} (r : Rep P h H v (ofCK k)) : CK.is k v = true := by
  cases k <;> cases r <;> simp [CK.is, Value.isInt, Value.isStrOf]
theorem ck_rep {P : Params} {h : Heap} {H : Addr → Prop} {v : Value} {k : CK} (r : CK.is k v = true) : Rep P h H v (ofCK k) := by
  cases k
  · obtain ⟨t, rfl⟩ := CK.is_inl r; exact .int _ _
  · obtain ⟨t, rfl⟩ := CK.is_inr r; exact .str _ _
theorem pairs_of {prog : Program} {w : World} {h : Heap} {H : Addr → Prop} : ∀ {es : List DictEntry} {cs : List CK}, RepAll w.params h H (es.map (·.key)) (cs.map ofCK) → Pairs (cellKind prog w) es (cs.zip (es.map (·.val)))
  | [], cs, r => by
    cases cs with
    | nil => exact .nil
    | cons _ _ => cases r
  | e :: es, cs, r => by
    cases cs with
    | nil => cases r
    | cons c cs =>
      cases r with
      | cons r1 r2 => exact .cons (rep_ck r1) rfl (pairs_of r2)
theorem of_pairs {prog : Program} {w : World} {h : Heap} {H : Addr → Prop} : ∀ {es : List DictEntry} {kvs : List (CK × Value)}, Pairs (cellKind prog w) es kvs → RepAll w.params h H (es.map (·.key)) (kvs.map fun p => ofCK p.1) ∧ es.map (·.val) = kvs.map (·.2)
  | [], _, .nil => ⟨.nil, rfl⟩
  | e :: es, _, .cons h1 h2 h3 => by
    obtain ⟨a, b⟩ := of_pairs (h := h) (H := H) h3
    exact ⟨.cons (ck_rep h1) a, by simp [h2, b]⟩
theorem zip_fst {α β : Type} : ∀ {a : List α} {b : List β}, a.length = b.length → (a.zip b).map (·.1) = a
  | [], [], _ => rfl
  | x :: a, y :: b, h => by simp [zip_fst (a := a) (b := b) (by simpa using h)]
theorem zip_snd {α β : Type} : ∀ {a : List α} {b : List β}, a.length = b.length → (a.zip b).map (·.2) = b
  | [], [], _ => rfl
  | x :: a, y :: b, h => by simp [zip_snd (a := a) (b := b) (by simpa using h)]
theorem dictOf_rep {prog : Program} {w : World} {h : Heap} {H : Addr → Prop} {a : Addr} {es : Array DictEntry} {n : Nat} {cs : List CK} (ho : h.get? a = some (dicO es n)) (hr : RepAll w.params h H (es.toList.map (·.key)) (cs.map ofCK))
    (hh : es.toList.map (·.hash) = (cs.map ofCK).map (hashK w.params)) (hn : (cs.map ofCK).Nodup) : h.DictOf (cellKind prog w) a (cs.zip (es.toList.map (·.val))) := by
  have hl : cs.length = (es.toList.map (·.val)).length := by have := hr.length; simp at this ⊢; omega
  refine ⟨_, es, n, ho, ⟨rfl, rfl, rfl⟩, rfl, ?_, pairs_of hr, ?_⟩
  · intro e he
    obtain ⟨i, hi, rfl⟩ := List.mem_iff_getElem.mp (Array.mem_toList_iff.mpr he)
    have hc : i < cs.length := by rw [hl]; simpa using hi
    refine ⟨cs[i], ?_, ?_⟩
    · obtain ⟨v, h1, h2⟩ := hr.get i (d := ofCK cs[i]) (by simp [hc])
      have : v = es.toList[i].key := by simpa [List.getElem?_eq_getElem hi] using h1.symm
      exact rep_ck (this ▸ h2)
    · have := congrArg (fun l => l[i]?) hh
      show _ = hashK w.params (ofCK cs[i])
      simpa [List.getElem?_eq_getElem hi, hc] using this
  · rw [zip_fst hl]
    exact (List.pairwise_map.mp hn).imp fun h e => h (by rw [e])
theorem rep_dictOf {prog : Program} {w : World} {h : Heap} {H : Addr → Prop} {a : Addr} {kvs : List (CK × Value)} (hd : h.DictOf (cellKind prog w) a kvs) :
    ∃ es n, h.get? a = some (dicO es n) ∧ RepAll w.params h H (es.toList.map (·.key)) (kvs.map fun p => ofCK p.1) ∧ es.toList.map (·.val) = kvs.map (·.2) ∧ es.toList.map (·.hash) = (kvs.map fun p => ofCK p.1).map (hashK w.params) ∧
      (kvs.map fun p => ofCK p.1).all D.isKey = true ∧ (kvs.map fun p => ofCK p.1).Nodup := by
  obtain ⟨o, es, ep, ho, ⟨c1, c2, c3⟩, hdat, hk, hp, hn⟩ := hd
  obtain ⟨p1, p2⟩ := of_pairs (h := h) (H := H) hp
  have ho' : o = dicO es ep := by obtain ⟨a, b, c, d⟩ := o; dsimp only at c1 c2 c3 hdat; subst c1 c2 c3 hdat; rfl
  refine ⟨es, ep, ho' ▸ ho, p1, p2, ?_, ?_, ?_⟩
  · have key : ∀ (l : List DictEntry) (kvs : List (CK × Value)), (∀ e ∈ l, ∃ k, (cellKind prog w).is k e.key = true ∧ e.hash = (cellKind prog w).hash k) → Pairs (cellKind prog w) l kvs → l.map (·.hash) = (kvs.map fun p => ofCK p.1).map (hashK w.params) := by
      intro l kvs hk hp
      induction hp with
      | nil => rfl
      | cons h1 h2 h3 ih =>
        obtain ⟨k, q1, q2⟩ := hk _ (List.mem_cons_self)
        have e := (cellKind prog w).inj _ _ _ q1 h1
        rw [e] at q2
        rw [List.map_cons, List.map_cons, List.map_cons, ih fun e he => hk e (List.mem_cons_of_mem _ he), q2]
        rfl
    exact key _ _ (fun e he => hk e (Array.mem_toList_iff.mp he)) hp
  · rw [List.all_eq_true]
    intro d hd
    obtain ⟨p, _, rfl⟩ := List.mem_map.mp hd
    cases p.1 <;> rfl
  · have : (kvs.map fun p => ofCK p.1) = (kvs.map (·.1)).map ofCK := by simp
    rw [this]
    exact List.pairwise_map.mpr (hn.imp fun h e => h (ofCK_inj e))

noncomputable def cellEq (a b : D) : Bool := match a with
  | .int i => (match b with | .int j => i == j | _ => false)
  | .str x => (match b with | .str y => x == y | _ => false)
  | _ => false
noncomputable def cellsEq : List D → List D → Bool
  | [], [] => true
  | a :: r, b :: r' => cellEq a b && cellsEq r r'
  | _, _ => false
noncomputable def keyEq (a b : D) : Bool := match a with
  | .tup x => (match b with | .tup y => cellsEq x y | _ => false)
  | a => cellEq a b
noncomputable def dget : List D → List D → D → Option D
  | k :: ks, v :: vs, x => if keyEq k x then some v else dget ks vs x
  | _, _, _ => Option.none
noncomputable def dput : List D → List D → D → D → List D × List D
  | k' :: ks, v' :: vs, k, v => if keyEq k' k then (k' :: ks, v :: vs) else (k' :: (dput ks vs k v).1, v' :: (dput ks vs k v).2)
  | _, _, k, v => ([k], [v])
theorem cellEq_ck (a b : CK) : cellEq (ofCK a) (ofCK b) = decide (a = b) := by
  cases a <;> cases b
  · simp only [ofCK, cellEq, Sum.inl.injEq]; rfl
  · rfl
  · rfl
  · simp only [ofCK, cellEq, Sum.inr.injEq]; rfl
theorem keyEq_ck (a b : CK) : keyEq (ofCK a) (ofCK b) = decide (a = b) := by
  rw [← cellEq_ck]; cases a <;> rfl
theorem dget_valueAt {P : Params} {h : Heap} {H : Addr → Prop} {k : CK} {d : D} : ∀ {cs : List CK} {vals : List Value} {vs : List D}, RepAll P h H vals vs → dget (cs.map ofCK) vs (ofCK k) = some d → ∃ v, valueAt (cs.zip vals) k = some v ∧ Rep P h H v d
  | [], _, _, _, e => by simp [dget] at e
  | c :: cs, _, _, .nil, e => by simp [dget] at e
  | c :: cs, _, _, .cons (v := v) (vs := vals) (ds := vs) hv hr, e => by
    simp only [List.map_cons, dget, keyEq_ck] at e
    by_cases hc : c = k
    · rw [if_pos (by simpa using hc)] at e
      cases e
      exact ⟨v, by simp [valueAt, hc], hv⟩
    · rw [if_neg (by simpa using hc)] at e
      obtain ⟨u, h1, h2⟩ := dget_valueAt hr e
      refine ⟨u, ?_, h2⟩
      unfold valueAt at h1 ⊢
      rw [List.zip_cons_cons, List.find?_cons_of_neg (by simpa using hc)]
      exact h1
theorem any_valueAt {k : CK} : ∀ {cs : List CK} {vals : List Value}, cs.length = vals.length → (valueAt (cs.zip vals) k).isSome = (cs.map ofCK).any fun x => keyEq x (ofCK k)
  | [], [], _ => rfl
  | c :: cs, v :: vals, e => by
    have ih := any_valueAt (k := k) (cs := cs) (vals := vals) (by simpa using e)
    simp only [List.map_cons, List.any_cons, keyEq_ck]
    unfold valueAt at ih ⊢
    by_cases hc : c = k
    · simp [hc]
    · rw [List.zip_cons_cons, List.find?_cons_of_neg (by simpa using hc), ih]
      simp [hc]
theorem stored_dput {P : Params} {h : Heap} {H : Addr → Prop} {k : CK} {v : Value} {d : D} (hv : Rep P h H v d) {cs : List CK} : ∀ {vals : List Value} {vs : List D}, cs.length = vals.length → cs.Nodup → RepAll P h H vals vs →
    ((stored (cs.zip vals) k v).map fun p => ofCK p.1) = (dput (cs.map ofCK) vs (ofCK k) d).1 ∧ RepAll P h H ((stored (cs.zip vals) k v).map (·.2)) (dput (cs.map ofCK) vs (ofCK k) d).2 := by
  induction cs with
  | nil =>
    intro vals vs e _ hr
    cases hr with
    | nil => exact ⟨rfl, .cons hv .nil⟩
    | cons _ _ => simp at e
  | cons c cs IH =>
    intro vals' vs' e hn hr'
    cases hr' with
    | nil => simp at e
    | cons hu hr =>
    rename_i u _ vals vs
    have hl : cs.length = vals.length := by simpa using e
    obtain ⟨hnc, hn'⟩ := List.nodup_cons.mp hn
    obtain ⟨ih1, ih2⟩ := IH hl hn' hr
    simp only [List.map_cons, dput, keyEq_ck, List.zip_cons_cons]
    by_cases hc : c = k
    · subst hc
      have hs : stored ((c, u) :: cs.zip vals) c v = (c, v) :: cs.zip vals := by
        unfold stored
        rw [if_pos (by simp)]
        simp only [List.map_cons, if_true]
        rw [map_store_of_not_mem _ _ _ (by rw [zip_fst hl]; exact hnc)]
      rw [hs, if_pos (by simp)]
      refine ⟨?_, ?_⟩
      · simp only [List.map_cons]
        congr 1
        have : (cs.zip vals).map (fun p => ofCK p.1) = ((cs.zip vals).map (·.1)).map ofCK := by simp
        rw [this, zip_fst hl]
      · simp only [List.map_cons]
        rw [zip_snd hl]
        exact .cons hv hr
    · have hs : stored ((c, u) :: cs.zip vals) k v = (c, u) :: stored (cs.zip vals) k v := by
        unfold stored
        by_cases ha : (cs.zip vals).any (fun kv => decide (kv.1 = k)) = true
        · rw [if_pos ha, if_pos (by simp [ha, hc])]
          simp [hc]
        · rw [if_neg ha, if_neg (by simpa [hc] using ha)]
          rfl
      rw [hs, if_neg (by simpa using hc)]
      exact ⟨by simp only [List.map_cons]; rw [ih1], .cons hu ih2⟩
end Mine
namespace Mine
open PySem PySem.SeqAt
/-! dicts with keys that are tuples of ints and strs -/
noncomputable def D.isTK : D → Bool
  | .tup ds => ds.all D.isCell
  | _ => false
noncomputable def ofTK (k : List CK) : D := .tup (k.map ofCK)
theorem tk_ck {d : D} (h : d.isTK = true) : ∃ k, d = ofTK k := by
  cases d <;> first | cases h | skip
  obtain ⟨cs, rfl⟩ := cells_ck h
  exact ⟨cs, rfl⟩
theorem tks_ck : ∀ {ks : List D}, ks.all D.isTK = true → ∃ cs : List (List CK), ks = cs.map ofTK
  | [], _ => ⟨[], rfl⟩
  | k :: ks, h => by
    simp only [List.all_cons, Bool.and_eq_true] at h
    obtain ⟨c, rfl⟩ := tk_ck h.1
    obtain ⟨cs, rfl⟩ := tks_ck h.2
    exact ⟨c :: cs, rfl⟩
theorem ofTK_inj {a b : List CK} (h : ofTK a = ofTK b) : a = b := (List.map_inj_right fun _ _ => ofCK_inj).mp (D.tup.inj h)
theorem cellsEq_ck : ∀ (a b : List CK), cellsEq (a.map ofCK) (b.map ofCK) = decide (a = b)
  | [], [] => rfl
  | [], _ :: _ => rfl
  | _ :: _, [] => rfl
  | x :: a, y :: b => by
    simp only [List.map_cons, cellsEq, cellEq_ck, cellsEq_ck a b, List.cons.injEq, Bool.decide_and]
theorem keyEq_tk (a b : List CK) : keyEq (ofTK a) (ofTK b) = decide (a = b) := cellsEq_ck a b
noncomputable abbrev TKd (prog : Program) (w : World) := tupleKind (cellKind prog w)
section
variable {prog : Program} {w : World} {h : Heap} {H : Addr → Prop}
theorem items_of : ∀ {vs : List Value} {ks : List CK}, RepAll w.params h H vs (ks.map ofCK) → ItemsAre (cellKind prog w) ks vs
  | [], [], _ => .nil
  | [], _ :: _, r => by cases r
  | _ :: _, [], r => by cases r
  | v :: vs, k :: ks, r => by
    cases r with
    | cons r1 r2 => exact .cons (rep_ck r1) (items_of r2)
theorem rep_tk {v : Value} {k : List CK} (r : Rep w.params h H v (ofTK k)) : ∃ a, v = .ref a ∧ (TKd prog w).is h k a := by
  cases r with
  | tup ho hn hl hr => exact ⟨_, rfl, _, _, _, ho, rfl, rfl, items_of hr⟩
theorem hash_tk (k : List CK) : (TKd prog w).hash k = hashK w.params (ofTK k) := by
  show reduceHash (Builtin.Tuple.tupleHashOf (k.map fun c => hashK w.params (ofCK c))) = reduceHash (Builtin.Tuple.tupleHashOf ((k.map ofCK).map (hashC w.params)))
  rw [List.map_map]
  congr 2
  refine List.map_congr_left fun c _ => ?_
  cases c <;> rfl
noncomputable abbrev kD (x : List CK × Addr × Value) : D := ofTK x.1
theorem entries_tk : ∀ {es : List DictEntry} {cs : List (List CK)}, RepAll w.params h H (es.map (·.key)) (cs.map ofTK) → es.map (·.hash) = (cs.map ofTK).map (hashK w.params) →
    ∃ xs : List (List CK × Addr × Value), es = xs.map (entryOfKey (TKd prog w)) ∧ (∀ x ∈ xs, (TKd prog w).is h x.1 x.2.1) ∧ xs.map (·.1) = cs
  | [], [], _, _ => ⟨[], rfl, (fun _ h => nomatch h), rfl⟩
  | [], _ :: _, r, _ => by cases r
  | _ :: _, [], r, _ => by cases r
  | e :: es, c :: cs, r, hh => by
    cases r with
    | cons r1 r2 =>
      simp only [List.map_cons, List.cons.injEq] at hh
      obtain ⟨a, ea, ia⟩ := rep_tk (prog := prog) r1
      obtain ⟨xs, e1, e2, e3⟩ := entries_tk r2 hh.2
      refine ⟨(c, a, e.val) :: xs, ?_, fun x hx => ?_, by rw [List.map_cons, e3]⟩
      · rw [List.map_cons, ← e1]
        congr 1
        obtain ⟨eh, ek, ev⟩ := e
        show _ = DictEntry.mk _ _ _
        rw [hash_tk, ← hh.1, ← ea]
      · rcases List.mem_cons.mp hx with rfl | hx
        · exact ia
        · exact e2 x hx
theorem dictH_rep {a : Addr} {es : Array DictEntry} {n : Nat} {cs : List (List CK)} (ho : h.get? a = some (dicO es n)) (hr : RepAll w.params h H (es.toList.map (·.key)) (cs.map ofTK))
    (hh : es.toList.map (·.hash) = (cs.map ofTK).map (hashK w.params)) (hn : (cs.map ofTK).Nodup) :
    ∃ xs : List (List CK × Addr × Value), h.DictOfH (TKd prog w) a xs ∧ xs.map (·.1) = cs ∧ es.toList.map (·.key) = xs.map (fun x => Value.ref x.2.1) ∧ es.toList.map (·.val) = xs.map (·.2.2) := by
  obtain ⟨xs, e1, e2, e3⟩ := entries_tk (prog := prog) hr hh
  refine ⟨xs, ⟨_, es, n, ho, ⟨rfl, rfl, rfl⟩, rfl, e1, e2, ?_⟩, e3, ?_, ?_⟩
  · rw [e3]; exact (List.pairwise_map.mp hn).imp fun h e => h (by rw [e])
  · rw [e1, List.map_map]; rfl
  · rw [e1, List.map_map]; rfl
theorem atKey_cons (c : List CK) (b : Addr) (u : Value) (xs : List (List CK × Addr × Value)) (k : List CK) : atKey ((c, b, u) :: xs) k = if c = k then some (b, u) else atKey xs k := by
  unfold atKey
  by_cases hc : c = k <;> simp [hc]
theorem any_atKey {k : List CK} : ∀ (xs : List (List CK × Addr × Value)), (atKey xs k).isSome = (xs.map kD).any fun x => keyEq x (ofTK k)
  | [] => rfl
  | (c, b, u) :: xs => by
    rw [atKey_cons, List.map_cons, List.any_cons, keyEq_tk, ← any_atKey xs]
    by_cases hc : c = k <;> simp [hc]
theorem dget_atKey {P : Params} {k : List CK} {d : D} : ∀ {xs : List (List CK × Addr × Value)} {vs : List D}, RepAll P h H (xs.map (·.2.2)) vs → dget (xs.map kD) vs (ofTK k) = some d → ∃ p, atKey xs k = some p ∧ Rep P h H p.2 d
  | [], _, _, e => by simp [dget] at e
  | (c, b, u) :: xs, _, r, e => by
    cases r with
    | cons r1 r2 =>
      rw [List.map_cons, dget, keyEq_tk] at e
      rw [atKey_cons]
      by_cases hc : c = k
      · rw [if_pos (decide_eq_true hc)] at e
        cases e
        exact ⟨_, if_pos hc, r1⟩
      · rw [if_neg (by simpa using hc)] at e
        obtain ⟨p, h1, h2⟩ := dget_atKey r2 e
        exact ⟨p, (if_neg hc).trans h1, h2⟩
theorem storedH_cons (c : List CK) (b : Addr) (u : Value) (xs : List (List CK × Addr × Value)) (k : List CK) (a : Addr) (v : Value) (hn : c ∉ xs.map (·.1)) :
    storedH ((c, b, u) :: xs) k a v = if c = k then (c, b, v) :: xs else (c, b, u) :: storedH xs k a v := by
  unfold storedH
  rw [atKey_cons]
  by_cases hc : c = k
  · subst hc
    simp only [if_true, Option.isSome_some, List.map_cons, putAt]
    rw [map_putAt_of_not_mem xs c v hn]
  · simp only [hc, if_false, List.map_cons, putAt]
    split <;> rfl
theorem storedH_dput {P : Params} {k : List CK} {a : Addr} {v : Value} {d : D} (hk : Rep P h H (.ref a) (ofTK k)) (hv : Rep P h H v d) : ∀ {xs : List (List CK × Addr × Value)} {vs : List D}, (xs.map (·.1)).Nodup →
    RepAll P h H (xs.map fun x => Value.ref x.2.1) (xs.map kD) → RepAll P h H (xs.map (·.2.2)) vs →
    (storedH xs k a v).map kD = (dput (xs.map kD) vs (ofTK k) d).1 ∧ RepAll P h H ((storedH xs k a v).map fun x => Value.ref x.2.1) (dput (xs.map kD) vs (ofTK k) d).1 ∧ RepAll P h H ((storedH xs k a v).map (·.2.2)) (dput (xs.map kD) vs (ofTK k) d).2
  | [], _, _, _, r => by cases r; exact ⟨rfl, .cons hk .nil, .cons hv .nil⟩
  | (c, b, u) :: xs, _, hn, rk, r => by
    simp only [List.map_cons] at rk r hn
    obtain ⟨hn1, hn2⟩ := List.nodup_cons.mp hn
    cases r with
    | cons r1 r2 =>
      cases rk with
      | cons k1 k2 =>
        obtain ⟨i1, i2, i3⟩ := storedH_dput hk hv hn2 k2 r2
        rw [storedH_cons _ _ _ _ _ _ _ hn1]
        simp only [List.map_cons, dput, keyEq_tk, decide_eq_true_eq]
        by_cases hc : c = k
        · simp only [hc, if_true]
          exact ⟨rfl, .cons (hc ▸ k1) k2, .cons hv r2⟩
        · simp only [hc, if_false]
          exact ⟨by rw [List.map_cons, i1], .cons k1 i2, .cons r1 i3⟩
end
end Mine
namespace Mine
open PySem

/-! the mini language -/
inductive ME where
  | var (x : String)
  | glob (x : String)
  | int (i : Int)
  | str (s : String)
  | bool (b : Bool)
  | none
  | bin (op : Operator) (a b : ME)
  | cmp (op : CmpOp) (a b : ME)
  | bop (op : BoolOp) (es : List ME)
  | not (a : ME)
  | neg (a : ME)
  | tup (es : List ME)
  | lst (es : List ME)
  | sub (a i : ME)
  | sl (a lo hi : ME)
  | dct (ks vs : List ME)
  | comp (elt : ME) (x : String) (src : ME) (cs : List ME)
  | call (f : String) (args : List ME)
  | isi (a : ME) (T : String)
  | blt (f : String) (args : List ME)
  | lcp (a : ME)

inductive MS where
  | assign (x : String) (e : ME)
  | append (x : String) (e : ME)
  | setk (x : String) (k e : ME)
  | ite (c : ME) (t f : List MS)
  | for_ (x : String) (src : ME) (body : List MS)
  | ret (e : ME)
  | bad
  | grp

noncomputable def D.isList : D → Bool
  | .list _ => true
  | _ => false
/-! data operations -/
noncomputable def D.items : D → Option (List D)
  | .list ds | .tup ds => some ds
  | .rng a b => some ((List.range (b - a).toNat).map fun (i : Nat) => D.int (a + (i : Int)))
  | .dict ks _ => some ks
  | _ => Option.none

noncomputable def truth : D → Option Bool
  | .bool b => some b
  | .none => some false
  | .int i => some (i != 0)
  | .list ds | .tup ds => some (!ds.isEmpty)
  | _ => Option.none

noncomputable def eqS (a b : D) : Option Bool := match a with
  | .bool x => (match b with | .bool y => some (x == y) | _ => Option.none)
  | .int x => (match b with | .int y => some (x == y) | .str _ => some false | _ => Option.none)
  | .str x => (match b with | .str y => some (x == y) | .int _ => some false | _ => Option.none)
  | _ => Option.none
noncomputable def eqAll : List D → List D → Option Bool
  | [], [] => some true
  | a :: r, b :: r' => match eqS a b, eqAll r r' with
    | some x, some y => some (x && y)
    | _, _ => Option.none
  | _, _ => some false
/-- == of two data -/
noncomputable def eqD (a b : D) : Option Bool := match a with
  | .list ds => (match b with | .list es => if ds.length = es.length then eqAll ds es else some false | _ => Option.none)
  | .tup ds => (match b with | .tup es => if ds.length = es.length then eqAll ds es else Option.none | _ => Option.none)
  | a => eqS a b

noncomputable def lim : Int := 2 ^ 64
noncomputable def powLim : Int := 2 ^ 1000
noncomputable def strLim : Int := 10 ^ 100
noncomputable def binI (op : Operator) (a b : Int) : Option D := match op with
  | .Add => some (.int (a + b))
  | .Sub => some (.int (a - b))
  | .Mult => if (-lim < a ∧ a < lim) ∨ (-lim < b ∧ b < lim) then some (.int (a * b)) else Option.none
  | .FloorDiv => if 0 < b ∧ b < lim then some (.int (a / b)) else Option.none
  | .Mod => if 0 < b then some (.int (a % b)) else Option.none
  | .Pow => if -powLim < a ∧ a < powLim ∧ 0 ≤ b ∧ b ≤ 100 then some (.int (a ^ b.toNat)) else Option.none
  | _ => Option.none
noncomputable def binS (op : Operator) (a : Str) (d : D) : Option D := match op with
  | .Add => (match d with | .str b => if a.length + b.length ≤ big then some (.str (a ++ b)) else Option.none | _ => Option.none)
  | .Mult => (match d with | .int n => if 0 ≤ n ∧ n ≤ 1000 ∧ a.length ≤ 1000 then some (.str (Txt.mul a n)) else Option.none | _ => Option.none)
  | _ => Option.none
noncomputable def binL (op : Operator) (a : List D) (d : D) : Option D := match op with
  | .Add => (match d with | .list b => if a.length + b.length ≤ big then some (.list (a ++ b)) else Option.none | _ => Option.none)
  | _ => Option.none
noncomputable def binT (op : Operator) (a : List D) (d : D) : Option D := match op with
  | .Add => (match d with | .tup b => if a.length + b.length ≤ big then some (.tup (a ++ b)) else Option.none | _ => Option.none)
  | _ => Option.none
noncomputable def binD (op : Operator) (x y : D) : Option D := match x with
  | .int a => (match y with | .int b => binI op a b | _ => Option.none)
  | .str a => binS op a y
  | .list a => binL op a y
  | .tup a => binT op a y
  | _ => Option.none

noncomputable def cmpI (op : CmpOp) (a b : Int) : Option D := match op with
  | .Lt => some (.bool (decide (a < b)))
  | .LtE => some (.bool (decide (a ≤ b)))
  | .Gt => some (.bool (decide (a > b)))
  | .GtE => some (.bool (decide (a ≥ b)))
  | _ => Option.none
noncomputable def ordD (op : CmpOp) (x y : D) : Option D := match x with
  | .int a => (match y with | .int b => cmpI op a b | _ => Option.none)
  | .str a => (match y with | .str b => (match op with | .Lt => some (.bool (decide (a.cps.toList < b.cps.toList))) | _ => Option.none) | _ => Option.none)
  | _ => Option.none
noncomputable def keyOk (k : D) (ks : List D) : Bool := (k.isCell && ks.all D.isCell) || (k.isTK && ks.all D.isTK)
/-- k in c -/
noncomputable def memD (k c : D) : Option Bool := match c with
  | .dict ks _ => if keyOk k ks then some (ks.any fun x => keyEq x k) else Option.none
  | .tup ds => if k.isCell && ds.all D.isCell then some (ds.any fun x => cellEq x k) else Option.none
  | _ => Option.none
noncomputable def cmpD (op : CmpOp) (a b : D) : Option D := match op with
  | .Eq => (eqD a b).map .bool
  | .NotEq => (eqD a b).map fun x => .bool (!x)
  | .In => (memD a b).map .bool
  | .NotIn => (memD a b).map fun x => .bool (!x)
  | op => ordD op a b

/-- the place of an index -/
noncomputable def idx (k : Int) (n : Nat) : Option Nat := if 0 ≤ k ∧ k < n then some k.toNat else if -(n : Int) ≤ k ∧ k < 0 then some (k + n).toNat else Option.none
noncomputable def charAt (x : Str) (j : Nat) : Str := ⟨#[x.cps.getD j 0]⟩
noncomputable def subD (d i : D) : Option D := match d with
  | .list ds => (match i with | .int k => (idx k ds.length).bind fun j => ds[j]? | _ => Option.none)
  | .tup ds => (match i with | .int k => (idx k ds.length).bind fun j => ds[j]? | _ => Option.none)
  | .str x => (match i with | .int k => if 0 ≤ k ∧ k < x.length ∧ x.length ≤ big then some (.str (charAt x k.toNat)) else Option.none | _ => Option.none)
  | .dict ks vs => if keyOk i ks then dget ks vs i else Option.none
  | _ => Option.none

noncomputable def bnd (lo : D) (dflt : Nat) : Option Nat := match lo with
  | .none => some dflt
  | .int i => if 0 ≤ i then some i.toNat else Option.none
  | _ => Option.none
noncomputable def bndS (lo : D) : Option (Option Int) := match lo with
  | .none => some Option.none
  | .int i => some (some i)
  | _ => Option.none
noncomputable def slD (d lo hi : D) : Option D := match d with
  | .list ds => (bnd lo 0).bind fun a => (bnd hi ds.length).map fun b => .list ((ds.take b).drop a)
  | .tup ds => (bnd lo 0).bind fun a => (bnd hi ds.length).map fun b => .tup ((ds.take b).drop a)
  | .str x => if x.length ≤ big then (bndS lo).bind fun a => (bndS hi).map fun b => .str (Txt.slice x a b) else Option.none
  | _ => Option.none

noncomputable def isiD (d : D) (T : String) : Option Bool :=
  if T = "str" ∨ T = "bool" ∨ T = "int" ∨ T = "tuple" ∨ T = "list" then (match d with
    | .str _ => some (T == "str")
    | .int _ => some (T == "int")
    | .bool _ => some (T == "int" || T == "bool")
    | .tup _ => some (T == "tuple")
    | .list _ => some (T == "list")
    | _ => Option.none) else Option.none

noncomputable def lenD (d : D) : Option D := match d with
  | .list ds => some (.int ds.length)
  | .tup ds => some (.int ds.length)
  | .str x => if x.length ≤ big then some (.int x.length) else Option.none
  | _ => Option.none
noncomputable def rngD (a n : Int) : Option D := if (-(big : Int) ≤ n ∧ n ≤ big) ∧ -(big : Int) ≤ a ∧ a ≤ big then some (.rng a n) else Option.none
noncomputable def bltI (f : String) (i : Int) : Option D :=
  if f = "range" then rngD 0 i else if f = "str" then (if -strLim < i ∧ i < strLim then some (.str (Str.ofString (toString i))) else Option.none) else Option.none
noncomputable def bltI2 (f : String) (a b : Int) : Option D :=
  if f = "range" then rngD a b else if f = "max" then some (.int (if b > a then b else a)) else if f = "min" then some (.int (if b < a then b else a)) else Option.none
noncomputable def sumD : List D → Option Int
  | [] => some 0
  | .int i :: r => (sumD r).map (i + ·)
  | _ => Option.none
/-- the built-ins, but for list -/
noncomputable def bltD (f : String) (as : List D) : Option D := match as with
  | [d] => if f = "len" then lenD d else (match d with
    | .list ds => if f = "tuple" then some (.tup ds) else if f = "sum" then (sumD ds).map .int else Option.none
    | .int i => bltI f i
    | .bool b => if f = "int" then some (.int (if b then 1 else 0)) else Option.none
    | .str x => if f = "str" then some (.str x) else Option.none
    | _ => Option.none)
  | [a, b] => (match a with
    | .int i => (match b with | .int j => bltI2 f i j | _ => Option.none)
    | _ => Option.none)
  | _ => Option.none
/-- list of it -/
noncomputable def lstD (d : D) : Option (List D) := match d with
  | .list ds => some ds
  | .tup ds => some ds
  | .dict ks _ => if ks.all D.isCell then some ks else Option.none
  | _ => Option.none

noncomputable def dputs (ks vs : List D) : List D × List D := (ks.zip vs).foldl (fun acc p => dput acc.1 acc.2 p.1 p.2) ([], [])

/-! the evaluator -/
noncomputable def compM (f : D → Option (Option D)) : List D → Option (List D)
  | [] => some []
  | it :: r => match f it with
    | Option.none => Option.none
    | some o => match compM f r with
      | Option.none => Option.none
      | some ds => some (match o with | Option.none => ds | some d => d :: ds)

structure CF where
  call : String → List D → Option (D × Bool)
  glob : String → Option D

mutual
noncomputable def evE (cf : CF) (ρ : List (String × D)) (me : ME) : Option D := match me with
  | .var x => ρ.lookup x
  | .glob x => cf.glob x
  | .int i => some (.int i)
  | .str s => some (.str (Str.ofString s))
  | .bool b => some (.bool b)
  | .none => some .none
  | .bin op a b => match evE cf ρ a with
    | some x => (match evE cf ρ b with | some y => binD op x y | Option.none => Option.none)
    | Option.none => Option.none
  | .cmp op a b => match evE cf ρ a with
    | some x => (match evE cf ρ b with | some y => cmpD op x y | Option.none => Option.none)
    | Option.none => Option.none
  | .bop op es => evBop cf ρ op es
  | .not a => match evE cf ρ a with
    | some x => (truth x).map fun t => .bool (!t)
    | Option.none => Option.none
  | .neg a => match evE cf ρ a with
    | some (.int i) => some (.int (-i))
    | _ => Option.none
  | .tup es => match evEs cf ρ es with
    | some ds => if ds.length ≤ big then some (.tup ds) else Option.none
    | Option.none => Option.none
  | .lst es => match evEs cf ρ es with
    | some ds => if ds.length ≤ big then some (.list ds) else Option.none
    | Option.none => Option.none
  | .dct ks vs => match evEs cf ρ ks with
    | some ds => (match evEs cf ρ vs with
      | some es => if ds.all D.isCell && ds.length == es.length && decide (ds.length ≤ 15) then some (.dict (dputs ds es).1 (dputs ds es).2) else Option.none
      | Option.none => Option.none)
    | Option.none => Option.none
  | .sub a i => match evE cf ρ a with
    | some x => (match evE cf ρ i with | some y => subD x y | Option.none => Option.none)
    | Option.none => Option.none
  | .sl a lo hi => match evE cf ρ a with
    | some x => (match evE cf ρ lo with
      | some y => (match evE cf ρ hi with | some z => slD x y z | Option.none => Option.none)
      | Option.none => Option.none)
    | Option.none => Option.none
  | .comp elt x src cs => match evE cf ρ src with
    | some d => (match d.items with
      | some its => if its.length ≤ big then (compM (fun it => match evCs cf ((x, it) :: ρ) cs with
          | some true => (match evE cf ((x, it) :: ρ) elt with | some y => some (some y) | Option.none => Option.none)
          | some false => some Option.none
          | Option.none => Option.none) its).map .list else Option.none
      | Option.none => Option.none)
    | Option.none => Option.none
  | .call f args => match evEs cf ρ args with
    | some ds => (cf.call f ds).map (·.1)
    | Option.none => Option.none
  | .isi a T => match evE cf ρ a with
    | some x => (isiD x T).map .bool
    | Option.none => Option.none
  | .blt f args => match evEs cf ρ args with
    | some ds => bltD f ds
    | Option.none => Option.none
  | .lcp a => match evE cf ρ a with
    | some x => (lstD x).map .list
    | Option.none => Option.none
termination_by structural me
noncomputable def evEs (cf : CF) (ρ : List (String × D)) (ms : List ME) : Option (List D) := match ms with
  | [] => some []
  | e :: r => match evE cf ρ e with
    | some d => (match evEs cf ρ r with | some ds => some (d :: ds) | Option.none => Option.none)
    | Option.none => Option.none
termination_by structural ms
noncomputable def evBop (cf : CF) (ρ : List (String × D)) (op : BoolOp) (ms : List ME) : Option D := match ms with
  | [] => Option.none
  | [e] => evE cf ρ e
  | e :: r => match evE cf ρ e with
    | some d => (match truth d with
      | some t => if t = (match op with | .And => false | .Or => true) then some d else evBop cf ρ op r
      | Option.none => Option.none)
    | Option.none => Option.none
termination_by structural ms
noncomputable def evCs (cf : CF) (ρ : List (String × D)) (ms : List ME) : Option Bool := match ms with
  | [] => some true
  | e :: r => match evE cf ρ e with
    | some d => (match truth d with
      | some t => if t then evCs cf ρ r else some false
      | Option.none => Option.none)
    | Option.none => Option.none
termination_by structural ms
end

/-! the variables that an expression reads -/
mutual
noncomputable def ME.names : ME → List String
  | .var x => [x]
  | .bin _ a b | .cmp _ a b | .sub a b => a.names ++ b.names
  | .bop _ es | .tup es | .lst es | .call _ es | .blt _ es => namesL es
  | .not a | .neg a | .isi a _ | .lcp a => a.names
  | .dct ks vs => namesL ks ++ namesL vs
  | .sl a lo hi => a.names ++ lo.names ++ hi.names
  | .comp elt x src cs => src.names ++ (elt.names ++ namesL cs).filter (· != x)
  | .glob _ | .int _ | .str _ | .bool _ | .none => []
noncomputable def namesL : List ME → List String
  | [] => []
  | e :: r => e.names ++ namesL r
end

/-! statements -/
noncomputable abbrev St := List (String × (Bool × D))
noncomputable def vis (σ : St) : List (String × D) := σ.map fun p => (p.1, p.2.2)
noncomputable def setv (σ : St) (x : String) (v : Bool × D) : St := match σ with
  | [] => [(x, v)]
  | (y, w) :: r => if y = x then (y, v) :: r else (y, w) :: setv r x v
noncomputable def freeze (ns : List String) (σ : St) : St := σ.map fun p => (p.1, (p.2.1 && !ns.contains p.1, p.2.2))
noncomputable def settle (d : D) (ns : List String) (σ : St) : St := if d.scalar then σ else freeze ns σ

inductive Fl where
  | next
  | ret (fr : Bool) (d : D)

/-- an expression's value, and whether it is a new list that nothing else holds -/
noncomputable def frF (me : ME) (d : D) : Bool := match me with
  | .lst _ | .comp _ _ _ _ | .dct _ _ | .lcp _ => true
  | .sl _ _ _ | .bin _ _ _ => d.isList
  | .var _ | .glob _ | .int _ | .str _ | .bool _ | .none | .cmp _ _ _ | .bop _ _ | .not _ | .neg _ | .tup _ | .sub _ _ | .call _ _ | .isi _ _ | .blt _ _ => false
noncomputable def isCallE (me : ME) : Option (String × List ME) := match me with
  | .call f args => some (f, args)
  | _ => Option.none
noncomputable def evF (cf : CF) (ρ : List (String × D)) (me : ME) : Option (D × Bool) := match isCallE me with
  | some (f, args) => (match evEs cf ρ args with
    | some ds => cf.call f ds
    | Option.none => Option.none)
  | Option.none => (evE cf ρ me).map fun d => (d, frF me d)

section
variable (cf : CF) (ρ : List (String × D))
theorem evF_call (f : String) (args : List ME) : evF cf ρ (.call f args) = (match evEs cf ρ args with | some ds => cf.call f ds | Option.none => Option.none) := rfl
theorem evF_lst (es : List ME) : evF cf ρ (.lst es) = (evE cf ρ (.lst es)).map fun d => (d, true) := rfl
theorem evF_dct (ks vs : List ME) : evF cf ρ (.dct ks vs) = (evE cf ρ (.dct ks vs)).map fun d => (d, true) := rfl
theorem evF_lcp (a : ME) : evF cf ρ (.lcp a) = (evE cf ρ (.lcp a)).map fun d => (d, true) := rfl
theorem evF_comp (elt : ME) (x : String) (src : ME) (cs : List ME) : evF cf ρ (.comp elt x src cs) = (evE cf ρ (.comp elt x src cs)).map fun d => (d, true) := rfl
theorem evF_sl (a l h : ME) : evF cf ρ (.sl a l h) = (evE cf ρ (.sl a l h)).map fun d => (d, d.isList) := rfl
theorem evF_bin (op : Operator) (a b : ME) : evF cf ρ (.bin op a b) = (evE cf ρ (.bin op a b)).map fun d => (d, d.isList) := rfl
end
noncomputable def forD (f : D → St → Option (Fl × St)) : List D → St → Option (Fl × St)
  | [], σ => some (.next, σ)
  | it :: r, σ => match f it σ with
    | some (.next, σ') => forD f r σ'
    | x => x
/-! the loop of grouped -/
noncomputable def gapp : List D → List (List D) → D → D → List (List D)
  | k' :: ks, l :: lss, k, r => if keyEq k' k = true then (l ++ [r]) :: lss else l :: gapp ks lss k r
  | _, lss, _, _ => lss
noncomputable def gnewK (ks : List D) (k : D) : List D := if (ks.any fun x => keyEq x k) = true then ks else ks ++ [k]
noncomputable def gnewL (ks : List D) (lss : List (List D)) (k : D) : List (List D) := if (ks.any fun x => keyEq x k) = true then lss else lss ++ [[]]
noncomputable def grpD (cf : CF) (pl : D) : List D → List D → List (List D) → Option (List D × List (List D))
  | [], ks, lss => some (ks, lss)
  | r :: rs, ks, lss => match cf.call "cells_at" [r, pl] with
    | some (k, _) => if k.isTK && decide (ks.length < big) && lss.all (fun l => decide (l.length < big)) then grpD cf pl rs (gnewK ks k) (gapp (gnewK ks k) (gnewL ks lss k) k r) else Option.none
    | Option.none => Option.none
noncomputable def del (σ : St) (x : String) : St := σ.filter fun p => p.1 != x
noncomputable def grpNs : List String := ["rows", "places", "row", "own"]
noncomputable def isNew : Option (Bool × D) → Bool
  | some (true, .dict [] []) => true
  | _ => false
noncomputable def grpS (cf : CF) (σ : St) : Option St := match σ.lookup "rows" with
  | some (_, .list rs) => (match σ.lookup "places" with
    | some (_, pl) => if isNew (σ.lookup "groups") && (σ.lookup "row").isNone && (σ.lookup "own").isNone then
        (grpD cf pl rs [] []).map fun q => setv (del (freeze grpNs σ) "groups") "groups" (false, .dict q.1 (q.2.map .list)) else Option.none
    | Option.none => Option.none)
  | _ => Option.none
mutual
noncomputable def exS (cf : CF) (st : MS) (σ : St) : Option (Fl × St) := match st, σ with
  | .assign x e, σ => match evF cf (vis σ) e with
    | some (d, fr) => some (.next, setv (settle d e.names σ) x (fr, d))
    | Option.none => Option.none
  | .append x e, σ => match evE cf (vis σ) e with
    | some d => (match (settle d e.names σ).lookup x with
      | some (true, .list ds) => if ds.length < big then some (.next, setv (settle d e.names σ) x (true, .list (ds ++ [d]))) else Option.none
      | _ => Option.none)
    | Option.none => Option.none
  | .setk x k e, σ => match evE cf (vis σ) e with
    | some d => (match evE cf (vis σ) k with
      | some dk => (match (settle dk k.names (settle d e.names σ)).lookup x with
        | some (true, .dict ks vs) => if keyOk dk ks && decide (ks.length < big) then some (.next, setv (settle dk k.names (settle d e.names σ)) x (true, .dict (dput ks vs dk d).1 (dput ks vs dk d).2)) else Option.none
        | _ => Option.none)
      | Option.none => Option.none)
    | Option.none => Option.none
  | .ite c t f, σ => match evE cf (vis σ) c with
    | some d => (match truth d with
      | some true => exSs cf t σ
      | some false => exSs cf f σ
      | Option.none => Option.none)
    | Option.none => Option.none
  | .for_ x src body, σ => match evE cf (vis σ) src with
    | some d => (match d.items with
      | some its => forD (fun it σ => exSs cf body (setv σ x (false, it))) its (freeze src.names σ)
      | Option.none => Option.none)
    | Option.none => Option.none
  | .ret e, σ => match e with
    | .var x => (match σ.lookup x with | some (fr, d) => some (.ret fr d, σ) | Option.none => Option.none)
    | e => (match evF cf (vis σ) e with
      | some (d, fr) => some (.ret fr d, σ)
      | Option.none => Option.none)
  | .bad, _ => Option.none
  | .grp, σ => match grpS cf σ with
    | some σ' => some (.next, σ')
    | Option.none => Option.none
termination_by structural st
noncomputable def exSs (cf : CF) (ss : List MS) (σ : St) : Option (Fl × St) := match ss, σ with
  | [], σ => some (.next, σ)
  | st :: r, σ => match exS cf st σ with
    | some (.next, σ') => exSs cf r σ'
    | x => x
termination_by structural ss
end

structure Fn where
  params : List String
  body : List MS

/-- calls: n is how deep they may nest; X: functions that are shown by hand, and global constants -/
noncomputable def callN (P : List (String × Fn)) (X : CF) : Nat → CF
  | 0 => ⟨fun _ _ => Option.none, X.glob⟩
  | n + 1 => ⟨fun f args => match P.lookup f with
    | Option.none => X.call f args
    | some fn => if args.length = fn.params.length then
        (match exSs (callN P X n) fn.body ((fn.params.zip args).map fun p => (p.1, (false, p.2))) with
        | some (.ret fr d, _) => some (d, fr)
        | some (.next, _) => some (.none, false)
        | _ => Option.none)
      else Option.none, X.glob⟩
set_option autoImplicit true in
theorem ev_var (cf : CF) (ρ : List (String × D)) : evE cf ρ (ME.var x) = (ρ.lookup x) := rfl
set_option autoImplicit true in
theorem ev_glob (cf : CF) (ρ : List (String × D)) : evE cf ρ (ME.glob x) = (cf.glob x) := rfl
set_option autoImplicit true in
theorem ev_int (cf : CF) (ρ : List (String × D)) : evE cf ρ (ME.int i) = (some (.int i)) := rfl
set_option autoImplicit true in
theorem ev_str (cf : CF) (ρ : List (String × D)) : evE cf ρ (ME.str s) = (some (.str (Str.ofString s))) := rfl
set_option autoImplicit true in
theorem ev_bool (cf : CF) (ρ : List (String × D)) : evE cf ρ (ME.bool b) = (some (.bool b)) := rfl
set_option autoImplicit true in
theorem ev_none (cf : CF) (ρ : List (String × D)) : evE cf ρ (ME.none) = (some .none) := rfl
set_option autoImplicit true in
theorem ev_bin (cf : CF) (ρ : List (String × D)) : evE cf ρ (ME.bin op a b) = (match evE cf ρ a with
      | some x => (match evE cf ρ b with | some y => binD op x y | Option.none => Option.none)
      | Option.none => Option.none) := rfl
set_option autoImplicit true in
theorem ev_cmp (cf : CF) (ρ : List (String × D)) : evE cf ρ (ME.cmp op a b) = (match evE cf ρ a with
      | some x => (match evE cf ρ b with | some y => cmpD op x y | Option.none => Option.none)
      | Option.none => Option.none) := rfl
set_option autoImplicit true in
theorem ev_bop (cf : CF) (ρ : List (String × D)) : evE cf ρ (ME.bop op es) = (evBop cf ρ op es) := rfl
set_option autoImplicit true in
theorem ev_not (cf : CF) (ρ : List (String × D)) : evE cf ρ (ME.not a) = (match evE cf ρ a with
      | some x => (truth x).map fun t => .bool (!t)
      | Option.none => Option.none) := rfl
set_option autoImplicit true in
theorem ev_neg (cf : CF) (ρ : List (String × D)) : evE cf ρ (ME.neg a) = (match evE cf ρ a with
      | some (.int i) => some (.int (-i))
      | _ => Option.none) := rfl
set_option autoImplicit true in
theorem ev_tup (cf : CF) (ρ : List (String × D)) : evE cf ρ (ME.tup es) = (match evEs cf ρ es with
      | some ds => if ds.length ≤ big then some (.tup ds) else Option.none
      | Option.none => Option.none) := rfl
set_option autoImplicit true in
theorem ev_lst (cf : CF) (ρ : List (String × D)) : evE cf ρ (ME.lst es) = (match evEs cf ρ es with
      | some ds => if ds.length ≤ big then some (.list ds) else Option.none
      | Option.none => Option.none) := rfl
set_option autoImplicit true in
theorem ev_dct (cf : CF) (ρ : List (String × D)) : evE cf ρ (ME.dct ks vs) = (match evEs cf ρ ks with
      | some ds => (match evEs cf ρ vs with
        | some es => if ds.all D.isCell && ds.length == es.length && decide (ds.length ≤ 15) then some (.dict (dputs ds es).1 (dputs ds es).2) else Option.none
        | Option.none => Option.none)
      | Option.none => Option.none) := rfl
set_option autoImplicit true in
theorem ev_sub (cf : CF) (ρ : List (String × D)) : evE cf ρ (ME.sub a i) = (match evE cf ρ a with
      | some x => (match evE cf ρ i with | some y => subD x y | Option.none => Option.none)
      | Option.none => Option.none) := rfl
set_option autoImplicit true in
theorem ev_sl (cf : CF) (ρ : List (String × D)) : evE cf ρ (ME.sl a lo hi) = (match evE cf ρ a with
      | some x => (match evE cf ρ lo with
        | some y => (match evE cf ρ hi with | some z => slD x y z | Option.none => Option.none)
        | Option.none => Option.none)
      | Option.none => Option.none) := rfl
set_option autoImplicit true in
theorem ev_comp (cf : CF) (ρ : List (String × D)) : evE cf ρ (ME.comp elt x src cs) = (match evE cf ρ src with
      | some d => (match d.items with
        | some its => if its.length ≤ big then (compM (fun it => match evCs cf ((x, it) :: ρ) cs with
            | some true => (match evE cf ((x, it) :: ρ) elt with | some y => some (some y) | Option.none => Option.none)
            | some false => some Option.none
            | Option.none => Option.none) its).map .list else Option.none
        | Option.none => Option.none)
      | Option.none => Option.none) := rfl
set_option autoImplicit true in
theorem ev_call (cf : CF) (ρ : List (String × D)) : evE cf ρ (ME.call f args) = (match evEs cf ρ args with
      | some ds => (cf.call f ds).map (·.1)
      | Option.none => Option.none) := rfl
set_option autoImplicit true in
theorem ev_isi (cf : CF) (ρ : List (String × D)) : evE cf ρ (ME.isi a T) = (match evE cf ρ a with
      | some x => (isiD x T).map .bool
      | Option.none => Option.none) := rfl
set_option autoImplicit true in
theorem ev_blt (cf : CF) (ρ : List (String × D)) : evE cf ρ (ME.blt f args) = (match evEs cf ρ args with
      | some ds => bltD f ds
      | Option.none => Option.none) := rfl
set_option autoImplicit true in
theorem ev_lcp (cf : CF) (ρ : List (String × D)) : evE cf ρ (ME.lcp a) = (match evE cf ρ a with
      | some x => (lstD x).map .list
      | Option.none => Option.none) := rfl
set_option autoImplicit true in
theorem evs_nil (cf : CF) (ρ : List (String × D)) : evEs cf ρ ([]) = (some []) := rfl
set_option autoImplicit true in
theorem evs_cons (cf : CF) (ρ : List (String × D)) : evEs cf ρ (e :: r) = (match evE cf ρ e with
      | some d => (match evEs cf ρ r with | some ds => some (d :: ds) | Option.none => Option.none)
      | Option.none => Option.none) := rfl
set_option autoImplicit true in
theorem evc_nil (cf : CF) (ρ : List (String × D)) : evCs cf ρ ([]) = (some true) := rfl
set_option autoImplicit true in
theorem evc_cons (cf : CF) (ρ : List (String × D)) : evCs cf ρ (e :: r) = (match evE cf ρ e with
      | some d => (match truth d with
        | some t => if t then evCs cf ρ r else some false
        | Option.none => Option.none)
      | Option.none => Option.none) := rfl
set_option autoImplicit true in
theorem xs_assign (cf : CF) (σ : St) : exS cf (MS.assign x e) σ = (match evF cf (vis σ) e with
      | some (d, fr) => some (.next, setv (settle d e.names σ) x (fr, d))
      | Option.none => Option.none) := rfl
set_option autoImplicit true in
theorem xs_append (cf : CF) (σ : St) : exS cf (MS.append x e) σ = (match evE cf (vis σ) e with
      | some d => (match (settle d e.names σ).lookup x with
        | some (true, .list ds) => if ds.length < big then some (.next, setv (settle d e.names σ) x (true, .list (ds ++ [d]))) else Option.none
        | _ => Option.none)
      | Option.none => Option.none) := rfl
set_option autoImplicit true in
theorem xs_setk (cf : CF) (σ : St) : exS cf (MS.setk x k e) σ = (match evE cf (vis σ) e with
      | some d => (match evE cf (vis σ) k with
        | some dk => (match (settle dk k.names (settle d e.names σ)).lookup x with
          | some (true, .dict ks vs) => if keyOk dk ks && decide (ks.length < big) then some (.next, setv (settle dk k.names (settle d e.names σ)) x (true, .dict (dput ks vs dk d).1 (dput ks vs dk d).2)) else Option.none
          | _ => Option.none)
        | Option.none => Option.none)
      | Option.none => Option.none) := rfl
set_option autoImplicit true in
theorem xs_ite (cf : CF) (σ : St) : exS cf (MS.ite c t f) σ = (match evE cf (vis σ) c with
      | some d => (match truth d with
        | some true => exSs cf t σ
        | some false => exSs cf f σ
        | Option.none => Option.none)
      | Option.none => Option.none) := rfl
set_option autoImplicit true in
theorem xs_for_ (cf : CF) (σ : St) : exS cf (MS.for_ x src body) σ = (match evE cf (vis σ) src with
      | some d => (match d.items with
        | some its => forD (fun it σ => exSs cf body (setv σ x (false, it))) its (freeze src.names σ)
        | Option.none => Option.none)
      | Option.none => Option.none) := rfl
set_option autoImplicit true in
theorem xs_ret (cf : CF) (σ : St) : exS cf (MS.ret e) σ = (match e with
      | .var x => (match σ.lookup x with | some (fr, d) => some (.ret fr d, σ) | Option.none => Option.none)
      | e => (match evF cf (vis σ) e with
        | some (d, fr) => some (.ret fr d, σ)
        | Option.none => Option.none)) := rfl
set_option autoImplicit true in
theorem xs_bad (cf : CF) (σ : St) : exS cf (MS.bad) σ = (Option.none) := rfl
set_option autoImplicit true in
theorem xs_grp (cf : CF) (σ : St) : exS cf (MS.grp) σ = (match grpS cf σ with
      | some σ' => some (.next, σ')
      | Option.none => Option.none) := rfl
set_option autoImplicit true in
theorem xss_nil (cf : CF) (σ : St) : exSs cf ([]) σ = (some (.next, σ)) := rfl
set_option autoImplicit true in
theorem xss_cons (cf : CF) (σ : St) : exSs cf (st :: r) σ = (match exS cf st σ with
      | some (.next, σ') => exSs cf r σ'
      | x => x) := rfl
theorem nms_nil : namesL [] = [] := rfl
theorem nms_cons (e : ME) (r : List ME) : namesL (e :: r) = e.names ++ namesL r := rfl
theorem nm_var (x : String) : (ME.var x).names = [x] := rfl
theorem nm_lcp (a : ME) : (ME.lcp a).names = a.names := rfl
end Mine
namespace Mine
open PySem

noncomputable abbrev KD := Str → Option NameKind
noncomputable def isVar (k : KD) (x : Str) : Bool := (k x == some .local || k x == some .cell || k x == some .free) && x != Str.ofString "__debug__" && x != Str.ofString "__classdict__" && x != Str.ofString ".0"
noncomputable def isGlob (k : KD) (x : Str) : Bool := k x == some .globalImplicit && x != Str.ofString "__debug__"
noncomputable def kindC (k : KD) (scope : Scope) : KD := fun x => (scope.names.map fun p => if p.2 == .free && k p.1 == some .cell then (p.1, NameKind.cell) else p).lookup x
noncomputable def notSet : Expr → Bool
  | .Set .. => false
  | _ => true
noncomputable def okScope (k : KD) (scope : Scope) (x : Str) : Bool :=
  scope.kind == .function && decide (scope.names.map (·.1)).Nodup && (scope.names.lookup x == some .local || scope.names.lookup x == some .cell) &&
  scope.names.all (fun p => p.2 != .free || k p.1 == some .cell || k p.1 == some .free) && scope.names.all (fun p => p.2 == .free || p.2 == .globalImplicit || p.1 == x || p.1 == Str.ofString ".0")

noncomputable def ME.isNone : ME → Bool
  | .none => true
  | _ => false

noncomputable def notSlice : Expr → Bool
  | .Slice .. => false
  | _ => true
theorem dite_inv {c : Prop} [Decidable c] {f : c → Bool} (h : dite c f (fun _ => false) = true) : ∃ hc, f hc = true := by
  by_cases hc : c
  · rw [dif_pos hc] at h; exact ⟨hc, h⟩
  · rw [dif_neg hc] at h; cases h
noncomputable def c1 {α : Type} (l : List α) (f : α → Bool) : Bool := match l with | [x] => f x | _ => false
theorem c1_inv {α : Type} {l : List α} {f : α → Bool} (h : c1 l f = true) : ∃ x, l = [x] ∧ f x = true := by
  match l, h with
  | [x], h => exact ⟨x, rfl, h⟩
noncomputable def c2 {α : Type} (l : List α) (f : α → α → Bool) : Bool := match l with | [x, y] => f x y | _ => false
theorem c2_inv {α : Type} {l : List α} {f : α → α → Bool} (h : c2 l f = true) : ∃ x y, l = [x, y] ∧ f x y = true := by
  match l, h with
  | [x, y], h => exact ⟨x, y, rfl, h⟩
noncomputable def cOpt {α : Type} (l : Option α) (f : α → Bool) : Bool := match l with | some x => f x | none => false
theorem cOpt_inv {α : Type} {l : Option α} {f : α → Bool} (h : cOpt l f = true) : ∃ x, l = some x ∧ f x = true := by
  cases l with
  | none => cases h
  | some x => exact ⟨x, rfl, h⟩
noncomputable def cName (e : Expr) (f : Str → Pos → Bool) : Bool := dite (e.ctorIdx = 23) (fun h => Expr.Name.elim (motive_1 := fun _ => Bool) e h f) (fun _ => false)
theorem cName_inv {e : Expr} {f : Str → Pos → Bool} (h : cName e f = true) : ∃ (y : Str) (p : Pos), e = .Name y p ∧ f y p = true :=
  (dite_inv h).elim fun hc h => Expr.Name.elim (motive_1 := fun e => ∀ hc, Expr.Name.elim (motive_1 := fun _ => Bool) e hc f = true → ∃ (y : Str) (p : Pos), e = .Name y p ∧ f y p = true) e hc (fun v0 v1 _ h => ⟨v0, v1, rfl, h⟩) hc h
noncomputable def cConst (e : Expr) (f : Const → Nat → Pos → Bool) : Bool := dite (e.ctorIdx = 19) (fun h => Expr.Constant.elim (motive_1 := fun _ => Bool) e h f) (fun _ => false)
theorem cConst_inv {e : Expr} {f : Const → Nat → Pos → Bool} (h : cConst e f = true) : ∃ (c : Const) (n : Nat) (p : Pos), e = .Constant c n p ∧ f c n p = true :=
  (dite_inv h).elim fun hc h => Expr.Constant.elim (motive_1 := fun e => ∀ hc, Expr.Constant.elim (motive_1 := fun _ => Bool) e hc f = true → ∃ (c : Const) (n : Nat) (p : Pos), e = .Constant c n p ∧ f c n p = true) e hc (fun v0 v1 v2 _ h => ⟨v0, v1, v2, rfl, h⟩) hc h
noncomputable def cBin (e : Expr) (f : Expr → Operator → Expr → Pos → Bool) : Bool := dite (e.ctorIdx = 2) (fun h => Expr.BinOp.elim (motive_1 := fun _ => Bool) e h f) (fun _ => false)
theorem cBin_inv {e : Expr} {f : Expr → Operator → Expr → Pos → Bool} (h : cBin e f = true) : ∃ (l : Expr) (o : Operator) (r : Expr) (p : Pos), e = .BinOp l o r p ∧ f l o r p = true :=
  (dite_inv h).elim fun hc h => Expr.BinOp.elim (motive_1 := fun e => ∀ hc, Expr.BinOp.elim (motive_1 := fun _ => Bool) e hc f = true → ∃ (l : Expr) (o : Operator) (r : Expr) (p : Pos), e = .BinOp l o r p ∧ f l o r p = true) e hc (fun v0 v1 v2 v3 _ h => ⟨v0, v1, v2, v3, rfl, h⟩) hc h
noncomputable def cBool (e : Expr) (f : BoolOp → List Expr → Pos → Bool) : Bool := dite (e.ctorIdx = 0) (fun h => Expr.BoolOp.elim (motive_1 := fun _ => Bool) e h f) (fun _ => false)
theorem cBool_inv {e : Expr} {f : BoolOp → List Expr → Pos → Bool} (h : cBool e f = true) : ∃ (o : BoolOp) (vs : List Expr) (p : Pos), e = .BoolOp o vs p ∧ f o vs p = true :=
  (dite_inv h).elim fun hc h => Expr.BoolOp.elim (motive_1 := fun e => ∀ hc, Expr.BoolOp.elim (motive_1 := fun _ => Bool) e hc f = true → ∃ (o : BoolOp) (vs : List Expr) (p : Pos), e = .BoolOp o vs p ∧ f o vs p = true) e hc (fun v0 v1 v2 _ h => ⟨v0, v1, v2, rfl, h⟩) hc h
noncomputable def cUn (e : Expr) (f : UnaryOp → Expr → Pos → Bool) : Bool := dite (e.ctorIdx = 3) (fun h => Expr.UnaryOp.elim (motive_1 := fun _ => Bool) e h f) (fun _ => false)
theorem cUn_inv {e : Expr} {f : UnaryOp → Expr → Pos → Bool} (h : cUn e f = true) : ∃ (o : UnaryOp) (x : Expr) (p : Pos), e = .UnaryOp o x p ∧ f o x p = true :=
  (dite_inv h).elim fun hc h => Expr.UnaryOp.elim (motive_1 := fun e => ∀ hc, Expr.UnaryOp.elim (motive_1 := fun _ => Bool) e hc f = true → ∃ (o : UnaryOp) (x : Expr) (p : Pos), e = .UnaryOp o x p ∧ f o x p = true) e hc (fun v0 v1 v2 _ h => ⟨v0, v1, v2, rfl, h⟩) hc h
noncomputable def cTup (e : Expr) (f : List Expr → Nat → Pos → Bool) : Bool := dite (e.ctorIdx = 25) (fun h => Expr.Tuple.elim (motive_1 := fun _ => Bool) e h f) (fun _ => false)
theorem cTup_inv {e : Expr} {f : List Expr → Nat → Pos → Bool} (h : cTup e f = true) : ∃ (vs : List Expr) (n : Nat) (p : Pos), e = .Tuple vs n p ∧ f vs n p = true :=
  (dite_inv h).elim fun hc h => Expr.Tuple.elim (motive_1 := fun e => ∀ hc, Expr.Tuple.elim (motive_1 := fun _ => Bool) e hc f = true → ∃ (vs : List Expr) (n : Nat) (p : Pos), e = .Tuple vs n p ∧ f vs n p = true) e hc (fun v0 v1 v2 _ h => ⟨v0, v1, v2, rfl, h⟩) hc h
noncomputable def cLst (e : Expr) (f : List Expr → Pos → Bool) : Bool := dite (e.ctorIdx = 24) (fun h => Expr.List.elim (motive_1 := fun _ => Bool) e h f) (fun _ => false)
theorem cLst_inv {e : Expr} {f : List Expr → Pos → Bool} (h : cLst e f = true) : ∃ (vs : List Expr) (p : Pos), e = .List vs p ∧ f vs p = true :=
  (dite_inv h).elim fun hc h => Expr.List.elim (motive_1 := fun e => ∀ hc, Expr.List.elim (motive_1 := fun _ => Bool) e hc f = true → ∃ (vs : List Expr) (p : Pos), e = .List vs p ∧ f vs p = true) e hc (fun v0 v1 _ h => ⟨v0, v1, rfl, h⟩) hc h
noncomputable def cSub (e : Expr) (f : Expr → Expr → Pos → Bool) : Bool := dite (e.ctorIdx = 21) (fun h => Expr.Subscript.elim (motive_1 := fun _ => Bool) e h f) (fun _ => false)
theorem cSub_inv {e : Expr} {f : Expr → Expr → Pos → Bool} (h : cSub e f = true) : ∃ (v : Expr) (s : Expr) (p : Pos), e = .Subscript v s p ∧ f v s p = true :=
  (dite_inv h).elim fun hc h => Expr.Subscript.elim (motive_1 := fun e => ∀ hc, Expr.Subscript.elim (motive_1 := fun _ => Bool) e hc f = true → ∃ (v : Expr) (s : Expr) (p : Pos), e = .Subscript v s p ∧ f v s p = true) e hc (fun v0 v1 v2 _ h => ⟨v0, v1, v2, rfl, h⟩) hc h
noncomputable def cSlice (e : Expr) (f : Option Expr → Option Expr → Option Expr → Pos → Bool) : Bool := dite (e.ctorIdx = 26) (fun h => Expr.Slice.elim (motive_1 := fun _ => Bool) e h f) (fun _ => false)
theorem cSlice_inv {e : Expr} {f : Option Expr → Option Expr → Option Expr → Pos → Bool} (h : cSlice e f = true) : ∃ (l : Option Expr) (u : Option Expr) (t : Option Expr) (p : Pos), e = .Slice l u t p ∧ f l u t p = true :=
  (dite_inv h).elim fun hc h => Expr.Slice.elim (motive_1 := fun e => ∀ hc, Expr.Slice.elim (motive_1 := fun _ => Bool) e hc f = true → ∃ (l : Option Expr) (u : Option Expr) (t : Option Expr) (p : Pos), e = .Slice l u t p ∧ f l u t p = true) e hc (fun v0 v1 v2 v3 _ h => ⟨v0, v1, v2, v3, rfl, h⟩) hc h
noncomputable def cCmp (e : Expr) (f : Expr → List CmpOp → List Expr → Pos → Bool) : Bool := dite (e.ctorIdx = 15) (fun h => Expr.Compare.elim (motive_1 := fun _ => Bool) e h f) (fun _ => false)
theorem cCmp_inv {e : Expr} {f : Expr → List CmpOp → List Expr → Pos → Bool} (h : cCmp e f = true) : ∃ (l : Expr) (os : List CmpOp) (rs : List Expr) (p : Pos), e = .Compare l os rs p ∧ f l os rs p = true :=
  (dite_inv h).elim fun hc h => Expr.Compare.elim (motive_1 := fun e => ∀ hc, Expr.Compare.elim (motive_1 := fun _ => Bool) e hc f = true → ∃ (l : Expr) (os : List CmpOp) (rs : List Expr) (p : Pos), e = .Compare l os rs p ∧ f l os rs p = true) e hc (fun v0 v1 v2 v3 _ h => ⟨v0, v1, v2, v3, rfl, h⟩) hc h
noncomputable def cCall (e : Expr) (f : Expr → List Expr → List Keyword → Pos → Bool) : Bool := dite (e.ctorIdx = 16) (fun h => Expr.Call.elim (motive_1 := fun _ => Bool) e h f) (fun _ => false)
theorem cCall_inv {e : Expr} {f : Expr → List Expr → List Keyword → Pos → Bool} (h : cCall e f = true) : ∃ (g : Expr) (as : List Expr) (ks : List Keyword) (p : Pos), e = .Call g as ks p ∧ f g as ks p = true :=
  (dite_inv h).elim fun hc h => Expr.Call.elim (motive_1 := fun e => ∀ hc, Expr.Call.elim (motive_1 := fun _ => Bool) e hc f = true → ∃ (g : Expr) (as : List Expr) (ks : List Keyword) (p : Pos), e = .Call g as ks p ∧ f g as ks p = true) e hc (fun v0 v1 v2 v3 _ h => ⟨v0, v1, v2, v3, rfl, h⟩) hc h
noncomputable def cLC (e : Expr) (f : Expr → List Comprehension → Scope → Pos → Bool) : Bool := dite (e.ctorIdx = 8) (fun h => Expr.ListComp.elim (motive_1 := fun _ => Bool) e h f) (fun _ => false)
theorem cLC_inv {e : Expr} {f : Expr → List Comprehension → Scope → Pos → Bool} (h : cLC e f = true) : ∃ (t : Expr) (gs : List Comprehension) (sc : Scope) (p : Pos), e = .ListComp t gs sc p ∧ f t gs sc p = true :=
  (dite_inv h).elim fun hc h => Expr.ListComp.elim (motive_1 := fun e => ∀ hc, Expr.ListComp.elim (motive_1 := fun _ => Bool) e hc f = true → ∃ (t : Expr) (gs : List Comprehension) (sc : Scope) (p : Pos), e = .ListComp t gs sc p ∧ f t gs sc p = true) e hc (fun v0 v1 v2 v3 _ h => ⟨v0, v1, v2, v3, rfl, h⟩) hc h
noncomputable def cDict (e : Expr) (f : List (Option Expr) → List Expr → Pos → Bool) : Bool := dite (e.ctorIdx = 6) (fun h => Expr.Dict.elim (motive_1 := fun _ => Bool) e h f) (fun _ => false)
theorem cDict_inv {e : Expr} {f : List (Option Expr) → List Expr → Pos → Bool} (h : cDict e f = true) : ∃ (ks : List (Option Expr)) (vs : List Expr) (p : Pos), e = .Dict ks vs p ∧ f ks vs p = true :=
  (dite_inv h).elim fun hc h => Expr.Dict.elim (motive_1 := fun e => ∀ hc, Expr.Dict.elim (motive_1 := fun _ => Bool) e hc f = true → ∃ (ks : List (Option Expr)) (vs : List Expr) (p : Pos), e = .Dict ks vs p ∧ f ks vs p = true) e hc (fun v0 v1 v2 _ h => ⟨v0, v1, v2, rfl, h⟩) hc h
noncomputable def cAttr (e : Expr) (f : Expr → Str → Pos → Bool) : Bool := dite (e.ctorIdx = 20) (fun h => Expr.Attribute.elim (motive_1 := fun _ => Bool) e h f) (fun _ => false)
theorem cAttr_inv {e : Expr} {f : Expr → Str → Pos → Bool} (h : cAttr e f = true) : ∃ (x : Expr) (a : Str) (p : Pos), e = .Attribute x a p ∧ f x a p = true :=
  (dite_inv h).elim fun hc h => Expr.Attribute.elim (motive_1 := fun e => ∀ hc, Expr.Attribute.elim (motive_1 := fun _ => Bool) e hc f = true → ∃ (x : Expr) (a : Str) (p : Pos), e = .Attribute x a p ∧ f x a p = true) e hc (fun v0 v1 v2 _ h => ⟨v0, v1, v2, rfl, h⟩) hc h
mutual
noncomputable def chkE (k : KD) (e : Expr) (me : ME) : Bool := match me with
  | .var x => cName e fun y _ => y == Str.ofString x && isVar k y
  | .glob x => cName e fun y _ => y == Str.ofString x && isGlob k y
  | .int i => cConst e fun c _ _ => c == .int i
  | .str s => cConst e fun c _ _ => c == .str (Str.ofString s)
  | .bool b => cConst e fun c _ _ => c == .bool b
  | .none => cConst e fun c _ _ => c == .none
  | .bin op a b => cBin e fun l op' r _ => op == op' && chkE k l a && chkE k r b
  | .cmp op a b => cCmp e fun l os rs _ => os == [op] && c1 rs fun r => notSet r && chkE k l a && chkE k r b
  | .bop op es => cBool e fun op' vs _ => op == op' && chkEs k vs es
  | .not a => cUn e fun o x _ => o == .Not && chkE k x a
  | .neg a => cUn e fun o x _ => o == .USub && chkE k x a
  | .tup es => cTup e fun vs _ _ => chkEs k vs es
  | .lst es => cLst e fun vs _ => chkEs k vs es
  | .dct ks vs => cDict e fun kes ves _ => kes.all Option.isSome && chkEs k (kes.filterMap id) ks && chkEs k ves vs
  | .sub a i => cSub e fun v s _ => notSlice s && chkE k v a && chkE k s i
  | .sl a lo hi => cSub e fun v s _ => cSlice s fun l u t _ => t.isNone && chkE k v a && (match l with | Option.none => lo.isNone | some x => chkE k x lo) && (match u with | Option.none => hi.isNone | some x => chkE k x hi)
  | .comp elt x src cs => cLC e fun t gs scope _ => c1 gs fun g => g.is_async == 0 && cName g.target fun y _ => y == Str.ofString x && notSet g.iter && okScope k scope y && chkE k g.iter src && chkE (kindC k scope) t elt && chkEs (kindC k scope) g.ifs cs
  | .call f args => cCall e fun g as ks _ => ks.isEmpty && cName g fun g _ => g == Str.ofString f && isGlob k g && chkEs k as args
  | .isi a T => cCall e fun g as ks _ => ks.isEmpty && c2 as fun x t => cName g fun g _ => cName t fun t _ => g == Str.ofString "isinstance" && isGlob k g && t == Str.ofString T && isGlob k t && chkE k x a
  | .blt f args => cCall e fun g as ks _ => ks.isEmpty && cName g fun g _ => g == Str.ofString f && isGlob k g && chkEs k as args
  | .lcp a => cCall e fun g as ks _ => ks.isEmpty && cName g fun g _ => g == Str.ofString "list" && isGlob k g && c1 as fun x => chkE k x a
termination_by structural me
noncomputable def chkEs (k : KD) (es : List Expr) (ms : List ME) : Bool := match ms with
  | [] => es.isEmpty
  | a :: r => (match es with | e :: es' => chkE k e a && chkEs k es' r | [] => false)
termination_by structural ms
end

theorem cs_nil (k : KD) (es : List Expr) : chkEs k es [] = es.isEmpty := rfl
theorem cs_cons (k : KD) (e : Expr) (es : List Expr) (a : ME) (r : List ME) : chkEs k (e :: es) (a :: r) = (chkE k e a && chkEs k es r) := rfl
theorem cs_consn (k : KD) (a : ME) (r : List ME) : chkEs k [] (a :: r) = false := rfl

noncomputable def shapeE : Expr → Nat
  | .Name .. => 1
  | .Constant .. => 2
  | .BinOp .. => 3
  | .Compare .. => 4
  | .BoolOp .. => 5
  | .UnaryOp .. => 6
  | .Tuple .. => 7
  | .List .. => 8
  | .Subscript .. => 9
  | .ListComp .. => 10
  | .Call .. => 11
  | .Dict .. => 12
  | _ => 0
noncomputable def shapeM : ME → Nat
  | .var _ | .glob _ => 1
  | .int _ | .str _ | .bool _ | .none => 2
  | .bin _ _ _ => 3
  | .cmp _ _ _ => 4
  | .bop _ _ => 5
  | .not _ | .neg _ => 6
  | .tup _ => 7
  | .lst _ => 8
  | .sub _ _ | .sl _ _ _ => 9
  | .comp _ _ _ _ => 10
  | .call _ _ | .isi _ _ | .blt _ _ | .lcp _ => 11
  | .dct _ _ => 12
section
variable {k : KD} {e : Expr}
theorem inv_var {x : String} (h : chkE k e (.var x) = true) : ∃ y p, e = .Name y p ∧ (y == Str.ofString x && isVar k y) = true := by
  exact cName_inv h
theorem inv_glob {x : String} (h : chkE k e (.glob x) = true) : ∃ y p, e = .Name y p ∧ (y == Str.ofString x && isGlob k y) = true := by
  exact cName_inv h
theorem inv_int {i : Int} (h : chkE k e (.int i) = true) : ∃ n p, e = .Constant (.int i) n p := by
  replace h := cConst_inv h; obtain ⟨c, n, p, rfl, h⟩ := h; exact ⟨n, p, by rw [eq_of_beq h]⟩
theorem inv_str {i : String} (h : chkE k e (.str i) = true) : ∃ n p, e = .Constant (.str (Str.ofString i)) n p := by
  replace h := cConst_inv h; obtain ⟨c, n, p, rfl, h⟩ := h; exact ⟨n, p, by rw [eq_of_beq h]⟩
theorem inv_bool {i : Bool} (h : chkE k e (.bool i) = true) : ∃ n p, e = .Constant (.bool i) n p := by
  replace h := cConst_inv h; obtain ⟨c, n, p, rfl, h⟩ := h; exact ⟨n, p, by rw [eq_of_beq h]⟩
theorem inv_none (h : chkE k e .none = true) : ∃ n p, e = .Constant .none n p := by
  replace h := cConst_inv h; obtain ⟨c, n, p, rfl, h⟩ := h; exact ⟨n, p, by rw [eq_of_beq h]⟩
theorem inv_bin {op : Operator} {a b : ME} (h : chkE k e (.bin op a b) = true) : ∃ l op' r p, e = .BinOp l op' r p ∧ (op == op' && chkE k l a && chkE k r b) = true := by
  exact cBin_inv h
theorem inv_cmp {op : CmpOp} {a b : ME} (h : chkE k e (.cmp op a b) = true) : ∃ l r p, e = .Compare l [op] [r] p ∧ (notSet r && chkE k l a && chkE k r b) = true := by
  replace h := cCmp_inv h; obtain ⟨l, os, rs, p, rfl, h⟩ := h
  rw [Bool.and_eq_true] at h
  obtain ⟨h1, h⟩ := h
  replace h := c1_inv h; obtain ⟨r, rfl, h⟩ := h
  exact ⟨l, r, p, by rw [eq_of_beq h1], h⟩
theorem inv_bop {op : BoolOp} {es : List ME} (h : chkE k e (.bop op es) = true) : ∃ op' vs p, e = .BoolOp op' vs p ∧ (op == op' && chkEs k vs es) = true := by
  exact cBool_inv h
theorem inv_not {a : ME} (h : chkE k e (.not a) = true) : ∃ x p, e = .UnaryOp .Not x p ∧ chkE k x a = true := by
  replace h := cUn_inv h; obtain ⟨o, x, p, rfl, h⟩ := h
  rw [Bool.and_eq_true] at h
  exact ⟨x, p, by rw [eq_of_beq h.1], h.2⟩
theorem inv_neg {a : ME} (h : chkE k e (.neg a) = true) : ∃ x p, e = .UnaryOp .USub x p ∧ chkE k x a = true := by
  replace h := cUn_inv h; obtain ⟨o, x, p, rfl, h⟩ := h
  rw [Bool.and_eq_true] at h
  exact ⟨x, p, by rw [eq_of_beq h.1], h.2⟩
theorem inv_tup {es : List ME} (h : chkE k e (.tup es) = true) : ∃ vs n p, e = .Tuple vs n p ∧ chkEs k vs es = true := by
  exact cTup_inv h
theorem inv_lst {es : List ME} (h : chkE k e (.lst es) = true) : ∃ vs p, e = .List vs p ∧ chkEs k vs es = true := by
  exact cLst_inv h
theorem somes : ∀ {l : List (Option Expr)}, l.all Option.isSome = true → l = (l.filterMap id).map some
  | [], _ => rfl
  | none :: l, h => by simp at h
  | some x :: l, h => by simp at h; simp; exact somes (by simpa using h)
theorem inv_dct {ks vs : List ME} (h : chkE k e (.dct ks vs) = true) : ∃ kes ves p, e = .Dict (kes.map some) ves p ∧ chkEs k kes ks = true ∧ chkEs k ves vs = true := by
  replace h := cDict_inv h; obtain ⟨kes, ves, p, rfl, h⟩ := h
  rw [Bool.and_assoc, Bool.and_eq_true, Bool.and_eq_true] at h
  exact ⟨kes.filterMap id, ves, p, by rw [← somes h.1], h.2.1, h.2.2⟩
theorem notSlice_inv {s : Expr} (h : notSlice s = true) : ∀ a b c p, s = .Slice a b c p → False := by
  rintro a b c p rfl; cases h
theorem inv_sub {a i : ME} (h : chkE k e (.sub a i) = true) : ∃ v s p, e = .Subscript v s p ∧ (∀ a b c p, s = .Slice a b c p → False) ∧ (chkE k v a && chkE k s i) = true := by
  replace h := cSub_inv h; obtain ⟨v, s, p, rfl, h⟩ := h
  rw [Bool.and_assoc, Bool.and_eq_true] at h
  exact ⟨v, s, p, rfl, notSlice_inv h.1, h.2⟩
theorem inv_sl {a lo hi : ME} (h : chkE k e (.sl a lo hi) = true) : ∃ v l u p pos, e = .Subscript v (.Slice l u Option.none p) pos ∧ (chkE k v a && (match l with | Option.none => lo.isNone | some x => chkE k x lo) && (match u with | Option.none => hi.isNone | some x => chkE k x hi)) = true := by
  replace h := cSub_inv h; obtain ⟨v, s, p, rfl, h⟩ := h
  replace h := cSlice_inv h; obtain ⟨l, u, t, p, rfl, h⟩ := h
  rw [Bool.and_assoc, Bool.and_assoc, Bool.and_eq_true] at h
  exact ⟨v, l, u, p, _, by rw [Option.isNone_iff_eq_none.mp h.1], by rw [Bool.and_assoc]; exact h.2⟩
theorem inv_comp {elt src : ME} {x : String} {cs : List ME} (h : chkE k e (.comp elt x src cs) = true) : ∃ t y py it ifs scope lp, e = .ListComp t [⟨.Name y py, it, ifs, 0⟩] scope lp ∧ (y == Str.ofString x && notSet it && okScope k scope y && chkE k it src && chkE (kindC k scope) t elt && chkEs (kindC k scope) ifs cs) = true := by
  replace h := cLC_inv h; obtain ⟨t, gs, scope, p, rfl, h⟩ := h
  replace h := c1_inv h; obtain ⟨⟨tg, it, ifs, z⟩, rfl, h⟩ := h
  rw [Bool.and_eq_true] at h
  obtain ⟨h1, h⟩ := h
  obtain ⟨y, py, h2, h⟩ := cName_inv h
  have h1 : z = 0 := eq_of_beq h1
  have h2 : tg = _ := h2
  subst h1 h2
  exact ⟨t, y, py, it, ifs, scope, p, rfl, h⟩
theorem inv_call {f : String} {args : List ME} (h : chkE k e (.call f args) = true) : ∃ g gp as pos, e = .Call (.Name g gp) as [] pos ∧ (g == Str.ofString f && isGlob k g && chkEs k as args) = true := by
  replace h := cCall_inv h; obtain ⟨g, as, ks, p, rfl, h⟩ := h
  rw [Bool.and_eq_true] at h
  obtain ⟨h1, h⟩ := h
  replace h := cName_inv h; obtain ⟨y, py, rfl, h⟩ := h
  exact ⟨y, py, as, p, by rw [List.isEmpty_iff.mp h1], h⟩
theorem inv_blt {f : String} {args : List ME} (h : chkE k e (.blt f args) = true) : ∃ g gp as pos, e = .Call (.Name g gp) as [] pos ∧ (g == Str.ofString f && isGlob k g && chkEs k as args) = true := by
  exact inv_call h
theorem inv_lcp {a : ME} (h : chkE k e (.lcp a) = true) : ∃ g gp x pos, e = .Call (.Name g gp) [x] [] pos ∧ (g == Str.ofString "list" && isGlob k g) = true ∧ chkE k x a = true := by
  replace h := cCall_inv h; obtain ⟨g, as, ks, p, rfl, h⟩ := h
  rw [Bool.and_eq_true] at h
  obtain ⟨h1, h⟩ := h
  replace h := cName_inv h; obtain ⟨y, py, rfl, h⟩ := h
  rw [Bool.and_eq_true] at h
  obtain ⟨h2, h⟩ := h
  replace h := c1_inv h; obtain ⟨x, rfl, h⟩ := h
  exact ⟨y, py, x, p, by rw [List.isEmpty_iff.mp h1], h2, h⟩
theorem inv_isi {a : ME} {T : String} (h : chkE k e (.isi a T) = true) : ∃ g gp x t tp pos, e = .Call (.Name g gp) [x, .Name t tp] [] pos ∧ (g == Str.ofString "isinstance" && isGlob k g && t == Str.ofString T && isGlob k t && chkE k x a) = true := by
  replace h := cCall_inv h; obtain ⟨g, as, ks, p, rfl, h⟩ := h
  rw [Bool.and_eq_true] at h
  obtain ⟨h1, h⟩ := h
  replace h := c2_inv h; obtain ⟨x, t, rfl, h⟩ := h
  replace h := cName_inv h; obtain ⟨y, py, rfl, h⟩ := h
  replace h := cName_inv h; obtain ⟨z, pz, rfl, h⟩ := h
  exact ⟨y, py, x, z, pz, p, by rw [List.isEmpty_iff.mp h1], h⟩
theorem chk_shape {me : ME} (h : chkE k e me = true) : shapeE e = shapeM me := by
  cases me with
  | var => obtain ⟨_, _, rfl, _⟩ := inv_var h; rfl
  | glob => obtain ⟨_, _, rfl, _⟩ := inv_glob h; rfl
  | int => replace h := inv_int h; obtain ⟨_, _, rfl⟩ := h; rfl
  | str => replace h := inv_str h; obtain ⟨_, _, rfl⟩ := h; rfl
  | bool => replace h := inv_bool h; obtain ⟨_, _, rfl⟩ := h; rfl
  | none => replace h := inv_none h; obtain ⟨_, _, rfl⟩ := h; rfl
  | bin => obtain ⟨_, _, _, _, rfl, _⟩ := inv_bin h; rfl
  | cmp => obtain ⟨_, _, _, rfl, _⟩ := inv_cmp h; rfl
  | bop => obtain ⟨_, _, _, rfl, _⟩ := inv_bop h; rfl
  | not => obtain ⟨_, _, rfl, _⟩ := inv_not h; rfl
  | neg => obtain ⟨_, _, rfl, _⟩ := inv_neg h; rfl
  | tup => obtain ⟨_, _, _, rfl, _⟩ := inv_tup h; rfl
  | lst => obtain ⟨_, _, rfl, _⟩ := inv_lst h; rfl
  | dct => obtain ⟨_, _, _, rfl, _⟩ := inv_dct h; rfl
  | sub => obtain ⟨_, _, _, rfl, _⟩ := inv_sub h; rfl
  | sl => obtain ⟨_, _, _, _, _, rfl, _⟩ := inv_sl h; rfl
  | comp => obtain ⟨_, _, _, _, _, _, _, rfl, _⟩ := inv_comp h; rfl
  | call => obtain ⟨_, _, _, _, rfl, _⟩ := inv_call h; rfl
  | blt => obtain ⟨_, _, _, _, rfl, _⟩ := inv_blt h; rfl
  | isi => obtain ⟨_, _, _, _, _, _, rfl, _⟩ := inv_isi h; rfl
  | lcp => obtain ⟨_, _, _, _, rfl, _⟩ := inv_lcp h; rfl
end
end Mine
namespace Mine
open PySem

noncomputable def Ex (h : Heap) (H : Addr → Prop) : Prop := ∀ a, H a → ∃ b o, @LE.le Nat _ a b ∧ h.get? b = some o
theorem Ex.fresh {h : Heap} {H : Addr → Prop} (x : Ex h H) : ¬ H h.objs.size := fun e => by
  obtain ⟨b, o, hb, ho⟩ := x _ e
  exact Nat.lt_irrefl _ (Nat.lt_of_le_of_lt hb (Heap.lt_size ho))
theorem Ex.keeps {h h' : Heap} {H : Addr → Prop} (x : Ex h H) (hk : ∀ a o, h.get? a = some o → h'.get? a = some o) : Ex h' H := fun a e => by
  obtain ⟨b, o, hb, ho⟩ := x _ e
  exact ⟨b, o, hb, hk _ _ ho⟩

theorem Kp.refl (s : Shared) : Keeps s s := ⟨s.heap, s.toks, rfl, fun _ _ e => e⟩
theorem Kp.tok (s : Shared) (t : Nat) : Keeps s { s with toks := t } := ⟨s.heap, t, rfl, fun _ _ e => e⟩
theorem Kp.push (s : Shared) (o : Obj) : Keeps s { s with heap := s.heap.push o } := ⟨_, s.toks, rfl, fun _ _ e => Heap.get?_push_of_some _ e⟩
theorem Kp.trans {s s' s'' : Shared} (a : Keeps s s') (b : Keeps s' s'') : Keeps s s'' := by
  obtain ⟨h', t', rfl, k'⟩ := a
  obtain ⟨h'', t'', rfl, k''⟩ := b
  exact ⟨h'', t'', rfl, fun x o e => k'' x o (k' x o e)⟩
theorem Kp.heap {s s' : Shared} (a : Keeps s s') : ∀ b o, s.heap.get? b = some o → s'.heap.get? b = some o := by
  obtain ⟨h', t', rfl, k'⟩ := a
  exact k'

/-- what an expression's run leaves -/
noncomputable def Post (w : World) (s : Shared) (H : Addr → Prop) (d : D) (v : Value) (s' : Shared) : Prop := Keeps s s' ∧ Rep w.params s'.heap H v d

/-- the list at a, its items outside of H and of a itself -/
noncomputable def OwnL (P : Params) (h : Heap) (H : Addr → Prop) (a : Addr) (ds : List D) : Prop :=
  ∃ vs n, h.get? a = some (lstO vs n) ∧ ds.length ≤ big ∧ RepAll P h (fun b => H b ∨ b = a) vs.toList ds
theorem OwnL.rep {P : Params} {h : Heap} {H : Addr → Prop} {a : Addr} {ds : List D} (o : OwnL P h H a ds) (hn : ¬ H a) : Rep P h H (.ref a) (.list ds) := by
  obtain ⟨vs, n, h1, h2, h3⟩ := o
  exact .list h1 hn h2 (h3.mono (fun _ _ _ e => e) fun _ _ _ q => .inl q)

/-- the dict at a, its keys and values outside of H and of a itself -/
noncomputable def OwnM (P : Params) (h : Heap) (H : Addr → Prop) (a : Addr) (ks vs : List D) : Prop :=
  ∃ es n, h.get? a = some (dicO es n) ∧ ks.length ≤ big ∧ RepAll P h (fun b => H b ∨ b = a) (es.toList.map (·.key)) ks ∧ RepAll P h (fun b => H b ∨ b = a) (es.toList.map (·.val)) vs ∧ es.toList.map (·.hash) = ks.map (hashK P) ∧ ks.all D.isKey = true ∧ ks.Nodup ∧ (a == sysModules) = false
/-- a new list or dict that nothing else holds -/
noncomputable def OwnD (P : Params) (h : Heap) (H : Addr → Prop) (a : Addr) : D → Prop
  | .list ds => OwnL P h H a ds
  | .dict ks vs => OwnM P h H a ks vs
  | _ => False
theorem OwnD.rep {P : Params} {h : Heap} {H : Addr → Prop} {a : Addr} {d : D} (o : OwnD P h H a d) (hn : ¬ H a) : Rep P h H (.ref a) d := by
  cases d <;> first | exact OwnL.rep o hn | exact False.elim o | skip
  obtain ⟨es, n, h1, h2, h3, h4, h5, h6, h7, h8⟩ := o
  exact .dict h1 hn h2 (h3.mono (fun _ _ _ e => e) fun _ _ _ q => .inl q) (h4.mono (fun _ _ _ e => e) fun _ _ _ q => .inl q) h5 h6 h7 h8
theorem OwnD.ex {P : Params} {h : Heap} {H : Addr → Prop} {a : Addr} {d : D} (o : OwnD P h H a d) : ∃ o, h.get? a = some o := by
  cases d <;> first | exact False.elim o | (obtain ⟨_, _, e, _⟩ := o; exact ⟨_, e⟩)
theorem OwnD.scalar {P : Params} {h : Heap} {H : Addr → Prop} {a : Addr} {d : D} (o : OwnD P h H a d) : d.scalar = false := by
  cases d <;> first | rfl | exact False.elim o
noncomputable def Fresh (w : World) (s s' : Shared) (H : Addr → Prop) (v : Value) (d : D) : Prop := ∃ a, v = .ref a ∧ s.heap.get? a = none ∧ OwnD w.params s'.heap H a d
noncomputable def PostF (w : World) (s : Shared) (H : Addr → Prop) (d : D) (fr : Bool) (v : Value) (s' : Shared) : Prop := Keeps s s' ∧ Rep w.params s'.heap H v d ∧ (fr = true → Fresh w s s' H v d)

theorem PostF.after {w : World} {s s₁ s₂ : Shared} {H : Addr → Prop} {d : D} {fr : Bool} {v : Value} (k : Keeps s s₁) (q : PostF w s₁ H d fr v s₂) : PostF w s H d fr v s₂ := by
  refine ⟨Kp.trans k q.1, q.2.1, fun e => ?_⟩
  obtain ⟨a, h1, h2, h3⟩ := q.2.2 e
  refine ⟨a, h1, ?_, h3⟩
  cases e : s.heap.get? a with
  | none => rfl
  | some o => rw [Kp.heap k a o e] at h2; cases h2
theorem Post.plain {w : World} {s s₂ : Shared} {H : Addr → Prop} {d : D} {v : Value} (q : Post w s H d v s₂) (h : d.isList = false) : PostF w s H d d.isList v s₂ :=
  ⟨q.1, q.2, fun e => by rw [h] at e; cases e⟩
theorem post_newList {w : World} {s : Shared} {H : Addr → Prop} {vs : Array Value} {ds : List D} {h' : Heap} {n tk : Nat} (hH : Ex s.heap H) (hl : ds.length ≤ big) (hr : RepAll w.params s.heap H vs.toList ds) (hk : ∀ b o, s.heap.get? b = some o → h'.get? b = some o)
    (ho : h'.get? s.heap.objs.size = some (lstO vs n)) : PostF w s H (.list ds) true (.ref s.heap.objs.size) { s with heap := h', toks := tk } := by
  have own : OwnL w.params h' H s.heap.objs.size ds := ⟨vs, n, ho, hl, hr.mono (fun a o _ e => hk a o e) fun a o e q => q.elim id fun q => absurd (Heap.lt_size e) (q ▸ Nat.lt_irrefl _)⟩
  refine ⟨⟨h', tk, rfl, hk⟩, own.rep hH.fresh, fun _ => ⟨_, rfl, ?_, own⟩⟩
  cases e : s.heap.get? s.heap.objs.size with
  | none => rfl
  | some o => exact absurd (Heap.lt_size e) (Nat.lt_irrefl _)

section
variable {prog : Program} {w : World} {A : Around} {E : Value → Shared → Prop} {s : Shared} {H : Addr → Prop}

theorem bits_le {a : Int} (h : -lim < a ∧ a < lim) : Builtin.Int.intBits a ≤ 64 := by
  unfold Builtin.Int.intBits
  split
  · omega
  · have h2 : a.natAbs < 2 ^ 64 := by unfold lim at h; omega
    have h3 : a.natAbs ≠ 0 := by intro e; rename_i hh; apply hh; simp; omega
    have := (Nat.log2_lt h3).mpr h2
    omega
theorem bits_le1000 {a : Int} (h : -powLim < a ∧ a < powLim) : Builtin.Int.intBits a ≤ 1000 := by
  unfold powLim at h
  unfold Builtin.Int.intBits
  split
  · omega
  · rename_i hh
    have h3 : a.natAbs ≠ 0 := by intro e; apply hh; simp; omega
    have h2 : a.natAbs < 2 ^ 1000 := by
      have e : ((2 ^ 1000 : Nat) : Int) = (2 : Int) ^ 1000 := by exact Int.natCast_pow 2 1000
      generalize (2 : Int) ^ 1000 = p at h e
      omega
    have := (Nat.log2_lt h3).mpr h2
    omega

theorem rep_newTup {vs : Array Value} {ds : List D} (hH : Ex s.heap H) (hl : ds.length ≤ big) (hr : RepAll w.params s.heap H vs.toList ds) :
    Rep w.params (s.heap.push (tupO vs 0)) H (.ref s.heap.objs.size) (.tup ds) :=
  .tup (Heap.get?_push_size _ rfl) hH.fresh hl (hr.keeps fun _ _ e => Heap.get?_push_of_some _ e)

theorem binI_snd {op : Operator} {i j : Int} {t u : Tok} {d : D} (he : binI op i j = some d) : wpAny (model prog w) A (binaryOp op (.int i t) (.int j u)) (Post w s H d) E s := by
  cases op <;> simp only [binI] at he <;> first | (cases he; done) | skip
  · cases he; exact PyProof.Rows.add_int ⟨Kp.tok _ _, .int _ _⟩
  · cases he; exact PyProof.Rows.sub_int ⟨Kp.tok _ _, .int _ _⟩
  · split at he
    · rename_i hc; cases he
      exact PyProof.Rows.mul_int ⟨Kp.tok _ _, .int _ _⟩ (hc.elim (fun h => .of_left (bits_le h)) fun h => .of_right (bits_le h))
    · cases he
  · split at he
    · rename_i hc; cases he
      refine PyProof.Rows.mod_int (by omega) ?_
      rw [Int.fmod_eq_emod_of_nonneg _ (by omega)]
      exact ⟨Kp.tok _ _, .int _ _⟩
    · cases he
  · split at he
    · rename_i hc; cases he
      obtain ⟨h1, h2, h3, h4⟩ := hc
      refine PyProof.Rows.pow_int h3 ?_ ⟨Kp.tok _ _, .int _ _⟩
      have hb := bits_le1000 ⟨h1, h2⟩
      have : (Builtin.Int.intBits i : Int) * j ≤ 1000 * 100 := Int.mul_le_mul (by omega) h4 h3 (by decide)
      exact Int.le_trans this (by decide)
    · cases he
  · split at he
    · rename_i hc; cases he
      refine PyProof.Rows.floordiv_int (by omega) ?_ (.inl (PyProof.noPylong_of_log2 ?_))
      · rw [Int.fdiv_eq_ediv_of_nonneg _ (by omega)]
        exact ⟨Kp.tok _ _, .int _ _⟩
      · have : j.natAbs < 2 ^ 64 := by unfold lim at hc; omega
        have h3 : j.natAbs ≠ 0 := by omega
        have := (Nat.log2_lt h3).mpr this
        omega
    · cases he
theorem binS_snd {op : Operator} {x : Str} {t : Tok} {y : Value} {b d : D} (hy : Rep w.params s.heap H y b) (he : binS op x b = some d) : wpAny (model prog w) A (binaryOp op (.str x t) y) (Post w s H d) E s := by
  cases op <;> simp only [binS] at he <;> first | (cases he; done) | skip
  · cases hy <;> simp only at he <;> first | (cases he; done) | skip
    split at he
    · rename_i hc; cases he
      exact PyProof.Rows.add_str (fun t' tk => ⟨Kp.tok _ _, .str _ _⟩) (by exact hc)
    · cases he
  · cases hy <;> simp only at he <;> first | (cases he; done) | skip
    rename_i n u
    split at he
    · rename_i hc; cases he
      obtain ⟨h0, h1, h2⟩ := hc
      refine SB.mul ⟨by simp; omega, fun g1 _ => ?_, fun g1 _ => ?_⟩ fun t' k => ⟨Kp.tok _ _, .str _ _⟩
      · have : (1000 : Int) ≤ (2 ^ 63 - 1) / n := by
          rw [Int.le_ediv_iff_mul_le (by omega)]; omega
        omega
      · have : x.length * n.toNat ≤ 1000 * 1000 := Nat.mul_le_mul h2 (by omega)
        show decide (_ > sizeLine) = false
        simp only [decide_eq_false_iff_not]
        have e : (1000 * 1000 : Nat) < sizeLine := by decide
        omega
    · cases he
theorem binL_snd {op : Operator} {x y : Value} {as : List D} {b d : D} (hx : Rep w.params s.heap H x (.list as)) (hy : Rep w.params s.heap H y b) (hH : Ex s.heap H) (he : binL op as b = some d) :
    wpAny (model prog w) A (binaryOp op x y) (PostF w s H d d.isList) E s := by
  cases op <;> simp only [binL] at he <;> first | (cases he; done) | skip
  cases hx with
  | list ho1 hn1 hl1 hr1 =>
    cases hy <;> simp only at he <;> first | (cases he; done) | skip
    rename_i ho2 hn2 hl2 hr2
    split at he
    · rename_i hc; cases he
      have e1 := hr1.length
      have e2 := hr2.length
      simp only [Array.length_toList] at e1 e2
      refine P.add_list ho1 ho2 (post_newList hH (by simpa using hc) (by simpa using hr1.append hr2) (fun _ _ e => Heap.get?_push_of_some _ e) (Heap.get?_push_size _ rfl)) (by rw [e1, e2]; exact hc)
    · cases he
theorem nil_of_size {P : Params} {h : Heap} {vs : Array Value} {ds : List D} (r : RepAll P h H vs.toList ds) (hv : vs.isEmpty = true) : ds = [] := by
  have e := r.length
  cases ds with
  | nil => rfl
  | cons _ _ => simp at hv; subst hv; simp at e
theorem binT_snd {op : Operator} {x y : Value} {as : List D} {b d : D} (hx : Rep w.params s.heap H x (.tup as)) (hy : Rep w.params s.heap H y b) (hH : Ex s.heap H) (he : binT op as b = some d) :
    wpAny (model prog w) A (binaryOp op x y) (Post w s H d) E s := by
  cases op <;> simp only [binT] at he <;> first | (cases he; done) | skip
  cases hx with
  | @tup a1 v1 n1 _ ho1 hn1 hl1 hr1 =>
    cases hy <;> simp only at he <;> first | (cases he; done) | skip
    rename_i a2 v2 n2 _ ho2 hn2 hl2 hr2
    split at he
    · rename_i hc; cases he
      have e1 := hr1.length
      have e2 := hr2.length
      simp only [Array.length_toList] at e1 e2
      by_cases hv : v1.isEmpty = true
      · refine concat_meets ⟨_, ho1, rfl⟩ ⟨_, ho2, rfl⟩ noFill_tuple_add seq_tuple_add PySem.F.slot_tuple_add PySem.F.entry_tuple_add (PySem.F.args_tuple_add_2 _ _) (AutoSeq1.tuple___add___tuple_tuple_0 _ _ _ _ _ _ hv) ⟨ho1, ho2, Kp.refl _, ?_⟩
        rw [nil_of_size hr1 hv]
        exact .tup ho2 hn2 hl2 hr2
      · by_cases hv2 : v2.isEmpty = true
        · refine concat_meets ⟨_, ho1, rfl⟩ ⟨_, ho2, rfl⟩ noFill_tuple_add seq_tuple_add PySem.F.slot_tuple_add PySem.F.entry_tuple_add (PySem.F.args_tuple_add_2 _ _) (AutoSeq1.tuple___add___tuple_tuple_1 _ _ _ _ _ _ hv hv2) ⟨ho1, ho2, Kp.refl _, ?_⟩
          rw [nil_of_size hr2 hv2, List.append_nil]
          exact .tup ho1 hn1 hl1 hr1
        · refine P.add_tuple ho1 ho2 hv hv2 ⟨Kp.push _ _, ?_⟩ (by rw [e1, e2]; exact hc)
          refine rep_newTup hH (by simpa using hc) ?_
          simpa using hr1.append hr2
    · cases he
theorem binI_plain {op : Operator} {i j : Int} {d : D} (he : binI op i j = some d) : d.isList = false := by
  cases op <;> simp only [binI] at he <;> (try split at he) <;> cases he <;> rfl
theorem binS_plain {op : Operator} {x : Str} {b d : D} (he : binS op x b = some d) : d.isList = false := by
  cases op <;> simp only [binS] at he <;> first | (cases he; done) | (cases b <;> simp only at he <;> first | (cases he; done) | (split at he <;> cases he <;> rfl))
theorem binT_plain {op : Operator} {x : List D} {b d : D} (he : binT op x b = some d) : d.isList = false := by
  cases op <;> simp only [binT] at he <;> first | (cases he; done) | (cases b <;> simp only at he <;> first | (cases he; done) | (split at he <;> cases he <;> rfl))
theorem bin_snd {op : Operator} {x y : Value} {a b d : D} (hx : Rep w.params s.heap H x a) (hy : Rep w.params s.heap H y b) (hH : Ex s.heap H) (he : binD op a b = some d) :
    wpAny (model prog w) A (binaryOp op x y) (PostF w s H d d.isList) E s := by
  cases a <;> simp only [binD] at he <;> first | (cases he; done) | skip
  · cases hx
    cases hy <;> simp only at he <;> first | (cases he; done) | skip
    exact wpAny_mono (binI_snd he) (fun _ _ q => q.plain (binI_plain he)) fun _ _ e => e
  · cases hx
    exact wpAny_mono (binS_snd hy he) (fun _ _ q => q.plain (binS_plain he)) fun _ _ e => e
  · exact wpAny_mono (binT_snd hx hy hH he) (fun _ _ q => q.plain (binT_plain he)) fun _ _ e => e
  · exact binL_snd hx hy hH he
end
end Mine
namespace Mine
open PySem PySem.SeqAt

section
variable {prog : Program} {w : World} {A : Around} {E : Value → Shared → Prop} {s : Shared} {H H' : Addr → Prop}

theorem eqS_snd {P : Params} {h : Heap} {x y : Value} {a b : D} {k : Bool} (hx : Rep P h H x a) (hy : Rep P h H' y b) (he : eqS a b = some k) :
    (∀ A s, EqAt A s x y k) ∧ (∀ A s, RcAt A s x y k) ∧ (∀ A s, RcNeAt A s x y (!k)) := by
  cases hx <;> simp only [eqS] at he <;> first | (cases he; done) | skip
  all_goals cases hy <;> simp only at he <;> first | (cases he; done) | skip
  · cases he; exact ⟨fun A s => EqAt.bool_bool _ _, fun A s => RcAt.bool_bool _ _, fun A s => RcNeAt.bool_bool _ _⟩
  · cases he; exact ⟨fun A s => EqAt.int_int _ _ _ _, fun A s => RcAt.int_int _ _ _ _, fun A s => RcNeAt.int_int _ _ _ _⟩
  · cases he; exact ⟨fun A s => EqAt.int_str _ _ _ _, fun A s => RcAt.int_str _ _ _ _, fun A s => RcNeAt.int_str _ _ _ _⟩
  · cases he; exact ⟨fun A s => EqAt.str_int _ _ _ _, fun A s => RcAt.str_int _ _ _ _, fun A s => RcNeAt.str_int _ _ _ _⟩
  · cases he; exact ⟨fun A s => EqAt.str_str _ _ _ _, fun A s => RcAt.str_str _ _ _ _, fun A s => RcNeAt.str_str _ _ _ _⟩

theorem eqAll_snd {P : Params} {h : Heap} : ∀ {xs ys : List Value} {ds es : List D} {k : Bool}, RepAll P h H xs ds → RepAll P h H' ys es → ds.length = es.length → eqAll ds es = some k →
    ∃ e : Nat → Bool, (List.range ds.length).all e = k ∧ ∀ j (h1 : j < xs.length) (h2 : j < ys.length) A s, EqAt A s xs[j] ys[j] (e j)
  | _, _, _, _, k, .nil, .nil, _, he => ⟨fun _ => true, by simp [eqAll] at he; simpa using he.symm, fun j h1 => absurd h1 (by simp)⟩
  | _, _, _, _, k, .nil, .cons _ _, hl, he => by simp at hl
  | _, _, _, _, k, .cons _ _, .nil, hl, he => by simp at hl
  | _, _, _, _, k, .cons hx hxs, .cons hy hys, hl, he => by
    simp only [eqAll] at he
    split at he
    · rename_i b1 b2 h1 h2
      cases he
      obtain ⟨e, e1, e2⟩ := eqAll_snd hxs hys (by simpa using hl) h2
      refine ⟨fun j => match j with | 0 => b1 | j + 1 => e j, ?_, ?_⟩
      · simp only [List.length_cons, List.range_succ_eq_map, List.all_cons, List.all_map]
        rw [← e1]; rfl
      · intro j h1' h2' A s
        cases j with
        | zero => exact (eqS_snd hx hy h1).1 A s
        | succ j => exact e2 j (by simpa using h1') (by simpa using h2') A s
    · cases he

theorem isList_of {h : Heap} {a : Addr} {vs : Array Value} {n : Nat} (ho : h.get? a = some (lstO vs n)) : h.IsList a vs := ⟨_, ho, rfl, n, rfl⟩
theorem isTuple_of {h : Heap} {a : Addr} {vs : Array Value} {n : Nat} (ho : h.get? a = some (tupO vs n)) : h.IsTuple a vs := ⟨_, ho, rfl, n, rfl⟩
theorem isTup_of {h : Heap} {a : Addr} {vs : Array Value} {n : Nat} (ho : h.get? a = some (tupO vs n)) : PyProof.Rows.IsTup h a vs := ⟨_, ho, rfl, n, rfl⟩

theorem eqL_snd {l1 l2 : Addr} {v1 v2 : Array Value} {n1 n2 : Nat} {d1 d2 : List D} {k : Bool} (h1 : s.heap.get? l1 = some (lstO v1 n1)) (h2 : s.heap.get? l2 = some (lstO v2 n2)) (r1 : RepAll w.params s.heap H v1.toList d1) (r2 : RepAll w.params s.heap H' v2.toList d2)
    (hu : A.units < cLine) (he : (if d1.length = d2.length then eqAll d1 d2 else some false) = some k) : RcAt A s (.ref l1) (.ref l2) k ∧ RcNeAt A s (.ref l1) (.ref l2) (!k) := by
  have e1 := r1.length
  have e2 := r2.length
  simp only [Array.length_toList] at e1 e2
  split at he
  · rename_i hl
    obtain ⟨e, e3, e4⟩ := eqAll_snd r1 r2 hl he
    subst e3
    rw [← e1]
    have q : ∀ j (q1 : j < v1.size) (q2 : j < v2.size), EqAt A.in1 s v1[j] v2[j] (e j) := fun j q1 q2 => by
      have := e4 j (by simpa using q1) (by simpa using q2) A.in1 s; rwa [Array.getElem_toList, Array.getElem_toList] at this
    exact ⟨RcAt.lists (isList_of h1) (isList_of h2) (by omega) hu q, RcNeAt.lists (isList_of h1) (isList_of h2) (by omega) hu q⟩
  · rename_i hl
    cases he
    have hne : (v1.size != v2.size) = true := by simp; omega
    exact ⟨RcAt.lists_lengths (isList_of h1) (isList_of h2) hne hu, RcNeAt.lists_lengths (isList_of h1) (isList_of h2) hne hu⟩
theorem eqT_snd {l1 l2 : Addr} {v1 v2 : Array Value} {n1 n2 : Nat} {d1 d2 : List D} {k : Bool} (h1 : s.heap.get? l1 = some (tupO v1 n1)) (h2 : s.heap.get? l2 = some (tupO v2 n2)) (r1 : RepAll w.params s.heap H v1.toList d1) (r2 : RepAll w.params s.heap H' v2.toList d2)
    (hu : A.units < cLine) (hl : d1.length = d2.length) (he : eqAll d1 d2 = some k) : RcAt A s (.ref l1) (.ref l2) k ∧ RcNeAt A s (.ref l1) (.ref l2) (!k) := by
  have e1 := r1.length
  have e2 := r2.length
  simp only [Array.length_toList] at e1 e2
  obtain ⟨e, e3, e4⟩ := eqAll_snd r1 r2 hl he
  have q : ((List.range (min v1.size v2.size)).all e && v1.size == v2.size) = k := by
    have e5 : min v1.size v2.size = v1.size := by omega
    rw [e5, e1, e3, e2, hl]; simp
  rw [← q]
  have q : ∀ j (q1 : j < v1.size) (q2 : j < v2.size), EqAt A.in1 s v1[j] v2[j] (e j) := fun j q1 q2 => by
    have := e4 j (by simpa using q1) (by simpa using q2) A.in1 s; rwa [Array.getElem_toList, Array.getElem_toList] at this
  exact ⟨RcAt.tuples (isTuple_of h1) (isTuple_of h2) hu q, RcNeAt.tuples (isTuple_of h1) (isTuple_of h2) hu q⟩
theorem eqD_snd {x y : Value} {a b : D} {k : Bool} (hx : Rep w.params s.heap H x a) (hy : Rep w.params s.heap H' y b) (hu : A.units < cLine) (he : eqD a b = some k) :
    RcAt A s x y k ∧ RcNeAt A s x y (!k) := by
  have fin : eqS a b = some k → RcAt A s x y k ∧ RcNeAt A s x y (!k) := fun he => ⟨(eqS_snd hx hy he).2.1 _ _, (eqS_snd hx hy he).2.2 _ _⟩
  cases hx <;> simp only [eqD] at he <;> first | exact fin he | skip
  all_goals cases hy <;> simp only at he <;> first | (cases he; done) | skip
  · rename_i h1 _ _ r1 _ _ _ _ h2 _ _ r2
    split at he
    · rename_i hl; exact eqT_snd h1 h2 r1 r2 hu hl he
    · cases he
  · rename_i h1 _ _ r1 _ _ _ _ h2 _ _ r2
    exact eqL_snd h1 h2 r1 r2 hu he

theorem dict_at {P : Params} {h : Heap} {y : Value} {ks vs : List D} (hy : Rep P h H y (.dict ks vs)) (hk : ks.all D.isCell = true) : ∃ a es n, ∃ cs : List CK, y = .ref a ∧ h.get? a = some (dicO es n) ∧ ks = cs.map ofCK ∧ RepAll P h H (es.toList.map (·.key)) (cs.map ofCK) ∧ RepAll P h H (es.toList.map (·.val)) vs ∧
    es.toList.map (·.hash) = (cs.map ofCK).map (hashK P) ∧ (cs.map ofCK).Nodup ∧ (a == sysModules) = false ∧ cs.length = (es.toList.map (·.val)).length := by
  obtain ⟨cs, rfl⟩ := cells_ck hk
  cases hy with
  | dict h1 h2 h3 h4 h5 h6 h7 h8 h9 => exact ⟨_, _, _, cs, rfl, h1, rfl, h4, h5, h6, h8, h9, by have := h4.length; simpa using this.symm⟩
theorem dict_atT {P : Params} {h : Heap} {y : Value} {ks vs : List D} (hy : Rep P h H y (.dict ks vs)) (hk : ks.all D.isTK = true) : ∃ a es n, ∃ cs : List (List CK), y = .ref a ∧ h.get? a = some (dicO es n) ∧ ks = cs.map ofTK ∧ RepAll P h H (es.toList.map (·.key)) (cs.map ofTK) ∧ RepAll P h H (es.toList.map (·.val)) vs ∧
    es.toList.map (·.hash) = (cs.map ofTK).map (hashK P) ∧ (cs.map ofTK).Nodup ∧ (a == sysModules) = false := by
  obtain ⟨cs, rfl⟩ := tks_ck hk
  cases hy with
  | dict h1 h2 h3 h4 h5 h6 h7 h8 h9 => exact ⟨_, _, _, cs, rfl, h1, rfl, h4, h5, h6, h8, h9⟩
theorem kD_map {xs : List (List CK × Addr × Value)} {cs : List (List CK)} (h : xs.map (·.1) = cs) : xs.map kD = cs.map ofTK := by
  rw [← h, List.map_map]; rfl
theorem notIn_of_in {M : Model} {x c : Value} {Q' Q : Value → Shared → Prop} (h : wpAny M A (compareOp .In x c) Q' E s) (hQ : ∀ b s', Q' (.bool b) s' → Q (.bool (!b)) s') : wpAny M A (compareOp .NotIn x c) Q E s := by
  intro Γ p hΓ
  have h0 := h Γ p hΓ
  change Sem.wp _ Γ (Sem.bind (contains c x) fun r => Sem.pure (Value.bool r)) _ _ p s at h0
  show Sem.wp _ Γ (Sem.bind (contains c x) fun r => Sem.pure (Value.bool (!r))) _ _ p s
  rw [Sem.wp_bind] at h0 ⊢
  refine Sem.wp_mono _ Γ _ (fun r p' s' q => ?_) (fun _ _ _ q => q) p s h0
  exact hQ r s' q
theorem in_dict {x y : Value} {k : D} {ks vs : List D} (hx : Rep w.params s.heap H x k) (hy : Rep w.params s.heap H y (.dict ks vs)) (hu : A.units + 1 < cLine) (hc : keyOk k ks = true) :
    wpAny (model prog w) A (compareOp .In x y) (Post w s H (.bool (ks.any fun x => keyEq x k))) E s := by
  unfold keyOk at hc
  rw [Bool.or_eq_true, Bool.and_eq_true, Bool.and_eq_true] at hc
  rcases hc with hc | hc
  · obtain ⟨c, rfl⟩ := cell_ck hc.1
    obtain ⟨a, es, n, cs, rfl, h1, rfl, h4, h5, h6, h8, h9, hl⟩ := dict_at hy hc.2
    refine wpAny_in_of (knd := cellKind prog w) (rep_ck hx) h9 (dictOf_rep (prog := prog) h1 h4 h6 h8).mapOf ?_
    rw [any_valueAt hl]; exact ⟨Kp.tok _ _, .bool _⟩
  · obtain ⟨c, rfl⟩ := tk_ck hc.1
    obtain ⟨a, es, n, cs, rfl, h1, rfl, h4, h5, h6, h8, h9⟩ := dict_atT hy hc.2
    obtain ⟨b, rfl, ib⟩ := rep_tk (prog := prog) hx
    obtain ⟨xs, hm, e1, _, _⟩ := dictH_rep (prog := prog) h1 h4 h6 h8
    refine wpAny_in_heap (knd := TKd prog w) hu ib h9 hm ?_
    rw [any_atKey xs, kD_map e1]; exact ⟨Kp.tok _ _, .bool _⟩
theorem cellEq_snd {P : Params} {h : Heap} {x y : Value} {a b : D} (hx : Rep P h H x a) (hy : Rep P h H' y b) (ha : a.isCell = true) (hb : b.isCell = true) : ∀ A s, EqAt A s x y (cellEq a b) := by
  have e : eqS a b = some (cellEq a b) := by cases a <;> first | (cases ha; done) | (cases b <;> first | rfl | (cases hb; done))
  exact (eqS_snd hx hy e).1
noncomputable def valCell : Value → D
  | .int i _ => .int i
  | .str x _ => .str x
  | _ => .none
theorem valCell_rep {P : Params} {h : Heap} {v : Value} {d : D} (r : Rep P h H v d) (hc : d.isCell = true) : valCell v = d := by
  cases r <;> first | rfl | cases hc
theorem eqv_any {P : Params} {h : Heap} {b : D} : ∀ {vs : List Value} {ds : List D}, RepAll P h H vs ds → ds.all D.isCell = true → vs.any (fun v => cellEq (valCell v) b) = ds.any fun x => cellEq x b
  | _, _, .nil, _ => rfl
  | _, _, .cons hv hr, hc => by
    simp only [List.all_cons, Bool.and_eq_true] at hc
    rw [List.any_cons, List.any_cons, eqv_any hr hc.2, valCell_rep hv hc.1]
theorem mem_eqv {P : Params} {h : Heap} {x : Value} {k : D} (hx : Rep P h H x k) (hk : k.isCell = true) {A : Around} {s : Shared} : ∀ {vs : List Value} {ds : List D}, RepAll P h H vs ds → ds.all D.isCell = true → ∀ v ∈ vs, EqAt A s v x (cellEq (valCell v) k)
  | _, _, .nil, _, _, hm => nomatch hm
  | _, _, .cons hv hr, hc, v, hm => by
    simp only [List.all_cons, Bool.and_eq_true] at hc
    rcases List.mem_cons.mp hm with rfl | hm
    · rw [valCell_rep hv hc.1]; exact cellEq_snd hv hx hc.1 hk A s
    · exact mem_eqv hx hk hr hc.2 v hm
theorem in_tup {x y : Value} {k : D} {ds : List D} (hx : Rep w.params s.heap H x k) (hy : Rep w.params s.heap H y (.tup ds)) (hc : (k.isCell && ds.all D.isCell) = true) :
    wpAny (model prog w) A (compareOp .In x y) (Post w s H (.bool (ds.any fun x => cellEq x k))) E s := by
  rw [Bool.and_eq_true] at hc
  cases hy with
  | tup ho hn hl hr =>
    refine in_tupleAt (fun v => cellEq (valCell v) k) (isTuple_of ho) (fun v hv => mem_eqv hx hc.1 hr hc.2 v (Array.mem_toList_iff.mpr hv)) ?_
    rw [← Array.any_toList, eqv_any hr hc.2]; exact ⟨Kp.refl _, .bool _⟩
theorem mem_snd {x y : Value} {a b : D} {k : Bool} (hx : Rep w.params s.heap H x a) (hy : Rep w.params s.heap H y b) (hu : A.units + 1 < cLine) (he : memD a b = some k) :
    wpAny (model prog w) A (compareOp .In x y) (Post w s H (.bool k)) E s := by
  cases b <;> simp only [memD] at he <;> first | (cases he; done) | skip
  · split at he
    · rename_i hc; cases he; exact in_tup hx hy hc
    · cases he
  · split at he
    · rename_i hc; cases he; exact in_dict hx hy hu hc
    · cases he
theorem ord_snd {op : CmpOp} {x y : Value} {a b d : D} (hx : Rep w.params s.heap H x a) (hy : Rep w.params s.heap H y b) (he : ordD op a b = some d) : wpAny (model prog w) A (compareOp op x y) (Post w s H d) E s := by
  cases hx <;> simp only [ordD] at he <;> first | (cases he; done) | skip
  all_goals cases hy <;> simp only at he <;> first | (cases he; done) | skip
  · cases op <;> simp only [cmpI] at he <;> cases he
    · exact PyProof.Rows.lt_int ⟨Kp.refl _, .bool _⟩
    · exact PyProof.Rows.le_int ⟨Kp.refl _, .bool _⟩
    · exact PyProof.Rows.gt_int ⟨Kp.refl _, .bool _⟩
    · exact PyProof.Rows.ge_int ⟨Kp.refl _, .bool _⟩
  · cases op <;> simp only at he <;> cases he
    exact PyProof.Rows.lt_str ⟨Kp.refl _, .bool _⟩
theorem cmp_snd {op : CmpOp} {x y : Value} {a b d : D} (hx : Rep w.params s.heap H x a) (hy : Rep w.params s.heap H y b) (hu : A.units + 1 < cLine) (he : cmpD op a b = some d) :
    wpAny (model prog w) A (compareOp op x y) (Post w s H d) E s := by
  have hu0 := Nat.lt_of_succ_lt hu
  cases op <;> simp only [cmpD] at he <;> first | exact ord_snd hx hy he | skip
  all_goals
    rw [Option.map_eq_some_iff] at he
    obtain ⟨k, hk, rfl⟩ := he
  · exact (eqD_snd hx hy hu0 hk).1 prog w E _ ⟨Kp.refl _, .bool _⟩
  · exact (eqD_snd hx hy hu0 hk).2 prog w E _ ⟨Kp.refl _, .bool _⟩
  · exact mem_snd hx hy hu hk
  · exact notIn_of_in (mem_snd hx hy hu hk) fun b s' q => ⟨q.1, by cases q.2; exact .bool _⟩

theorem lt63 {n : Nat} (h : n ≤ big) : (n : Int) < 2 ^ 63 := by unfold big at h; omega

theorem truth_snd {x : Value} {a : D} {t : Bool} (hx : Rep w.params s.heap H x a) (he : truth a = some t) :
    wpAny (model prog w) A (truthy x) (fun b s' => Keeps s s' ∧ b = t) E s := by
  cases hx <;> simp only [truth] at he <;> cases he
  · exact PyProof.Rows.truthy_none ⟨Kp.refl _, rfl⟩
  · exact wpAny_truthy_bool ⟨Kp.refl _, rfl⟩
  · exact PyProof.Rows.truthy_int ⟨Kp.refl _, rfl⟩
  · rename_i vs n ds ho _ hl hr
    have e := hr.length
    simp only [Array.length_toList] at e
    refine PyProof.Rows.truthy_tuple (isTup_of ho) (by rw [e]; exact lt63 hl) ⟨Kp.tok _ _, ?_⟩
    congr 1
    rw [Bool.eq_iff_iff]
    simp only [Array.isEmpty_iff, List.isEmpty_iff, ← Array.size_eq_zero_iff, ← List.length_eq_zero_iff, e]
  · rename_i vs n ds ho _ hl hr
    have e := hr.length
    simp only [Array.length_toList] at e
    refine wpAny_truthy_list (isList_of ho) (by rw [e]; exact lt63 hl) ⟨Kp.tok _ _, ?_⟩
    congr 1
    rw [Bool.eq_iff_iff]
    simp only [Array.isEmpty_iff, List.isEmpty_iff, ← Array.size_eq_zero_iff, ← List.length_eq_zero_iff, e]

theorem idx_seq {k : Int} {n j : Nat} (h : idx k n = some j) : seqIndex? k n = some j ∧ j < n ∧ -(n : Int) ≤ k ∧ k < n := by
  unfold idx at h
  unfold seqIndex?
  split at h
  · rename_i hc; cases h
    have e : ¬ k < 0 := by omega
    simp only [e, if_false]
    simp [hc]; omega
  · split at h
    · rename_i hc; cases h
      simp only [hc.2, if_true]
      have h1 : 0 ≤ k + n := by omega
      have h2 : k + n < n := by omega
      simp [h1, h2]; omega
    · cases h

theorem getItem_snd {x i : Value} {a b d : D} (hu : A.units + 1 < cLine) (hx : Rep w.params s.heap H x a) (hi : Rep w.params s.heap H i b) (he : subD a b = some d) :
    wpAny (model prog w) A (getItem x i) (Post w s H d) E s ∧ ∃ T id, s.TypeIs x T ∧ typeLookup (.type T) "__getitem__" = pure (some (.builtin id)) := by
  cases a <;> simp only [subD] at he <;> first | (cases he; done) | skip
  · rename_i x
    cases hx
    cases hi <;> simp only at he <;> first | (cases he; done) | skip
    rename_i k _
    split at he
    · rename_i hc; cases he
      refine ⟨PyProof.Rows.getItem_str (c := x.cps.getD k.toNat 0) ?_ ?_ ⟨Kp.tok _ _, .str _ _⟩, "str", _, typeIs_str _ _ _, F.slot_str_getitem.lookup⟩
      · simp; unfold big at hc; omega
      · have h1 : idx k x.length = some k.toNat := by unfold idx; simp [hc.1, hc.2.1]
        rw [(idx_seq h1).1]
        have h2 : k.toNat < x.cps.size := by have := hc.2.1; unfold Str.length at this; omega
        simp [Array.getD, h2]
    · cases he
  · cases hx with
    | tup ho hn hl hr =>
      cases hi <;> simp only at he <;> first | (cases he; done) | skip
      rename_i k _
      rw [Option.bind_eq_some_iff] at he
      obtain ⟨j, hj, he⟩ := he
      obtain ⟨v, hv, hvr⟩ := hr.get j he
      obtain ⟨h1, h2, h3, h4⟩ := idx_seq hj
      have e := hr.length
      simp only [Array.length_toList] at e
      have hb := lt63 hl
      exact ⟨PyProof.Rows.getItem_tuple (isTup_of ho) (by omega) (by omega) (by rw [e]; exact h1) (by simpa using hv) ⟨Kp.refl _, hvr⟩, "tuple", _, (isTup_of ho).typeIs, F.slot_tuple_getitem.lookup⟩
  · cases hx with
    | list ho hn hl hr =>
      cases hi <;> simp only at he <;> first | (cases he; done) | skip
      rename_i k _
      rw [Option.bind_eq_some_iff] at he
      obtain ⟨j, hj, he⟩ := he
      obtain ⟨v, hv, hvr⟩ := hr.get j he
      have e := hr.length
      simp only [Array.length_toList] at e
      have hb := lt63 hl
      refine ⟨?_, "list", _, (isList_of ho).typeIs, F.slot_list_getitem.lookup⟩
      unfold idx at hj
      split at hj
      · cases hj
        exact wpAny_getItem_list (isList_of ho) (by omega) (by omega) (by simpa using hv) ⟨Kp.refl _, hvr⟩
      · split at hj
        · cases hj
          exact wpAny_getItem_list_neg (isList_of ho) (by omega) (by rw [e]; omega) (by omega) (by rw [e]; simpa using hv) ⟨Kp.refl _, hvr⟩
        · cases hj
  · split at he
    · rename_i hc
      unfold keyOk at hc
      rw [Bool.or_eq_true, Bool.and_eq_true, Bool.and_eq_true] at hc
      rcases hc with hc | hc
      · obtain ⟨c, rfl⟩ := cell_ck hc.1
        obtain ⟨a, es, n, cs, rfl, h1, rfl, h4, h5, h6, h8, h9, hl⟩ := dict_at hx hc.2
        obtain ⟨v, hv, rv⟩ := dget_valueAt h5 he
        have hm := (dictOf_rep (prog := prog) h1 h4 h6 h8).mapOf
        exact ⟨wpAny_getItem_of (knd := cellKind prog w) (rep_ck hi) hm hv ⟨Kp.tok _ _, rv⟩, "dict", _, hm.typeIs, slot_dict_getitem.lookup⟩
      · obtain ⟨c, rfl⟩ := tk_ck hc.1
        obtain ⟨a, es, n, cs, rfl, h1, rfl, h4, h5, h6, h8, h9⟩ := dict_atT hx hc.2
        obtain ⟨b, rfl, ib⟩ := rep_tk (prog := prog) hi
        obtain ⟨xs, hm, e1, _, e3⟩ := dictH_rep (prog := prog) h1 h4 h6 h8
        rw [← kD_map e1] at he
        obtain ⟨p, hp, rp⟩ := dget_atKey (e3 ▸ h5) he
        exact ⟨wpAny_getItem_heap (knd := TKd prog w) hu ib hm hp ⟨Kp.tok _ _, rp⟩, "dict", _, hm.typeIs, slot_dict_getitem.lookup⟩
    · cases he
end
end Mine
namespace Mine
open PySem PySem.SeqAt

section
variable {prog : Program} {w : World} {A : Around} {E : Value → Shared → Prop} {s : Shared} {H H' : Addr → Prop}

theorem isi_snd {x : Value} {a : D} {T : String} {t : Bool} (hx : Rep w.params s.heap H x a) (he : isiD a T = some t) :
    wpAny (model prog w) A (call (.builtin "isinstance") [x, .type T]) (Post w s H (.bool t)) E s := by
  unfold isiD at he
  split at he
  · rename_i hT
    cases hx with
    | bool b =>
      rcases hT with rfl | rfl | rfl | rfl | rfl
      · cases he; exact IsiPair.bool_str ⟨Kp.tok _ _, .bool _⟩
      · cases he; exact IsiPair.bool_bool ⟨Kp.refl _, .bool _⟩
      · cases he; exact IsiPair.bool_int ⟨Kp.refl _, .bool _⟩
      · cases he; exact IsiPair.bool_tuple ⟨Kp.tok _ _, .bool _⟩
      · cases he; exact IsiPair.bool_list ⟨Kp.tok _ _, .bool _⟩
    | int i t =>
      rcases hT with rfl | rfl | rfl | rfl | rfl
      · cases he; exact IsiPair.int_str ⟨Kp.tok _ _, .bool _⟩
      · cases he; exact IsiPair.int_bool ⟨Kp.tok _ _, .bool _⟩
      · cases he; exact IsiPair.int_int ⟨Kp.refl _, .bool _⟩
      · cases he; exact IsiPair.int_tuple ⟨Kp.tok _ _, .bool _⟩
      · cases he; exact IsiPair.int_list ⟨Kp.tok _ _, .bool _⟩
    | str x t =>
      rcases hT with rfl | rfl | rfl | rfl | rfl
      · cases he; exact IsiPair.str_str ⟨Kp.refl _, .bool _⟩
      · cases he; exact IsiPair.str_bool ⟨Kp.tok _ _, .bool _⟩
      · cases he; exact IsiPair.str_int ⟨Kp.tok _ _, .bool _⟩
      · cases he; exact IsiPair.str_tuple ⟨Kp.tok _ _, .bool _⟩
      · cases he; exact IsiPair.str_list ⟨Kp.tok _ _, .bool _⟩
    | tup ho =>
      rcases hT with rfl | rfl | rfl | rfl | rfl
      · cases he; exact IsiPair.tuple_str ho rfl ⟨Kp.tok _ _, .bool _⟩
      · cases he; exact IsiPair.tuple_bool ho rfl ⟨Kp.tok _ _, .bool _⟩
      · cases he; exact IsiPair.tuple_int ho rfl ⟨Kp.tok _ _, .bool _⟩
      · cases he; exact IsiPair.tuple_tuple ho rfl ⟨Kp.refl _, .bool _⟩
      · cases he; exact IsiPair.tuple_list ho rfl ⟨Kp.tok _ _, .bool _⟩
    | list ho =>
      rcases hT with rfl | rfl | rfl | rfl | rfl
      · cases he; exact IsiPair.list_str ho rfl ⟨Kp.tok _ _, .bool _⟩
      · cases he; exact IsiPair.list_bool ho rfl ⟨Kp.tok _ _, .bool _⟩
      · cases he; exact IsiPair.list_int ho rfl ⟨Kp.tok _ _, .bool _⟩
      · cases he; exact IsiPair.list_tuple ho rfl ⟨Kp.tok _ _, .bool _⟩
      · cases he; exact IsiPair.list_list ho rfl ⟨Kp.refl _, .bool _⟩
    | _ => cases he
  · cases he

/-- the built-in that a name means -/
noncomputable def bltVal : String → Value
  | "len" => .builtin "len"
  | "isinstance" => .builtin "isinstance"
  | "sum" => .builtin "sum"
  | "max" => .builtin "max"
  | "min" => .builtin "min"
  | "sorted" => .builtin "sorted"
  | T => .type T

theorem natAbs_log2 {i : Int} (h : -strLim < i ∧ i < strLim) : i.natAbs.log2 < 1920 := by
  unfold strLim at h
  have h2 : i.natAbs < 10 ^ 100 := by
    have e : ((10 ^ 100 : Nat) : Int) = (10 : Int) ^ 100 := by exact Int.natCast_pow 10 100
    generalize (10 : Int) ^ 100 = p at h e
    omega
  by_cases h3 : i.natAbs = 0
  · rw [h3]; decide
  · refine (Nat.log2_lt h3).mpr (Nat.lt_trans h2 (by decide +kernel))

theorem len_snd {x : Value} {a d : D} (hx : Rep w.params s.heap H x a) (he : lenD a = some d) : wpAny (model prog w) A (call (.builtin "len") [x]) (Post w s H d) E s := by
  cases hx <;> simp only [lenD] at he <;> first | (cases he; done) | skip
  · split at he
    · rename_i hc; cases he
      exact PyProof.Rows.len_str (by have := lt63 hc; omega) ⟨Kp.tok _ _, .int _ _⟩
    · cases he
  · rename_i ho _ hl hr
    cases he
    have e := hr.length
    simp only [Array.length_toList] at e
    refine PyProof.Rows.len_tuple (isTup_of ho) (by rw [e]; exact lt63 hl) ?_
    rw [e]; exact ⟨Kp.tok _ _, .int _ _⟩
  · rename_i ho _ hl hr
    cases he
    have e := hr.length
    simp only [Array.length_toList] at e
    refine PyProof.Rows.len_list (isList_of ho) (by rw [e]; exact lt63 hl) ?_
    rw [e]; exact ⟨Kp.tok _ _, .int _ _⟩
theorem bltI_snd {f : String} {i : Int} {t : Tok} {d : D} (hH : Ex s.heap H) (he : bltI f i = some d) : wpAny (model prog w) A (call (bltVal f) [.int i t]) (Post w s H d) E s := by
  unfold bltI rngD at he
  split at he
  · rename_i hf; subst hf
    split at he
    · rename_i hc; cases he
      refine call_range_1 ⟨⟨_, _, rfl, fun _ _ e => Heap.get?_push_of_some _ e⟩, ?_⟩
      exact .rng (IsRange.new _ _ _ _ _ _ _) hH.fresh (by unfold big at *; omega)
    · cases he
  · split at he
    · rename_i hf; subst hf
      split at he
      · rename_i hc; cases he
        exact P.str_of_int (natAbs_log2 hc) ⟨Kp.tok _ _, .str _ _⟩
      · cases he
    · cases he
theorem bltI2_snd {f : String} {i j : Int} {t u : Tok} {d : D} (hh : A.handled = none) (hH : Ex s.heap H) (he : bltI2 f i j = some d) : wpAny (model prog w) A (call (bltVal f) [.int i t, .int j u]) (Post w s H d) E s := by
  unfold bltI2 rngD at he
  split at he
  · rename_i hf; subst hf
    split at he
    · rename_i hc; cases he
      refine call_range_2 ⟨⟨_, _, rfl, fun _ _ e => Heap.get?_push_of_some _ e⟩, ?_⟩
      exact .rng (IsRange.new _ _ _ _ _ _ _) hH.fresh (by unfold big at *; omega)
    · cases he
  · split at he
    · rename_i hf; subst hf; cases he
      refine max_two_ints hh fun h' tk hk => ?_
      split <;> exact ⟨⟨h', tk, rfl, hk⟩, .int _ _⟩
    · split at he
      · rename_i hf; subst hf; cases he
        refine min_two_ints hh fun h' tk hk => ?_
        split <;> exact ⟨⟨h', tk, rfl, hk⟩, .int _ _⟩
      · cases he
theorem ints_rep {P : Params} {h : Heap} : ∀ {vs : List Value} {ds : List D} {k : Int}, RepAll P h H vs ds → sumD ds = some k → ∃ xs : List (Int × Tok), vs = xs.map (fun p => .int p.1 p.2) ∧ (xs.map (·.1)).sum = k
  | _, _, k, .nil, e => by cases e; exact ⟨[], rfl, rfl⟩
  | _, _, k, .cons hv hr, e => by
    cases hv <;> first | (cases e; done) | skip
    rename_i i t
    simp only [sumD, Option.map_eq_some_iff] at e
    obtain ⟨k', e', rfl⟩ := e
    obtain ⟨xs, rfl, e2⟩ := ints_rep hr e'
    exact ⟨(i, t) :: xs, rfl, by rw [List.map_cons, List.sum_cons, e2]⟩
theorem preSum_sum (xs : List (Int × Tok)) : preSum (numAt xs.toArray) xs.toArray.size = (xs.map (·.1)).sum := by
  rw [preSum_eq, List.take_of_length_le (by simp)]
theorem sum_snd {a : Addr} {vs : Array Value} {n : Nat} {ds : List D} {k : Int} (hh : A.handled = none) (ho : s.heap.get? a = some (lstO vs n)) (hr : RepAll w.params s.heap H vs.toList ds) (he : sumD ds = some k) : wpAny (model prog w) A (call (.builtin "sum") [.ref a]) (Post w s H (.int k)) E s := by
  obtain ⟨xs, e1, e2⟩ := ints_rep hr he
  have e3 : vs = intItems xs.toArray := by
    apply Array.toList_inj.mp
    rw [e1]; simp [intItems]
  refine sum_intListG (xs := xs.toArray) hh (e3 ▸ isList_of ho) fun h' tk t' hk => ?_
  rw [preSum_sum, e2]
  exact ⟨⟨h', tk, rfl, hk⟩, .int _ _⟩
theorem blt1_snd {f : String} {x : Value} {a d : D} (hh : A.handled = none) (hx : Rep w.params s.heap H x a) (hH : Ex s.heap H) (he : bltD f [a] = some d) : wpAny (model prog w) A (call (bltVal f) [x]) (Post w s H d) E s := by
  simp only [bltD] at he
  split at he
  · rename_i hf; subst hf; exact len_snd hx he
  · cases hx <;> simp only at he <;> first | (cases he; done) | exact bltI_snd hH he | skip
    · split at he
      · rename_i hf; subst hf; cases he
        exact call_int_bool ⟨Kp.tok _ _, .int _ _⟩
      · cases he
    · split at he
      · rename_i hf; subst hf; cases he
        exact P.str_of_str ⟨Kp.refl _, .str _ _⟩
      · cases he
    · rename_i ho hn hl hr
      split at he
      · rename_i hf; subst hf; cases he
        have e := hr.length
        simp only [Array.length_toList] at e
        refine call_tuple_list (isList_of ho) (fun h' hk => ⟨⟨_, _, rfl, fun _ _ q => Heap.get?_push_of_some _ (hk _ _ q)⟩, ?_⟩) (by rw [e]; exact hl)
        exact .tup (Heap.get?_push_size _ rfl) (hH.keeps hk).fresh hl (hr.keeps fun _ _ q => Heap.get?_push_of_some _ (hk _ _ q))
      · split at he
        · rename_i hf; subst hf
          rw [Option.map_eq_some_iff] at he
          obtain ⟨k, he, rfl⟩ := he
          exact sum_snd hh ho hr he
        · cases he
theorem blt_snd {f : String} {xs : List Value} {as : List D} {d : D} (hh : A.handled = none) (hx : RepAll w.params s.heap H xs as) (hH : Ex s.heap H) (he : bltD f as = some d) :
    wpAny (model prog w) A (call (bltVal f) xs) (Post w s H d) E s := by
  cases hx with
  | nil => cases he
  | cons h1 h2 => cases h2 with
    | nil => exact blt1_snd hh h1 hH he
    | cons h2 h3 => cases h3 with
      | nil =>
        simp only [bltD] at he
        cases h1 <;> simp only at he <;> first | (cases he; done) | skip
        cases h2 <;> simp only at he <;> first | (cases he; done) | skip
        exact bltI2_snd hh hH he
      | cons => cases he
theorem reps_keys {P : Params} {h : Heap} : ∀ {vs : List Value} {cs : List CK}, vs.length = cs.length → (∀ (j : Nat) (v : Value), vs[j]? = some v → ∃ k, cs[j]? = some k ∧ CK.is k v = true) → RepAll P h H vs (cs.map ofCK)
  | [], [], _, _ => .nil
  | v :: vs, c :: cs, hl, hv => by
    obtain ⟨k, e1, e2⟩ := hv 0 v rfl
    cases e1
    exact .cons (ck_rep e2) (reps_keys (by simpa using hl) fun j v' e => hv (j + 1) v' e)
theorem lst_snd {x : Value} {a : D} {ds : List D} (hh : A.handled = none) (hx : Rep w.params s.heap H x a) (hH : Ex s.heap H) (he : lstD a = some ds) :
    wpAny (model prog w) A (call (.type "list") [x]) (PostF w s H (.list ds) true) E s := by
  cases a <;> simp only [lstD] at he <;> first | (cases he; done) | skip
  · cases hx with
    | tup ho hn hl hr =>
      cases he
      have e := hr.length
      simp only [Array.length_toList] at e
      exact call_list_seq _ (.inr rfl) ho rfl rfl (fun h' c' hk hD => post_newList hH hl hr hk hD) (by rw [e]; exact hl)
  · cases hx with
    | list ho hn hl hr =>
      cases he
      have e := hr.length
      simp only [Array.length_toList] at e
      exact call_list_seq _ (.inl rfl) ho rfl rfl (fun h' c' hk hD => post_newList hH hl hr hk hD) (by rw [e]; exact hl)
  · split at he
    · rename_i vs hc
      cases he
      have hlk : ds.length ≤ big := by cases hx; assumption
      obtain ⟨a, es, n, cs, rfl, h1, rfl, h4, h5, h6, h8, h9, hl⟩ := dict_at hx hc
      obtain ⟨ep, hm⟩ := (dictOf_rep (prog := prog) h1 h4 h6 h8).dictAt
      have el : (cs.zip (es.toList.map (·.val))).length = cs.length := by rw [List.length_zip, ← hl, Nat.min_self]
      refine PySem.W.kdl_call (PySem.W.kdl_dict h9) hh hm (by rw [el]; exact Nat.le_trans (by simpa using hlk) (by decide)) fun h' tk acc' c' hk hD hacc => ?_
      refine post_newList hH hlk (reps_keys (by rw [Array.length_toList, hacc.1, el]) fun j v e => ?_) hk hD
      obtain ⟨k, x, q1, q2⟩ := hacc.2 j v (by rw [← Array.getElem?_toList]; exact e)
      exact ⟨k, (List.getElem?_zip_eq_some.mp q1).1, q2⟩
    · cases he
end
end Mine
namespace Mine
open PySem PySem.SeqAt
/-! the keys of any dict, in turn -/
section
variable {prog : Program} {w : World} {A : Around} {E : Value → Shared → Prop} {s : Shared}
theorem iter_keys {d : Addr} {es : Array DictEntry} {ep : Nat} {Q : Value → Shared → Prop} (hd : (d == sysModules) = false) (ho : s.heap.get? d = some (dicO es ep))
    (hQ : Q (.ref s.heap.objs.size) { s with heap := s.heap.push { cls := .type "dict_keyiterator", data := .fields #[.ref d, .int 0 0, .int es.size 0, .int ep 0] } }) : wpAny (model prog w) A (pyIter (.ref d)) Q E s := by
  have hT : s.TypeIs (.ref d) "dict" := ⟨_, ho, rfl⟩
  refine wpAny_pyIter_slot hT F.slot_dict_iter (wpAny_call_entry F.slot_dict_iter hT F.entry_dict_iter ?_ (F.args_dict_iter_1 _))
  unfold Builtin.«dict.__iter__» Builtin.Dict.dictSlotNone Builtin.Dict.showsAll
  refine wpAny_bind (wpAny_bind (wpAny_notOrdered_dict hT (wpAny_pure ?_)))
  refine wpAny_bind (wpAny_pure ?_)
  dsimp only
  rw [if_neg (by rw [hd]; exact Bool.false_ne_true)]
  refine wpAny_bind (wpAny_pure (wpAny_bind (wpAny_dictEntries ho rfl (wpAny_bind (wpAny_dictEpoch ho rfl ?_)))))
  exact wpAny_bind (wpAny_newObj_type (wpAny_pure ⟨_, rfl, "dict_keyiterator", _, ⟨_, Heap.get?_push_size _ rfl, rfl⟩, F.slot_dict_keyiterator_next.lookup, hQ⟩))
theorem next_keys {it d : Addr} {i ep : Nat} {es : Array DictEntry} {Q : Option Value → Shared → Prop} (hh : A.handled = none) (hit : s.heap.IsKeyIter it d i es.size ep) (hod : s.heap.get? d = some (dicO es ep))
    (h1 : ∀ (hi : i < es.size) h', h'.IsKeyIter it d (i + 1) es.size ep → Heap.SameBut it s.heap h' → Q (some es[i].key) { s with heap := h' })
    (h2 : es.size ≤ i → ∀ h', Heap.ExtBut it s.heap h' → Q none { s with heap := h' }) : wpAny (model prog w) A (pyNext (.ref it)) Q E s := by
  obtain ⟨o, ho, hc, hd⟩ := id hit
  unfold pyNext
  refine wpAny_bind (wpAny_attempt (wpAny_callSpecial?_slot (name := Str.ofString "__next__") hit.typeIs F.slot_dict_keyiterator_next
    (wpAny_call_entry F.slot_dict_keyiterator_next hit.typeIs F.entry_dict_keyiterator_next ?_ (F.args_dict_keyiterator_next_1 _))))
  refine wpAny_bind (wpAny_pure (wpAny_bind (wpAny_bind ?_)))
  first | refine wpAny_bind (wpAny_typeNameOfWhole_keyiter hit.typeIs (wpAny_pure ?_)) | refine wpAny_bind (wpAny_typeNameOf_keyiter hit.typeIs (wpAny_pure ?_))
  refine wpAny_bind (wpAny_fieldsOf ho hd ?_)
  have hown : Builtin.Dict_items.ownsTuple "dict_keyiterator" = false := by decide
  simp only [hown, Bool.false_eq_true, if_false]
  show wpAny _ _ (if (Value.ref d == Value.none) = true then _ else _) _ _ s
  rw [if_neg (show ¬ ((Value.ref d == Value.none) = true) from Bool.false_ne_true)]
  refine wpAny_bind (wpAny_pure (wpAny_bind (wpAny_dictEntries hod rfl ?_)))
  rw [if_neg (by simp)]
  refine wpAny_bind (wpAny_pure (wpAny_bind (wpAny_dictEpoch hod rfl ?_)))
  rw [if_neg (by simp)]
  refine wpAny_pure ?_
  by_cases hlt : i < es.size
  · simp only [show ¬ ((i : Int) < 0) from by omega, if_false, Int.toNat_natCast, Array.getElem?_eq_getElem hlt]
    refine wpAny_bind ?_
    first | refine wpAny_bind (wpAny_typeNameOfWhole_keyiter hit.typeIs (wpAny_pure ?_)) | refine wpAny_bind (wpAny_typeNameOf_keyiter hit.typeIs (wpAny_pure ?_))
    refine wpAny_bind (wpAny_isOneOf_keyiter hit.typeIs ?_)
    show wpAny _ _ (setField (.ref it) 1 (rawInt ((i : Int) + 1)) >>= _) _ _ s
    refine wpAny_bind (wpAny_setField ho hd (by simp) ?_)
    have hit' : (s.heap.update it (Obj.mapFields (·.setIfInBounds 1 (rawInt ((i : Int) + 1))))).IsKeyIter it d (i + 1) es.size ep :=
      ⟨_, Heap.get?_update_self _ ho (Obj.isFreed_of_fields (Obj.data_mapFields hd _)), (Obj.cls_mapFields ..).trans hc, by rw [Obj.data_mapFields hd]; simp [rawInt]⟩
    refine wpAny_bind (wpAny_holding ?_)
    refine wpAny_bind (wpAny_isOneOf_keyiter (s := { s with heap := s.heap.update it (Obj.mapFields (·.setIfInBounds 1 (rawInt ((i : Int) + 1)))) }) hit'.typeIs ?_)
    show wpAny _ _ (pure es[i].key) _ _ _
    exact wpAny_pure (wpAny_pure ⟨_, rfl, wpAny_pure (h1 hlt _ hit' (Heap.SameBut.update ..))⟩)
  · have hge : es.size ≤ i := by omega
    simp only [show ¬ ((i : Int) < 0) from by omega, if_false, Int.toNat_natCast, Array.getElem?_eq_none hge]
    refine wpAny_bind ?_
    first | refine wpAny_bind (wpAny_typeNameOfWhole_keyiter hit.typeIs (wpAny_pure ?_)) | refine wpAny_bind (wpAny_typeNameOf_keyiter hit.typeIs (wpAny_pure ?_))
    show wpAny _ _ (setField (.ref it) 0 .none >>= _) _ _ s
    refine wpAny_bind (wpAny_setField ho hd (by simp) ?_)
    show wpAny _ _ (newExc (.type "StopIteration") [] >>= _) _ _ _
    refine wpAny_bind ?_
    simp only [newExc, newTuple]
    refine wpAny_bind (wpAny_newObj_type ?_ (by size_fits))
    refine wpAny_bind (m := firstArgMember _ _) (wpAny_of_eq (a := Value.none) (by first | rfl | (simp only [firstArgMember]; rfl)) ?_)
    refine wpAny_newObj_type ?_ (by size_fits)
    simp only [raiseNew]
    refine wpAny_bind (wpAny_handled ?_)
    rw [show A.in1.handled = none from hh]
    refine wpAny_bind (wpAny_pure (wpAny_throw ?_))
    refine wpAny_bind (wpAny_isInstance (T := "StopIteration") (b := true) ⟨_, Heap.get?_push_size _ rfl, rfl⟩ isSubtype_stop ?_)
    exact wpAny_pure (h2 hge _ (((Heap.SameBut.update ..).extBut.push _).push _))
theorem walks_keys (hh : A.handled = none) (I d : Addr) (hne : d ≠ I) (es : Array DictEntry) (ep : Nat) :
    Walks prog w A I [I, d] [I] es.size (fun i v => (es.toList.map (·.key))[i]? = some v) (fun i h => h.IsKeyIter I d i es.size ep ∧ h.get? d = some (dicO es ep)) where
  sub := fun b hb => by simp at hb; simp [hb]
  frame := fun _ _ _ st hk => ⟨st.1.at fun o e => hk I (by simp) o e, hk d (by simp) _ st.2⟩
  item := fun i s Q E hi st hQ => next_keys hh st.1 st.2 (fun _ h' hit' hs' => hQ _ h' s.toks (by simp [hi]) ⟨hit', (hs'.2 d hne).trans st.2⟩ fun b o hb e => hs'.extBut b o (fun h => hb (by simp [h])) e) fun h => absurd hi (by omega)
  done := fun s Q E st hQ => next_keys hh st.1 st.2 (fun hi => absurd hi (Nat.lt_irrefl _)) fun _ h' he' => hQ h' s.toks fun b o hb e => he' b o (fun h => hb (by simp [h])) e
  self := fun _ _ _ _ st hQ => wpAny_pyIter_keyiter st.1 hQ
end
end Mine
namespace Mine
open PySem PySem.SeqAt

section
variable {prog : Program} {w : World} {A : Around} {E : Value → Shared → Prop} {s : Shared} {H H' : Addr → Prop}

structure IterAt (prog : Program) (w : World) (A : Around) (s₁ : Shared) (H : Addr → Prop) (its : List D) (I : Addr) (s₂ : Shared) : Prop where
  keeps : Keeps s₁ s₂
  fresh : s₁.heap.get? I = none
  ex : ∃ o, s₂.heap.get? I = some o
  walk : ∃ fp P St, Walks prog w A I fp [I] its.length P St ∧ St 0 s₂.heap ∧ (∀ b ∈ fp, b = I ∨ (¬ H b ∧ ∃ o, s₁.heap.get? b = some o)) ∧ (∀ i v, i < its.length → P i v → ∃ d, its[i]? = some d ∧ Rep w.params s₁.heap H v d) ∧ (∀ i h, St i h → ∃ o, h.get? I = some o)

theorem fresh_size (h : Heap) : h.get? h.objs.size = none := Heap.get?_none_of_le (Nat.le_refl _)

theorem iter_snd {x : Value} {d : D} {its : List D} (hx : Rep w.params s.heap H x d) (hh : A.handled = none) (he : d.items = some its) :
    wpAny (model prog w) A (pyIter x) (fun v s₂ => ∃ I, v = .ref I ∧ IterAt prog w A s H its I s₂) E s := by
  cases hx <;> simp only [D.items] at he <;> cases he
  · rename_i a vs n ho hn hl hr
    have e := hr.length
    simp only [Array.length_toList] at e
    have hne : a ≠ s.heap.objs.size := Nat.ne_of_lt (Heap.lt_size ho)
    refine wpAny_pyIter_tuple (isTuple_of ho) ⟨_, rfl, Kp.push _ _, fresh_size _, ⟨_, Heap.get?_push_size _ rfl⟩, ?_⟩
    refine ⟨_, _, _, e ▸ Walks.tuple hh s.heap.objs.size a hne vs, ?_, ?_, ?_, ?_⟩
    · exact ⟨⟨_, Heap.get?_push_size _ rfl, rfl, rfl⟩, (isTuple_of ho).push _⟩
    · intro b hb
      simp only [List.mem_cons, List.not_mem_nil, or_false] at hb
      rcases hb with rfl | rfl
      · exact .inl rfl
      · exact .inr ⟨hn, _, ho⟩
    · intro i v hi hv
      obtain ⟨v', h1, h2⟩ := hr.get i (List.getElem?_eq_getElem hi)
      have : v' = v := by
        have h3 : vs.toList[i]? = vs[i]? := by simp
        rw [h3, hv] at h1; cases h1; rfl
      exact ⟨_, List.getElem?_eq_getElem hi, this ▸ h2⟩
    · rintro i h ⟨⟨o, e, _⟩, _⟩; exact ⟨o, e⟩
  · rename_i a vs n ho hn hl hr
    have e := hr.length
    simp only [Array.length_toList] at e
    have hne : a ≠ s.heap.objs.size := Nat.ne_of_lt (Heap.lt_size ho)
    refine wpAny_pyIter_list (isList_of ho) ⟨_, rfl, Kp.push _ _, fresh_size _, ⟨_, Heap.get?_push_size _ rfl⟩, ?_⟩
    refine ⟨_, _, _, e ▸ Walks.list hh s.heap.objs.size a hne vs, ?_, ?_, ?_, ?_⟩
    · exact ⟨⟨_, Heap.get?_push_size _ rfl, rfl, rfl⟩, (isList_of ho).push _⟩
    · intro b hb
      simp only [List.mem_cons, List.not_mem_nil, or_false] at hb
      rcases hb with rfl | rfl
      · exact .inl rfl
      · exact .inr ⟨hn, _, ho⟩
    · intro i v hi hv
      obtain ⟨v', h1, h2⟩ := hr.get i (List.getElem?_eq_getElem hi)
      have : v' = v := by
        have h3 : vs.toList[i]? = vs[i]? := by simp
        rw [h3, hv] at h1; cases h1; rfl
      exact ⟨_, List.getElem?_eq_getElem hi, this ▸ h2⟩
    · rintro i h ⟨⟨o, e, _⟩, _⟩; exact ⟨o, e⟩
  · rename_i a es n _ ho _ _ _ hr _ _ _ _
    have ho : s.heap.get? a = some (dicO es n) := by assumption
    have hr : RepAll w.params s.heap H (es.toList.map (·.key)) its := by assumption
    have e := hr.length
    simp only [List.length_map, Array.length_toList] at e
    have hne : a ≠ s.heap.objs.size := Nat.ne_of_lt (Heap.lt_size ho)
    refine iter_keys (by assumption) ho ⟨_, rfl, Kp.push _ _, fresh_size _, ⟨_, Heap.get?_push_size _ rfl⟩, ?_⟩
    refine ⟨_, _, _, e ▸ walks_keys hh s.heap.objs.size a hne es n, ?_, ?_, ?_, ?_⟩
    · exact ⟨⟨_, Heap.get?_push_size _ rfl, rfl, by rw [← e]; rfl⟩, Heap.get?_push_of_some _ ho⟩
    · intro b hb
      simp only [List.mem_cons, List.not_mem_nil, or_false] at hb
      rcases hb with rfl | rfl
      · exact .inl rfl
      · exact .inr ⟨by assumption, _, ho⟩
    · intro i v hi hv
      obtain ⟨v', h1, h2⟩ := hr.get i (List.getElem?_eq_getElem hi)
      rw [hv] at h1; cases h1
      exact ⟨_, List.getElem?_eq_getElem hi, h2⟩
    · rintro i h ⟨⟨o, e, _⟩, _⟩; exact ⟨o, e⟩
  · rename_i lo hi t u v hr hn hl
    have hsm : Builtin.Range.small lo hi 1 = true := by
      unfold big at hl; exact small_one (by omega) (by omega) (by omega) (by omega)
    have hsz : Builtin.Range.rangeSize lo hi 1 = ((hi - lo).toNat : Int) := by
      rw [rangeSize_one]; split <;> omega
    refine wpAny_pyIter_range hr hsm ⟨_, rfl, Kp.push _ _, fresh_size _, ⟨_, Heap.get?_push_size _ rfl⟩, ?_⟩
    have hlen : ((List.range (hi - lo).toNat).map fun (i : Nat) => D.int (lo + (i : Int))).length = (hi - lo).toNat := by simp
    refine ⟨_, _, _, hlen ▸ Walks.range hh s.heap.objs.size lo 1 (hi - lo).toNat, ?_, ?_, ?_, ?_⟩
    · show Heap.get? _ _ = _
      rw [Heap.get?_push_size _ rfl, hsz]
      simp [rawInt]
    · intro b hb
      simp only [List.mem_cons, List.not_mem_nil, or_false] at hb
      exact .inl hb
    · rintro i v hi ⟨t, rfl⟩
      rw [hlen] at hi
      refine ⟨.int (lo + i), by simp [hi], ?_⟩
      rw [Int.mul_one]
      exact .int _ _
    · intro i h e; exact ⟨_, e⟩
end
end Mine
namespace Mine
open PySem PySem.SeqAt

structure AOk (A : Around) (n : Nat) : Prop where
  handled : A.handled = none
  depth : A.depth + n + 20 < recursionLimit
  units : A.units + 3 * n + 100 < cLine

structure EnvRep (h : Heap) (env : Env) (m : Str → Option Value) : Prop where
  kind : env.scope.kind = .function
  glob : env.globals = mainGlobals
  blt : env.builtins = builtinsNs
  loc : ∃ ml, h.Ns env.locals ml ∧ ∀ x, env.kindOf x = some .local → ml x = m x
  cell : ∀ x, env.kindOf x = some .cell ∨ env.kindOf x = some .free → ∃ c, env.cells.lookup x = some c ∧ h.IsCell c (m x)
  inj : ∀ x y c, env.cells.lookup x = some c → env.cells.lookup y = some c → x = y
  off : ∀ x c, env.cells.lookup x = some c → c ≠ env.locals
  ex : ∀ x c, env.cells.lookup x = some c → ∃ o, h.get? c = some o

theorem EnvRep.keeps {h h' : Heap} {env : Env} {m : Str → Option Value} (R : EnvRep h env m) (hk : ∀ a o, h.get? a = some o → h'.get? a = some o) : EnvRep h' env m where
  kind := R.kind
  glob := R.glob
  blt := R.blt
  loc := let ⟨ml, h1, h2⟩ := R.loc; ⟨ml, h1.keeps hk, h2⟩
  cell := fun x hx => let ⟨c, h1, h2⟩ := R.cell x hx; ⟨c, h1, h2.keeps hk⟩
  inj := R.inj
  off := R.off
  ex := fun x c hc => let ⟨o, ho⟩ := R.ex x c hc; ⟨o, hk _ _ ho⟩

theorem Ns.keepAt {h h' : Heap} {a : Addr} {m : Str → Option Value} (hn : h.Ns a m) (hk : ∀ o, h.get? a = some o → h'.get? a = some o) : h'.Ns a m :=
  let ⟨o, es, ep, ho, r⟩ := hn; ⟨o, es, ep, hk _ ho, r⟩
theorem Cell.keepAt {h h' : Heap} {a : Addr} {v : Option Value} (hn : h.IsCell a v) (hk : ∀ o, h.get? a = some o → h'.get? a = some o) : h'.IsCell a v :=
  let ⟨o, ho, r⟩ := hn; ⟨o, hk _ ho, r⟩

/-- the frame's own places stay -/
theorem EnvRep.keepsAt {h h' : Heap} {env : Env} {m : Str → Option Value} (R : EnvRep h env m) (hk : ∀ a o, (a = env.locals ∨ ∃ x, env.cells.lookup x = some a) → h.get? a = some o → h'.get? a = some o) : EnvRep h' env m where
  kind := R.kind
  glob := R.glob
  blt := R.blt
  loc := let ⟨ml, h1, h2⟩ := R.loc; ⟨ml, Ns.keepAt h1 fun o e => hk _ o (.inl rfl) e, h2⟩
  cell := fun x hx => let ⟨c, h1, h2⟩ := R.cell x hx; ⟨c, h1, Cell.keepAt h2 fun o e => hk _ o (.inr ⟨x, h1⟩) e⟩
  inj := R.inj
  off := R.off
  ex := fun x c hc => let ⟨o, ho⟩ := R.ex x c hc; ⟨o, hk _ _ (.inr ⟨x, hc⟩) ho⟩

section
variable {M : Model} {A : Around} {E : Value → Shared → Prop} {s : Shared}

theorem load_snd {env : Env} {m : Str → Option Value} {x : Str} {v : Value} {pos : Pos} {Q : Value → Shared → Prop} (R : EnvRep s.heap env m) (hx : isVar env.kindOf x = true) (hv : m x = some v) (h : Q v s) :
    wpAny M A (eval (.Name x pos) env) Q E s := by
  unfold isVar at hx
  simp only [Bool.and_eq_true, Bool.or_eq_true, beq_iff_eq, bne_iff_ne] at hx
  obtain ⟨⟨⟨hk, hd⟩, hc⟩, _⟩ := hx
  have hd' : (x == ("__debug__" : Str)) = false := by simpa using hd
  have hc' : (x == ("__classdict__" : Str)) = false := by simpa using hc
  refine wpAny_Name ?_ hd'
  rcases hk with (hk | hk) | hk
  · obtain ⟨ml, h1, h2⟩ := R.loc
    exact wpAny_loadName_local R.kind hk h1 ((h2 x hk).trans hv) h
  · obtain ⟨c, h1, h2⟩ := R.cell x (.inl hk)
    exact wpAny_loadName_cell R.kind hk h1 (hv ▸ h2) h
  · obtain ⟨c, h1, h2⟩ := R.cell x (.inr hk)
    exact wpAny_loadName_free R.kind hk h1 (hv ▸ h2) h hc'

noncomputable def upd (m : Str → Option Value) (x : Str) (v : Value) : Str → Option Value := fun y => if y = x then some v else m y

theorem store_snd {env : Env} {m : Str → Option Value} {x : Str} {v : Value} {Q : Unit → Shared → Prop} (R : EnvRep s.heap env m) (hx : env.kindOf x = some .local ∨ env.kindOf x = some .cell)
    (h : ∀ h' tk a, EnvRep h' env (upd m x v) → (a = env.locals ∨ env.cells.lookup x = some a) → Heap.SameBut a s.heap h' → Q () { s with heap := h', toks := tk }) :
    wpAny M A (storeName env x v) Q E s := by
  rcases hx with hk | hk
  · obtain ⟨ml, h1, h2⟩ := R.loc
    refine wpAny_storeName_local hk h1 (fun h' hn hs => h h' _ env.locals ⟨R.kind, R.glob, R.blt, ⟨_, hn, fun y hy => ?_⟩, fun y hy => ?_, R.inj, R.off, fun y c hc => let ⟨o, ho⟩ := R.ex y c hc; ⟨o, (hs.2 c (R.off y c hc)).trans ho⟩⟩ (.inl rfl) hs) (by rw [R.kind]; rfl)
    · unfold upd; by_cases e : y = x
      · simp [e]
      · simp [e, h2 y hy]
    · obtain ⟨c, h3, h4⟩ := R.cell y hy
      have hne : y ≠ x := by rintro rfl; rw [hk] at hy; simp at hy
      refine ⟨c, h3, ?_⟩
      unfold upd; rw [if_neg hne]
      exact h4.sameBut hs (R.off y c h3)
  · obtain ⟨c, h3, h4⟩ := R.cell x (.inl hk)
    refine wpAny_storeName_cell R.kind hk h3 h4 fun h' hc hs => h h' s.toks c ⟨R.kind, R.glob, R.blt, ?_, fun y hy => ?_, R.inj, R.off, fun y c' hc' => ?_⟩ (.inr h3) hs
    · obtain ⟨ml, h1, h2⟩ := R.loc
      refine ⟨ml, h1.sameBut hs (fun e => R.off x c h3 e.symm), fun y hy => ?_⟩
      have hne : y ≠ x := by rintro rfl; rw [hk] at hy; simp at hy
      unfold upd; rw [if_neg hne]; exact h2 y hy
    · obtain ⟨c', h5, h6⟩ := R.cell y hy
      by_cases e : y = x
      · subst e
        rw [h3] at h5; cases h5
        exact ⟨c, h3, by simpa [upd] using hc⟩
      · refine ⟨c', h5, ?_⟩
        unfold upd; rw [if_neg e]
        exact h6.sameBut hs fun q => e (R.inj y x c' h5 (q ▸ h3))
    · by_cases e : c' = c
      · obtain ⟨o, ho, _⟩ := hc; exact ⟨o, e ▸ ho⟩
      · obtain ⟨o, ho⟩ := R.ex y c' hc'; exact ⟨o, (hs.2 c' e).trans ho⟩

/-! the closure that a comprehension's block takes -/
noncomputable def clGo (cells : List (Str × Addr)) : List (Str × NameKind) → List (Str × Addr) → List (Str × Addr)
  | [], acc => acc
  | (n, k) :: r, acc => if k == .free then (match cells.lookup n with | some c => clGo cells r ((n, c) :: acc) | none => clGo cells r acc) else clGo cells r acc

theorem closure_go {env : Env} (f : Str × NameKind → List (Str × Addr) → Sem (ForInStep (List (Str × Addr))))
    (hf : ∀ n k cs, f (n, k) cs = if k == .free then (do let c ← cellOf env n; pure (.yield ((n, c) :: cs))) else pure (.yield cs)) :
    ∀ (names : List (Str × NameKind)) (acc : List (Str × Addr)), (∀ p ∈ names, p.2 = .free → ∃ c, env.cells.lookup p.1 = some c) → forIn names acc f = pure (clGo env.cells names acc)
  | [], acc, _ => rfl
  | (n, k) :: r, acc, h => by
    have hr : ∀ p ∈ r, p.2 = .free → ∃ c, env.cells.lookup p.1 = some c := fun p hp => h p (List.mem_cons_of_mem _ hp)
    rw [List.forIn_cons, hf]
    unfold clGo
    by_cases hk : (k == NameKind.free) = true
    · obtain ⟨c, hc⟩ := h (n, k) List.mem_cons_self (by simpa using hk)
      rw [if_pos hk, if_pos hk]
      unfold cellOf
      simp only at hc
      rw [hc]
      simp only [pure_bind]
      exact closure_go f hf r _ hr
    · rw [if_neg hk, if_neg hk, pure_bind]
      exact closure_go f hf r _ hr

theorem closureFor_go {env : Env} {scope : Scope} (h : ∀ p ∈ scope.names, p.2 = .free → ∃ c, env.cells.lookup p.1 = some c) : closureFor scope env = pure (clGo env.cells scope.names []) := by
  unfold closureFor
  simp only []
  rw [closure_go (env := env) _ (fun n k cs => by
    by_cases hk : (k == NameKind.free) = true <;> simp [hk]) scope.names [] h]
  rfl

theorem lookup_cons' {α : Type} (x n : Str) (c : α) (l : List (Str × α)) : ((n, c) :: l).lookup x = if x = n then some c else l.lookup x := by
  rw [List.lookup_cons]
  by_cases h : x = n
  · simp [h]
  · have : (x == n) = false := by simpa using h
    simp [h, this]

theorem clGo_sound {cells : List (Str × Addr)} : ∀ (names : List (Str × NameKind)) (acc : List (Str × Addr)), (∀ x c, acc.lookup x = some c → cells.lookup x = some c) →
    ∀ x c, (clGo cells names acc).lookup x = some c → cells.lookup x = some c
  | [], acc, h => h
  | (n, k) :: r, acc, h => by
    unfold clGo
    split
    · cases hc : cells.lookup n with
      | none => exact clGo_sound r acc h
      | some c =>
        refine clGo_sound r _ fun x c' e => ?_
        rw [lookup_cons'] at e
        split at e
        · rename_i q; cases e; rw [q]; exact hc
        · exact h x c' e
    · exact clGo_sound r acc h

theorem clGo_mem {cells : List (Str × Addr)} : ∀ (names : List (Str × NameKind)) (acc : List (Str × Addr)) (x : Str) (c : Addr), (clGo cells names acc).lookup x = some c → (x, NameKind.free) ∈ names ∨ acc.lookup x = some c
  | [], acc, x, c, h => .inr h
  | (n, k) :: r, acc, x, c, h => by
    unfold clGo at h
    split at h
    · rename_i hk
      have hk' : k = .free := by simpa using hk
      subst hk'
      cases hc : cells.lookup n with
      | none => rw [hc] at h; exact (clGo_mem r acc x c h).imp (.tail _) id
      | some c' =>
        rw [hc] at h
        rcases clGo_mem r _ x c h with e | e
        · exact .inl (.tail _ e)
        · rw [lookup_cons'] at e
          split at e
          · rename_i q; exact .inl (q ▸ .head _)
          · exact .inr e
    · exact (clGo_mem r acc x c h).imp (.tail _) id

theorem clGo_has {cells : List (Str × Addr)} {x : Str} {c : Addr} (hx : cells.lookup x = some c) : ∀ (names : List (Str × NameKind)) (acc : List (Str × Addr)),
    ((x, NameKind.free) ∈ names ∨ acc.lookup x = some c) → (clGo cells names acc).lookup x = some c
  | [], acc, h => h.elim (fun e => nomatch e) id
  | (n, k) :: r, acc, h => by
    unfold clGo
    split
    · cases hc : cells.lookup n with
      | none =>
        refine clGo_has hx r acc (h.imp (fun e => ?_) id)
        rcases List.mem_cons.mp e with e | e
        · cases e; rw [hx] at hc; cases hc
        · exact e
      | some c' =>
        refine clGo_has hx r _ ?_
        rcases h with e | e
        · rcases List.mem_cons.mp e with e | e
          · cases e; rw [hx] at hc; cases hc
            exact .inr (by rw [lookup_cons', if_pos rfl])
          · exact .inl e
        · rw [lookup_cons']
          split
          · rename_i q; rw [← q, hx] at hc; cases hc; exact .inr rfl
          · exact .inr e
    · rename_i hk
      refine clGo_has hx r acc (h.imp (fun e => ?_) id)
      rcases List.mem_cons.mp e with e | e
      · cases e; simp at hk
      · exact e

theorem cellsFrom_app : ∀ (names : List (Str × NameKind)) (n : Nat) (acc : List (Str × Addr)), cellsFrom n names acc = cellsFrom n names [] ++ acc
  | [], _, _ => rfl
  | (x, k) :: r, n, acc => by
    unfold cellsFrom
    split
    · rw [cellsFrom_app r (n + 1) ((x, n) :: acc), cellsFrom_app r (n + 1) [(x, n)]]; simp
    · exact cellsFrom_app r n acc

theorem cellsFrom_mem : ∀ (names : List (Str × NameKind)) (n : Nat) (x : Str) (c : Addr), (x, c) ∈ cellsFrom n names [] → (x, NameKind.cell) ∈ names ∧ n ≤ c
  | [], _, _, _, h => nomatch h
  | (y, k) :: r, n, x, c, h => by
    unfold cellsFrom at h
    split at h
    · rename_i hk
      rw [cellsFrom_app] at h
      rcases List.mem_append.mp h with h | h
      · obtain ⟨h1, h2⟩ := cellsFrom_mem r (n + 1) x c h
        exact ⟨.tail _ h1, by omega⟩
      · simp only [List.mem_cons, List.not_mem_nil, or_false, Prod.mk.injEq] at h
        obtain ⟨rfl, rfl⟩ := h
        have : k = .cell := by simpa using hk
        subst this
        exact ⟨.head _, Nat.le_refl _⟩
    · obtain ⟨h1, h2⟩ := cellsFrom_mem r n x c h
      exact ⟨.tail _ h1, h2⟩

theorem cellsFrom_has : ∀ (names : List (Str × NameKind)) (n : Nat) (x : Str), (x, NameKind.cell) ∈ names → ∃ c, (x, c) ∈ cellsFrom n names []
  | (y, k) :: r, n, x, h => by
    unfold cellsFrom
    rcases List.mem_cons.mp h with e | e
    · cases e
      simp only [beq_self_eq_true, if_true]
      rw [cellsFrom_app]
      exact ⟨n, List.mem_append_right _ (List.mem_singleton.mpr rfl)⟩
    · split
      · obtain ⟨c, hc⟩ := cellsFrom_has r (n + 1) x e
        rw [cellsFrom_app]
        exact ⟨c, List.mem_append_left _ hc⟩
      · exact cellsFrom_has r n x e

theorem lookup_some_of_mem {α : Type} : ∀ {l : List (Str × α)} {x : Str} {c : α}, (x, c) ∈ l → ∃ c', l.lookup x = some c'
  | (y, d) :: r, x, c, h => by
    rw [lookup_cons']
    split
    · exact ⟨_, rfl⟩
    · rename_i hne
      rcases List.mem_cons.mp h with e | e
      · cases e; exact absurd rfl hne
      · exact lookup_some_of_mem e

theorem lookup_app {α : Type} (x : Str) : ∀ (l l' : List (Str × α)), (l ++ l').lookup x = (l.lookup x).or (l'.lookup x)
  | [], l' => by simp
  | (y, c) :: r, l' => by
    rw [List.cons_append, lookup_cons', lookup_cons', lookup_app x r l']
    split <;> simp
end
end Mine
namespace Mine
open PySem PySem.SeqAt

theorem lookup_map {α β : Type} (g : Str → α → β) (x : Str) : ∀ (l : List (Str × α)), (l.map fun p => (p.1, g p.1 p.2)).lookup x = (l.lookup x).map (g x)
  | [] => rfl
  | (y, c) :: r => by
    rw [List.map_cons, lookup_cons', lookup_cons', lookup_map g x r]
    split
    · rename_i h; subst h; rfl
    · rfl

theorem kindC_eq (k : KD) (scope : Scope) (x : Str) : kindC k scope x = (scope.names.lookup x).map fun q => if q == .free && k x == some .cell then .cell else q := by
  unfold kindC
  rw [← lookup_map (fun n q => if q == NameKind.free && k n == some .cell then NameKind.cell else q) x scope.names]
  congr 1
  refine List.map_congr_left fun p _ => ?_
  by_cases h : (p.2 == NameKind.free && k p.1 == some .cell) = true
  · simp [h]
  · simp [h]

theorem relabel_kind {env : Env} {scope : Scope} (hk : env.scope.kind = .function) : (fun x => (relabel scope env).names.lookup x) = kindC env.kindOf scope := by
  funext x
  unfold relabel kindC
  simp only [hk]
  congr 1
  refine List.map_congr_left fun p _ => ?_
  obtain ⟨a, b⟩ := p
  simp

section
variable {M : Model} {A : Around} {E : Value → Shared → Prop} {s : Shared}
theorem newEnvA {scope : Scope} {globals : Addr} {cl : List (Str × Addr)} {qual : Str} {env : Env} {Q : Env → Shared → Prop}
    (h : Q { scope, locals := s.heap.objs.size, globals, cells := cellsFrom (s.heap.objs.size + 1) scope.names cl, qual, func := none, code := env.code, frame := env.frame, builtins := env.builtins }
      { s with heap := pushCells (s.heap.push { cls := .type "dict", data := .dict #[] }) scope.names }) :
    wpAny M A (newFunctionEnv scope globals cl [] qual none .none (some env)) Q E s := by
  simp only [newFunctionEnv, Option.isSome_some, if_true]
  refine wpAny_bind (wpAny_alloc ?_)
  refine wpAny_bind (wpAny_layCells _ (fun name kind cells => by cases hkc : kind == NameKind.cell <;> simp [hkc]) _ _ _ _ ?_)
  rw [show ({ s with heap := s.heap.push { cls := .type "dict", data := .dict #[] } } : Shared).heap.objs.size = s.heap.objs.size + 1 from Heap.size_push ..]
  exact wpAny_pure h
end

theorem cells_facts (h : Heap) (scope : Scope) (o : Obj) :
    CellsOk (pushCells (h.push o) scope.names) (h.objs.size + 1) (cellsFrom (h.objs.size + 1) scope.names []) := by
  have ok := cellsFrom_ok scope.names (h.push o) (h.objs.size + 1) [] ⟨fun _ _ hm => (nomatch hm), List.Pairwise.nil⟩ (by rw [Heap.size_push]; exact Nat.le_refl _)
  rwa [Heap.size_push] at ok

/-- the environment of a comprehension's block -/
theorem compEnv_rep {h : Heap} {env : Env} {m : Str → Option Value} {scope : Scope} {y : Str} (R : EnvRep h env m) (hok : okScope env.kindOf scope y = true) :
    EnvRep (pushCells (h.push { cls := .type "dict", data := .dict #[] }) scope.names)
      { scope := relabel scope env, locals := h.objs.size, globals := env.globals, cells := cellsFrom (h.objs.size + 1) scope.names (clGo env.cells scope.names []), qual := env.qual, func := none, code := env.code, frame := env.frame, builtins := env.builtins }
      (fun x => if scope.names.lookup x = some .free then m x else none) := by
  unfold okScope at hok
  simp only [Bool.and_eq_true, decide_eq_true_eq, beq_iff_eq, List.all_eq_true] at hok
  obtain ⟨⟨⟨⟨hkind, hnd⟩, hy⟩, hfree⟩, _⟩ := hok
  have ok := cells_facts h scope { cls := .type "dict", data := .dict #[] }
  have keep : ∀ b o, h.get? b = some o → (pushCells (h.push { cls := .type "dict", data := .dict #[] }) scope.names).get? b = some o := fun b o e => pushCells_keeps _ _ b o (Heap.get?_push_of_some _ e)
  have uniq : ∀ x k k', (x, k) ∈ scope.names → (x, k') ∈ scope.names → k = k' := by
    intro x k k' h1 h2
    have : ∀ (l : List (Str × NameKind)), (l.map (·.1)).Nodup → (x, k) ∈ l → (x, k') ∈ l → k = k' := by
      intro l
      induction l with
      | nil => intro _ h; nomatch h
      | cons p l ih =>
        intro hn h1 h2
        simp only [List.map_cons, List.nodup_cons] at hn
        rcases List.mem_cons.mp h1 with e1 | e1 <;> rcases List.mem_cons.mp h2 with e2 | e2
        · rw [← e2] at e1; exact (Prod.mk.inj e1).2
        · exact absurd (List.mem_map_of_mem (f := (·.1)) e2) (by rw [← e1] at hn; exact hn.1)
        · exact absurd (List.mem_map_of_mem (f := (·.1)) e1) (by rw [← e2] at hn; exact hn.1)
        · exact ih hn.2 e1 e2
    exact this _ hnd h1 h2
  have own_none : ∀ x, scope.names.lookup x ≠ some .cell → (cellsFrom (h.objs.size + 1) scope.names []).lookup x = none := by
    intro x hx
    cases hc : (cellsFrom (h.objs.size + 1) scope.names []).lookup x with
    | none => rfl
    | some c =>
      exfalso
      have h1 := (cellsFrom_mem _ _ _ _ (mem_of_lookup hc)).1
      obtain ⟨k', h2⟩ := lookup_some_of_mem h1
      have := uniq _ _ _ (mem_of_lookup h2) h1
      rw [this] at h2
      exact hx h2
  have cases_cell : ∀ x c, (cellsFrom (h.objs.size + 1) scope.names (clGo env.cells scope.names [])).lookup x = some c →
      (cellsFrom (h.objs.size + 1) scope.names []).lookup x = some c ∨ ((cellsFrom (h.objs.size + 1) scope.names []).lookup x = none ∧ env.cells.lookup x = some c) := by
    intro x c hc
    rw [cellsFrom_app, lookup_app] at hc
    cases hq : (cellsFrom (h.objs.size + 1) scope.names []).lookup x with
    | some c' => rw [hq] at hc; simp at hc; exact .inl (by rw [hc])
    | none =>
      rw [hq] at hc
      simp only [Option.none_or] at hc
      exact .inr ⟨rfl, clGo_sound _ _ (fun _ _ e => by simp at e) x c hc⟩
  have outer_lt : ∀ x c, env.cells.lookup x = some c → @LT.lt Nat _ c h.objs.size := fun x c hc => let ⟨o, ho⟩ := R.ex x c hc; Heap.lt_size ho
  have own_ge : ∀ x c, (cellsFrom (h.objs.size + 1) scope.names []).lookup x = some c → @LE.le Nat _ (h.objs.size + 1) c := fun x c hc => (ok.empty x c (mem_of_lookup hc)).2
  refine ⟨hkind, R.glob, R.blt, ⟨fun _ => none, ?_, ?_⟩, ?_, ?_, ?_, ?_⟩
  · exact (Heap.Ns.new h (.type "dict")).keeps (pushCells_keeps _ _)
  · intro x hx
    have hx' : kindC env.kindOf scope x = some .local := by rw [← relabel_kind R.kind]; exact hx
    rw [kindC_eq] at hx'
    split
    · rename_i hf; rw [hf] at hx'; simp at hx'; split at hx' <;> cases hx'
    · rfl
  · intro x hx
    have hx' : kindC env.kindOf scope x = some .cell ∨ kindC env.kindOf scope x = some .free := by rw [← relabel_kind R.kind]; exact hx
    rw [kindC_eq] at hx'
    cases hq : scope.names.lookup x with
    | none => rw [hq] at hx'; simp at hx'
    | some k =>
      rw [hq] at hx'
      by_cases hf : k = .free
      · subst hf
        have hm := mem_of_lookup hq
        have hv := hfree _ hm
        simp only [bne_self_eq_false, Bool.false_or, Bool.or_eq_true, beq_iff_eq] at hv
        obtain ⟨c, h1, h2⟩ := R.cell x hv
        refine ⟨c, ?_, ?_⟩
        · show (cellsFrom _ _ _).lookup x = some c
          rw [cellsFrom_app, lookup_app, own_none x (by rw [hq]; simp)]
          simpa using clGo_has h1 scope.names [] (.inl hm)
        · rw [if_pos rfl]; exact h2.keeps keep
      · have hk : k = .cell := by
          have : (k == NameKind.free) = false := by simpa using hf
          simp [this, hf] at hx'
          exact hx'
        subst hk
        obtain ⟨c, hc⟩ := cellsFrom_has scope.names (h.objs.size + 1) x (mem_of_lookup hq)
        obtain ⟨c', hc'⟩ := lookup_some_of_mem hc
        refine ⟨c', ?_, ?_⟩
        · show (cellsFrom _ _ _).lookup x = some c'
          rw [cellsFrom_app, lookup_app, hc']; rfl
        · rw [if_neg (by simp)]
          exact (ok.empty x c' (mem_of_lookup hc')).1
  · intro x y' c h1 h2
    rcases cases_cell x c h1 with e1 | ⟨_, e1⟩ <;> rcases cases_cell y' c h2 with e2 | ⟨_, e2⟩
    · exact name_of_addr ok.apart (mem_of_lookup e1) (mem_of_lookup e2)
    · have := own_ge x c e1; have := outer_lt y' c e2; omega
    · have := own_ge y' c e2; have := outer_lt x c e1; omega
    · exact R.inj x y' c e1 e2
  · intro x c h1 e
    rcases cases_cell x c h1 with e1 | ⟨_, e1⟩
    · have := own_ge x c e1; have e' : @Eq Nat c h.objs.size := e; omega
    · have := outer_lt x c e1; have e' : @Eq Nat c h.objs.size := e; omega
  · intro x c h1
    rcases cases_cell x c h1 with e1 | ⟨_, e1⟩
    · obtain ⟨o, ho, _⟩ := (ok.empty x c (mem_of_lookup e1)).1; exact ⟨o, ho⟩
    · obtain ⟨o, ho⟩ := R.ex x c e1; exact ⟨o, keep _ _ ho⟩
end Mine
namespace Mine
open PySem PySem.SeqAt

theorem compM_snoc (f : D → Option (Option D)) : ∀ (l : List D) (x : D), compM f (l ++ [x]) = (match compM f l, f x with
    | some ds, some (some d) => some (ds ++ [d])
    | some ds, some Option.none => some ds
    | _, _ => Option.none)
  | [], x => by
    simp only [List.nil_append, compM]
    cases f x with
    | none => rfl
    | some o => cases o <;> rfl
  | y :: l, x => by
    rw [List.cons_append, compM, compM, compM_snoc f l x]
    cases f y with
    | none => rfl
    | some o =>
      cases compM f l with
      | none => rfl
      | some ds =>
        cases f x with
        | none => rfl
        | some o' => cases o' <;> cases o <;> rfl
theorem compM_pre {f : D → Option (Option D)} : ∀ {a b : List D} {out : List D}, compM f (a ++ b) = some out → ∃ o, compM f a = some o
  | [], b, out, h => ⟨[], rfl⟩
  | x :: a, b, out, h => by
    rw [List.cons_append, compM] at h
    rw [compM]
    cases hx : f x with
    | none => rw [hx] at h; cases h
    | some o =>
      rw [hx] at h
      cases hab : compM f (a ++ b) with
      | none => rw [hab] at h; cases h
      | some ds =>
        obtain ⟨o', ho'⟩ := compM_pre hab
        rw [ho']
        exact ⟨_, rfl⟩
theorem compM_len {f : D → Option (Option D)} : ∀ {a : List D} {out : List D}, compM f a = some out → out.length ≤ a.length
  | [], out, h => by simp [compM] at h; simp [← h]
  | x :: a, out, h => by
    rw [compM] at h
    cases hx : f x with
    | none => rw [hx] at h; cases h
    | some o =>
      rw [hx] at h
      cases hab : compM f a with
      | none => rw [hab] at h; cases h
      | some ds =>
        rw [hab] at h
        have := compM_len hab
        cases o <;> (cases h; simp; omega)

theorem notSet_folded {e : Expr} {env : Env} (h : notSet e = true) : ∀ x, foldedSetIterable e env x = pure x := by
  intro x
  cases e <;> first | rfl | (cases h)
theorem notSet_marks {e : Expr} {op : CmpOp} (h : notSet e = true) : behindInMarks op e = false := by
  cases e <;> first | rfl | (cases h)

theorem nodup_lookup : ∀ {l : List (Str × NameKind)}, (l.map (·.1)).Nodup → ∀ p ∈ l, l.lookup p.1 = some p.2
  | q :: l, hn, p, hp => by
    simp only [List.map_cons, List.nodup_cons] at hn
    obtain ⟨a, b⟩ := q
    rw [lookup_cons']
    rcases List.mem_cons.mp hp with e | e
    · subst e; simp
    · split
      · rename_i q; exact absurd (List.mem_map_of_mem (f := (·.1)) e) (by rw [q]; exact hn.1)
      · exact nodup_lookup hn.2 p e

section
variable {prog : Program} {w : World} {A : Around} {E : Value → Shared → Prop} {s : Shared} {H : Addr → Prop}

theorem comp_loop {cenv : Env} {m mC0 : Str → Option Value} {free : Str → Prop} {y : Str} {py pos : Pos} {it elt : Expr} {ifs : List Expr} {scope : Scope} {R : Result → Shared → Prop} {its out : List D} {f : D → Option (Option D)}
    {I L : Addr} {fp : List Addr} {P : Nat → Value → Prop} {St : Nat → Heap → Prop} {F : Addr → Prop} {h1 h4 : Heap} {tk4 : Nat}
    (W : Walks prog w A I fp [I] its.length P St) (hfp : ∀ b ∈ fp, b = I ∨ (¬ H b ∧ ∃ o, h1.get? b = some o)) (hP : ∀ i v, i < its.length → P i v → ∃ d, its[i]? = some d ∧ Rep w.params h1 H v d)
    (hky : cenv.kindOf y = some .local ∨ cenv.kindOf y = some .cell) (hyf : ¬ free y)
    (hst : St 0 h4) (hacc : h4.PlainList L #[]) (RC : EnvRep h4 cenv mC0) (hfv : ∀ x, free x → mC0 x = m x)
    (FI : F I) (FL : F L) (FC : F cenv.locals) (Fy : ∀ c, cenv.cells.lookup y = some c → F c)
    (nIL : I ≠ L) (nIC : I ≠ cenv.locals) (nLC : L ≠ cenv.locals) (ncell : ∀ x c, cenv.cells.lookup x = some c → c ≠ L ∧ c ≠ I)
    (Ff : ∀ b, F b → h1.get? b = none) (Fx : ∀ b, F b → b ≠ I → ∃ o, h4.get? b = some o) (IC : @LE.le Nat _ I cenv.locals) (hH : Ex h1 H) (k01 : ∀ b o, s.heap.get? b = some o → h1.get? b = some o) (k14 : ∀ b o, h1.get? b = some o → h4.get? b = some o)
    (hlen : its.length ≤ big) (hout : compM f its = some out)
    (helt : ∀ (s₂ : Shared) (mC : Str → Option Value) (H₂ : Addr → Prop) (v : Value) (dv : D) (r : Option D), dv ∈ its → f dv = some r → EnvRep s₂.heap cenv mC → mC y = some v → Rep w.params s₂.heap H₂ v dv →
      (∀ x, free x → mC x = m x) → Ex s₂.heap H₂ → Keeps s s₂ → (∀ a o, s.heap.get? a = some o → H₂ a → H a) → ∀ E' : Value → Shared → Prop,
      wpAny (model prog w) A (forIn ifs true fun c r => if r = true then do let ok ← isTrue c cenv (eval c cenv); pure (ForInStep.yield ok) else pure (ForInStep.yield r))
        (fun ok s₃ => Keeps s₂ s₃ ∧ ok = r.isSome ∧ ∀ dr, r = some dr → wpAny (model prog w) A (eval elt cenv) (fun v' s₄ => Keeps s₃ s₄ ∧ Rep w.params s₄.heap H₂ v' dr) E' s₃) E' s₂)
    (hR : ∀ h' tk m', h'.Ns cenv.locals m' → OwnL w.params h' (fun b => H b ∨ F b) L out → (∀ b o, s.heap.get? b = some o → h'.get? b = some o) → R (.ok .next) { s with heap := h', toks := tk }) :
    codeAny (model prog w) A (.compLoop (.ListComp elt [⟨.Name y py, it, ifs, 0⟩] scope pos) 0 (.ref I) (.ref L) cenv) R { s with heap := h4, toks := tk4 } := by
  refine codeAny_compLoop_tests
    (fun k s' => ∃ h tk done rest o ys mC, s' = { s with heap := h, toks := tk } ∧ its = done ++ rest ∧ St done.length h ∧ h.PlainList L ys ∧ compM f done = some o ∧ RepAll w.params h (fun b => H b ∨ F b) ys.toList o ∧ EnvRep h cenv mC ∧
      (∀ x, free x → mC x = m x) ∧ (∀ b o, h1.get? b = some o → h.get? b = some o) ∧ (∀ b, F b → b ≠ I → ∃ o, h.get? b = some o) ∧ k = its.length + 1 - done.length) ?_ (its.length + 1)
    ⟨h4, tk4, [], its, [], #[], mC0, rfl, rfl, hst, hacc, rfl, by simpa using RepAll.nil, RC, hfv, k14, Fx, rfl⟩
  rintro k s' ⟨h, tk, done, rest, o, ys, mC, rfl, hits, hst', hacc', ho, hys, RC', hfv', k1h, Fx', rfl⟩
  have hysl : ys.size = o.length := by have := hys.length; simpa using this
  have hol : o.length ≤ done.length := compM_len ho
  have hdl : done.length + rest.length = its.length := by rw [hits]; simp
  cases rest with
  | nil =>
    simp only [List.append_nil] at hits
    subst hits
    rw [hout] at ho; cases ho
    refine W.done _ _ _ hst' fun h' tk' hk' => ?_
    obtain ⟨ml, hns, _⟩ := RC'.loc
    refine hR h' tk' ml (Ns.keepAt hns fun o e => hk' _ o (by simpa using Ne.symm nIC) e) ?_ fun b o e => hk' b o ?_ (k1h b o (k01 b o e))
    · obtain ⟨n, hL⟩ := hacc'
      refine ⟨ys, n, hk' _ _ (by simpa using Ne.symm nIL) hL, Nat.le_trans hol hlen, ?_⟩
      exact hys.mono (fun a o' hn e => hk' a o' (fun q => hn (.inr (by simp at q; rw [q]; exact FI))) e) fun a o' _ q => q.elim id fun q => .inr (q ▸ FL)
    · intro q
      simp at q
      have := Ff I FI
      rw [← q, k01 b o e] at this; cases this
  | cons dv rest' =>
    have hlt : done.length < its.length := by rw [hits]; simp
    refine W.item done.length _ _ _ hlt hst' fun v h₁ tk₁ hPv hst₁ hk₁ => ?_
    obtain ⟨dv', e1, rv⟩ := hP _ v hlt hPv
    have : dv' = dv := by
      rw [hits] at e1
      simpa using e1.symm
    subst this
    have RC₁ : EnvRep h₁ cenv mC := RC'.keepsAt fun a o' ha e => hk₁ a o' (by
      simp only [List.mem_singleton]
      rcases ha with rfl | ⟨x, hx⟩
      · exact Ne.symm nIC
      · exact (ncell x a hx).2) e
    refine wpAny_assign_Name (store_snd (s := { s with heap := h₁, toks := tk₁ }) RC₁ hky fun h₂ tk₂ a RC₂ ha hs₂ => ?_)
    have Fa : F a := ha.elim (fun e => e ▸ FC) fun e => Fy a e
    have aI : a ≠ I := ha.elim (fun e => e ▸ Ne.symm nIC) fun e => (ncell y a e).2
    have aL : a ≠ L := ha.elim (fun e => e ▸ Ne.symm nLC) fun e => (ncell y a e).1
    have nF1 : ∀ b o', h1.get? b = some o' → ¬ F b := fun b o' e q => by have := Ff b q; rw [e] at this; cases this
    have k12 : ∀ b o', h1.get? b = some o' → h₂.get? b = some o' := fun b o' e => (hs₂.2 b (fun q => nF1 b o' e (q ▸ Fa))).trans (hk₁ b o' (by simp only [List.mem_singleton]; rintro rfl; exact nF1 _ _ e FI) (k1h b o' e))
    have hst₂ : St (done.length + 1) h₂ := W.frame _ _ _ hst₁ fun b hb o' e => by
      refine (hs₂.2 b fun q => ?_).trans e
      rcases hfp b hb with e2 | ⟨_, o2, e2⟩
      · exact aI (q ▸ e2)
      · exact nF1 b o2 e2 (q ▸ Fa)
    have Fx₂ : ∀ b, F b → b ≠ I → ∃ o', h₂.get? b = some o' := fun b hb hbI => by
      obtain ⟨o', e⟩ := Fx' b hb hbI
      have e1 := hk₁ b o' (by simpa using hbI) e
      by_cases q : b = a
      · rcases ha with e2 | e2
        · obtain ⟨_, ⟨o2, _, _, e3, _⟩, _⟩ := RC₂.loc
          exact ⟨o2, by rw [q, e2]; exact e3⟩
        · obtain ⟨o2, e3⟩ := RC₂.ex y a e2
          exact ⟨o2, by rw [q]; exact e3⟩
      · exact ⟨o', (hs₂.2 b q).trans e1⟩
    have hmem : dv' ∈ its := by rw [hits]; simp
    have hfd : ∃ r, f dv' = some r ∧ compM f (done ++ [dv']) = some (match r with | some x => o ++ [x] | Option.none => o) := by
      rw [hits, show done ++ dv' :: rest' = (done ++ [dv']) ++ rest' by simp] at hout
      obtain ⟨o', ho'⟩ := compM_pre hout
      have h2 := ho'
      rw [compM_snoc, ho] at ho'
      cases hf : f dv' with
      | none => rw [hf] at ho'; cases ho'
      | some r =>
        refine ⟨r, rfl, ?_⟩
        rw [hf] at ho'
        rw [h2]
        cases r <;> (cases ho'; rfl)
    obtain ⟨r, hfr, hnext⟩ := hfd
    have hH₂ : Ex h₂ (fun b => H b ∨ F b) := fun b hb => hb.elim (fun q => let ⟨b', o', hb', e⟩ := hH b q; ⟨b', o', hb', k12 b' o' e⟩) fun q => by
      by_cases hbI : b = I
      · obtain ⟨o', e⟩ := Fx₂ _ FC (Ne.symm nIC)
        exact ⟨_, o', hbI ▸ IC, e⟩
      · obtain ⟨o', e⟩ := Fx₂ b q hbI
        exact ⟨b, o', Nat.le_refl _, e⟩
    have rv₂ : Rep w.params h₂ (fun b => H b ∨ F b) v dv' := rv.mono (fun b o' _ e => k12 b o' e) fun b o' e q => q.elim id fun q => absurd q (nF1 b o' e)
    refine wpAny_mono (helt { s with heap := h₂, toks := tk₂ } (upd mC y v) (fun b => H b ∨ F b) v dv' r hmem hfr RC₂ (by simp [upd]) rv₂ (fun x hx => by
      have : x ≠ y := fun e => hyf (e ▸ hx)
      simp [upd, this, hfv' x hx]) hH₂ ⟨h₂, tk₂, rfl, fun b o' e => k12 b o' (k01 b o' e)⟩ (fun b o' e q => q.elim id fun q => absurd q (nF1 b o' (k01 b o' e))) _) (fun ok s₃ h₃ => ?_) fun _ _ e => e
    obtain ⟨kp3, rfl, he3⟩ := h₃
    obtain ⟨h₃, tk₃, rfl, k23⟩ := kp3
    have hys₂ : RepAll w.params h₂ (fun b => H b ∨ F b) ys.toList o := hys.mono (fun b o' hn e => (hs₂.2 b fun q => hn (.inr (q ▸ Fa))).trans (hk₁ b o' (by simp only [List.mem_singleton]; rintro rfl; exact hn (.inr FI)) e)) fun _ _ _ q => q
    have hacc₂ : h₂.PlainList L ys := by
      obtain ⟨n, hL⟩ := hacc'
      exact ⟨n, (hs₂.2 L (Ne.symm aL)).trans (hk₁ _ _ (by simpa using Ne.symm nIL) hL)⟩
    have hacc₃ : h₃.PlainList L ys := let ⟨n, hL⟩ := hacc₂; ⟨n, k23 _ _ hL⟩
    cases r with
    | none =>
      simp only [Option.isSome_none, Bool.false_eq_true, if_false]
      refine ⟨its.length + 1 - (done.length + 1), by omega, h₃, tk₃, done ++ [dv'], rest', o, ys, _, rfl, by rw [hits]; simp, ?_, hacc₃, hnext, hys₂.keeps k23, RC₂.keeps k23, ?_, fun b o' e => k23 _ _ (k12 b o' e), fun b hb hbI => let ⟨o', e⟩ := Fx₂ b hb hbI; ⟨o', k23 _ _ e⟩, by simp⟩
      · have := W.frame _ _ h₃ hst₂ fun b _ o' e => k23 b o' e
        simpa using this
      · intro x hx
        have : x ≠ y := fun e => hyf (e ▸ hx)
        simp [upd, this, hfv' x hx]
    | some dr =>
      simp only [Option.isSome_some, if_true]
      refine wpAny_mono (he3 dr rfl) (fun x s₄ h₄ => ?_) fun _ _ e => e
      obtain ⟨⟨h₄, tk₄, rfl, k34⟩, rx⟩ := h₄
      have hacc₄ : h₄.PlainList L ys := let ⟨n, hL⟩ := hacc₃; ⟨n, k34 _ _ hL⟩
      refine wpAny_list_append_plain hacc₄ (fun h₅ hl₅ hs₅ => ?_) (by
        have e9 : big = sizeLine := rfl
        omega)
      have notL : ∀ {b}, ¬ (H b ∨ F b) → b ≠ L := fun hn q => hn (.inr (q ▸ FL))
      refine ⟨its.length + 1 - (done.length + 1), by omega, h₅, tk₄, done ++ [dv'], rest', o ++ [dr], ys.push x, _, rfl, by rw [hits]; simp, ?_, hl₅, hnext, ?_, (RC₂.keeps fun b o' e => k34 _ _ (k23 b o' e)).keepsAt fun b o' hb e => (hs₅.2 b ?_).trans e, ?_, ?_, ?_, by simp⟩
      · have := W.frame _ _ h₅ hst₂ fun b hb o' e => (hs₅.2 b ?_).trans (k34 _ _ (k23 b o' e))
        · simpa using this
        · rcases hfp b hb with e2 | ⟨_, o2, e2⟩
          · rw [e2]; exact nIL
          · rintro rfl; exact nF1 _ _ e2 FL
      · have r1 := (hys₂.keeps k23).keeps k34
        have r2 : RepAll w.params h₄ (fun b => H b ∨ F b) (ys.toList ++ [x]) (o ++ [dr]) := r1.append (.cons rx .nil)
        have r3 := r2.mono (h' := h₅) (H' := fun b => H b ∨ F b) (fun b o' hn e => (hs₅.2 b (notL hn)).trans e) fun _ _ _ q => q
        simpa using r3
      · rcases hb with rfl | ⟨z, hz⟩
        · exact Ne.symm nLC
        · exact (ncell z b hz).1
      · intro z hz
        have : z ≠ y := fun e => hyf (e ▸ hz)
        simp [upd, this, hfv' z hz]
      · exact fun b o' e => (hs₅.2 b (fun q => nF1 b o' e (q ▸ FL))).trans (k34 _ _ (k23 _ _ (k12 b o' e)))
      · intro b hb hbI
        by_cases q : b = L
        · obtain ⟨n, hL⟩ := hl₅; exact ⟨_, q ▸ hL⟩
        · obtain ⟨o', e⟩ := Fx₂ b hb hbI
          exact ⟨o', (hs₅.2 b q).trans (k34 _ _ (k23 _ _ e))⟩

theorem comp_core {env : Env} {m : Str → Option Value} {scope : Scope} {y : Str} {py pos ppos : Pos} {it elt : Expr} {ifs : List Expr} {use : Option (Value → Sem Unit)} {Q : Value → Shared → Prop} {d : D} {its out : List D} {f : D → Option (Option D)}
    (R : EnvRep s.heap env m) (hok : okScope env.kindOf scope y = true) (hset : notSet it = true) (hh : A.handled = none) (hH : Ex s.heap H)
    (hit : wpAny (model prog w) A (eval it env) (Post w s H d) E s) (hits : d.items = some its) (hlen : its.length ≤ big) (hout : compM f its = some out)
    (helt : ∀ (s₂ : Shared) (cenv : Env) (mC : Str → Option Value) (H₂ : Addr → Prop) (v : Value) (dv : D) (r : Option D), dv ∈ its → f dv = some r → cenv.kindOf = kindC env.kindOf scope → EnvRep s₂.heap cenv mC → mC y = some v → Rep w.params s₂.heap H₂ v dv →
      (∀ x, scope.names.lookup x = some .free → mC x = m x) → Ex s₂.heap H₂ → Keeps s s₂ → (∀ a o, s.heap.get? a = some o → H₂ a → H a) → ∀ E' : Value → Shared → Prop,
      wpAny (model prog w) A (forIn ifs true fun c r => if r = true then do let ok ← isTrue c cenv (eval c cenv); pure (ForInStep.yield ok) else pure (ForInStep.yield r))
        (fun ok s₃ => Keeps s₂ s₃ ∧ ok = r.isSome ∧ ∀ dr, r = some dr → wpAny (model prog w) A (eval elt cenv) (fun v' s₄ => Keeps s₃ s₄ ∧ Rep w.params s₄.heap H₂ v' dr) E' s₃) E' s₂)
    (hQ : ∀ L C h' tk m', (∀ b o, s.heap.get? b = some o → @LT.lt Nat _ b L) → s.heap.get? C = none → L ≠ C → h'.Ns C m' → OwnL w.params h' (fun b => H b ∨ b = C) L out → (∀ b o, s.heap.get? b = some o → h'.get? b = some o) →
      compPost (model prog w) A E use Q (.ref L) C (.ok .next) { s with heap := h', toks := tk }) :
    wpAny (model prog w) A (comprehension (.ListComp elt [⟨.Name y py, it, ifs, 0⟩] scope pos) scope env ppos (newList []) false (eval it env) use) Q E s := by
  have hok' := hok
  unfold okScope at hok'
  simp only [Bool.and_eq_true, decide_eq_true_eq, beq_iff_eq, List.all_eq_true, Bool.or_eq_true] at hok'
  obtain ⟨⟨⟨⟨hkind, hnodup⟩, hy⟩, hfree⟩, _⟩ := hok'
  refine wpAny_comprehension_free (cl := clGo env.cells scope.names []) rfl (notSet_folded hset) (closureFor_go fun p hp hf => ?_) hkind (fun x hx hl => by rw [nodup_lookup hnodup x hx, hl]) ?_
  · have hv := hfree p hp
    simp only [hf, bne_self_eq_false, Bool.false_eq_true, false_or] at hv
    obtain ⟨c, h1, _⟩ := R.cell p.1 hv
    exact ⟨c, h1⟩
  refine wpAny_mono hit (fun xv s₁ h₁ => ?_) fun _ _ e => e
  obtain ⟨k1, rep1⟩ := h₁
  have hiter := iter_snd (prog := prog) (E := E) rep1 hh hits
  refine wpAny_mono hiter (fun itv s₂ h₂ => ?_) fun _ _ e => e
  obtain ⟨I, rfl, IA⟩ := h₂
  obtain ⟨fp, P, St, W, hst, hfp, hP, _⟩ := IA.walk
  refine wpAny_newObj_type (newEnvA ?_)
  dsimp only
  obtain ⟨h2, tk2, rfl, k12⟩ := IA.keeps
  obtain ⟨h1, tk1, rfl, k01⟩ := k1
  dsimp only at k12 k01 ⊢
  generalize hh3 : h2.push { cls := .type "list", dict := none, data := .seq ([] : List Value).toArray } = h3
  have R3 : EnvRep h3 env m := (R.keeps k01).keeps fun b o e => hh3 ▸ Heap.get?_push_of_some _ (k12 b o e)
  have RC := compEnv_rep (y := y) R3 hok
  have size3 : h3.objs.size = h2.objs.size + 1 := by rw [← hh3, Heap.size_push]
  obtain ⟨oI, hI⟩ := IA.ex
  dsimp only at hI
  have I_lt : @LT.lt Nat _ I h2.objs.size := Heap.lt_size hI
  have ok := cells_facts h3 scope { cls := .type "dict", data := .dict #[] }
  have k34 : ∀ b o, h3.get? b = some o → (pushCells (h3.push { cls := .type "dict", data := .dict #[] }) scope.names).get? b = some o := fun b o e => pushCells_keeps _ _ b o (Heap.get?_push_of_some _ e)
  have k23 : ∀ b o, h2.get? b = some o → h3.get? b = some o := fun b o e => hh3 ▸ Heap.get?_push_of_some _ e
  have hL3 : h3.get? h2.objs.size = some (lstO #[] 0) := by rw [← hh3]; exact Heap.get?_push_size _ rfl
  have lt1 : ∀ b o, h1.get? b = some o → @LT.lt Nat _ b h2.objs.size := fun b o e => Heap.lt_size (k12 b o e)
  have own_ge : ∀ x c, (x, c) ∈ cellsFrom (h3.objs.size + 1) scope.names [] → @LE.le Nat _ (h3.objs.size + 1) c := fun x c hc => (ok.empty x c hc).2
  have cellb : ∀ x c, (cellsFrom (h3.objs.size + 1) scope.names (clGo env.cells scope.names [])).lookup x = some c → (x, c) ∈ cellsFrom (h3.objs.size + 1) scope.names [] ∨ (∃ o, h1.get? c = some o ∧ True) := by
    intro x c hc
    rw [cellsFrom_app, lookup_app] at hc
    cases hq : (cellsFrom (h3.objs.size + 1) scope.names []).lookup x with
    | some c' => rw [hq] at hc; simp at hc; exact .inl (hc ▸ mem_of_lookup hq)
    | none =>
      rw [hq] at hc
      simp only [Option.none_or] at hc
      obtain ⟨o, ho⟩ := R.ex x c (clGo_sound _ _ (fun _ _ e => by simp at e) x c hc)
      exact .inr ⟨o, k01 _ _ ho, trivial⟩
  have hcellfacts : ∀ x c, (cellsFrom (h3.objs.size + 1) scope.names (clGo env.cells scope.names [])).lookup x = some c → c ≠ h2.objs.size ∧ c ≠ I := by
    intro x c hc
    rcases cellb x c hc with e | ⟨o, e, _⟩
    · have := own_ge x c e
      constructor
      · rintro rfl; omega
      · rintro rfl; omega
    · have := lt1 c o e
      constructor
      · rintro rfl; exact Nat.lt_irrefl _ this
      · rintro rfl; have := IA.fresh; dsimp only at this; rw [e] at this; cases this
  have nIC : I ≠ h3.objs.size := by rintro rfl; omega
  have nLC : h2.objs.size ≠ h3.objs.size := by omega
  have nIL : I ≠ h2.objs.size := by rintro rfl; exact Nat.lt_irrefl _ I_lt
  have hkC : (fun x => (relabel scope env).names.lookup x) = kindC env.kindOf scope := relabel_kind R.kind
  have ynf : scope.names.lookup y ≠ some .free := by rcases hy with e | e <;> (rw [e]; simp)
  have none_of : ∀ b, (∀ o, h1.get? b ≠ some o) → h1.get? b = none := fun b hb => by
    cases e : h1.get? b with
    | none => rfl
    | some o => exact absurd e (hb o)
  have loop : ∀ tk4, codeAny (model prog w) A (.compLoop (.ListComp elt [⟨.Name y py, it, ifs, 0⟩] scope pos) 0 (.ref I) (.ref h2.objs.size)
      { scope := relabel scope env, locals := h3.objs.size, globals := env.globals, cells := cellsFrom (h3.objs.size + 1) scope.names (clGo env.cells scope.names []), qual := env.qual, func := none, code := env.code, frame := env.frame, builtins := env.builtins })
      (compPost (model prog w) A E use Q (.ref h2.objs.size) h3.objs.size) { s with heap := pushCells (h3.push { cls := .type "dict", data := .dict #[] }) scope.names, toks := tk4 } := by
    intro tk4
    refine comp_loop (s := s) (H := H) (m := m) (free := fun x => scope.names.lookup x = some .free) (F := fun b => b = I ∨ b = h2.objs.size ∨ b = h3.objs.size ∨ ∃ x, (x, b) ∈ cellsFrom (h3.objs.size + 1) scope.names []) (h1 := h1) (mC0 := fun x => if scope.names.lookup x = some .free then m x else none)
      W hfp hP ?_ ynf ?_ ?_ RC (fun x hx => by simp [hx]) (.inl rfl) (.inr (.inl rfl)) (.inr (.inr (.inl rfl))) ?_ nIL nIC nLC hcellfacts ?_ ?_ (by show @LE.le Nat _ I h3.objs.size; omega) (hH.keeps k01) k01 (fun b o e => k34 b o (k23 b o (k12 b o e))) hlen hout ?_ ?_
    · show (fun x => (relabel scope env).names.lookup x) y = _ ∨ (fun x => (relabel scope env).names.lookup x) y = _
      rw [hkC, kindC_eq]
      rcases hy with e | e
      · exact .inl (by rw [e]; rfl)
      · exact .inr (by rw [e]; rfl)
    · refine W.frame _ _ _ hst fun b _ o e => k34 b o (k23 b o e)
    · exact ⟨0, k34 _ _ hL3⟩
    · intro c hc
      rcases cellb y c hc with e | ⟨o, e, _⟩
      · exact .inr (.inr (.inr ⟨y, e⟩))
      · exfalso
        have hc' : (cellsFrom (h3.objs.size + 1) scope.names (clGo env.cells scope.names [])).lookup y = some c := hc
        rw [cellsFrom_app, lookup_app] at hc'
        have hym : scope.names.lookup y = some .cell := by
          rcases hy with e1 | e1
          · exfalso
            have hno : (cellsFrom (h3.objs.size + 1) scope.names []).lookup y = none := by
              cases hq : (cellsFrom (h3.objs.size + 1) scope.names []).lookup y with
              | none => rfl
              | some c' =>
                have h5 := (cellsFrom_mem _ _ _ _ (mem_of_lookup hq)).1
                have h6 := nodup_lookup hnodup _ h5
                simp only at h6
                rw [e1] at h6; cases h6
            rw [hno] at hc'
            simp only [Option.none_or] at hc'
            rcases clGo_mem _ _ _ _ hc' with q | q
            · have h6 := nodup_lookup hnodup _ q
              simp only at h6
              rw [e1] at h6; cases h6
            · simp at q
          · exact e1
        obtain ⟨c2, hc2⟩ := cellsFrom_has scope.names (h3.objs.size + 1) y (mem_of_lookup hym)
        obtain ⟨c3, hc3⟩ := lookup_some_of_mem hc2
        rw [hc3] at hc'
        simp at hc'
        subst hc'
        have := own_ge y c3 (mem_of_lookup hc3)
        have := lt1 c3 o e
        omega
    · intro b hb
      refine none_of b fun o e => ?_
      have := lt1 b o e
      rcases hb with rfl | rfl | rfl | ⟨x, hx⟩
      · have := IA.fresh; dsimp only at this; rw [e] at this; cases this
      · exact Nat.lt_irrefl _ this
      · omega
      · have := own_ge x b hx; omega
    · intro b hb hbI
      rcases hb with rfl | rfl | rfl | ⟨x, hx⟩
      · exact absurd rfl hbI
      · exact ⟨_, k34 _ _ hL3⟩
      · obtain ⟨_, ⟨o, _, _, e, _⟩, _⟩ := RC.loc
        exact ⟨o, e⟩
      · obtain ⟨o, e, _⟩ := (ok.empty x b hx).1
        exact ⟨o, e⟩
    · intro s₂ mC H₂ v dv r hm hf RC' hv rv hfv hx kp hsub E'
      refine helt s₂ _ mC H₂ v dv r hm hf ?_ RC' hv rv hfv hx kp hsub E'
      exact hkC
    · intro h' tk m' hns hown hk
      refine hQ h2.objs.size h3.objs.size h' tk m' ?_ ?_ nLC hns ?_ hk
      · exact fun b o e => lt1 _ o (k01 _ o e)
      · cases e : s.heap.get? h3.objs.size with
        | none => rfl
        | some o => have := lt1 _ o (k01 _ o e); omega
      · obtain ⟨vs, n, q1, q2, q3⟩ := hown
        exact ⟨vs, n, q1, q2, q3.mono (fun _ _ _ e => e) fun a o _ q => q.elim (fun q => q.elim (fun q => .inl (.inl q)) fun q => .inl (.inr (.inr (.inr (.inl q))))) fun q => .inr q⟩
  refine codeAny_compStart_list (loop _) (W.self 0 _ _ _ ?_ (loop _))
  exact W.frame _ _ _ hst fun b _ o e => k34 b o (k23 b o e)
end
end Mine
namespace Mine
open PySem PySem.SeqAt

noncomputable def bltNames : List String := ["len", "isinstance", "range", "tuple", "int", "str", "list", "bool", "set", "sum", "max", "min", "sorted"]

structure GOk (mg mb : Str → Option Value) (h : Heap) : Prop where
  g : h.Ns mainGlobals mg
  b : h.Ns builtinsNs mb
  lim : h.NoLimit
  blt : ∀ f ∈ bltNames, mg (Str.ofString f) = none ∧ mb (Str.ofString f) = some (bltVal f)

/-- the heap bears the base; the places in H are laid, and none of the base's -/
structure HOk (base h : Heap) (H : Addr → Prop) : Prop where
  keep : ∀ b o, base.get? b = some o → h.get? b = some o
  ex : Ex h H
  off : ∀ b o, base.get? b = some o → ¬ H b
theorem HOk.keeps {base h h' : Heap} {H : Addr → Prop} (x : HOk base h H) (hk : ∀ a o, h.get? a = some o → h'.get? a = some o) : HOk base h' H :=
  ⟨fun b o e => hk b o (x.keep b o e), x.ex.keeps hk, x.off⟩

structure CSound (prog : Program) (w : World) (base : Heap) (mg : Str → Option Value) (cf : CF) (A : Around) : Prop where
  call : ∀ f ds d fr, cf.call f ds = some (d, fr) → ∃ a o fd, mg (Str.ofString f) = some (.ref a) ∧ base.get? a = some o ∧ o.data = .func fd ∧
    ∀ (s : Shared) (H : Addr → Prop) (vs : List Value) (E : Value → Shared → Prop), HOk base s.heap H → RepAll w.params s.heap H vs ds →
      wpAny (model prog w) A (PySem.call (.ref a) vs) (PostF w s H d fr) E s
  glob : ∀ x d, cf.glob x = some d → ∃ v, mg (Str.ofString x) = some v ∧ Rep w.params base (fun _ => False) v d

/-- what is known of the variables that are read -/
noncomputable def NV (P : Params) (k : KD) (ns : List String) (ρ : List (String × D)) (m : Str → Option Value) (h : Heap) (H : Addr → Prop) : Prop :=
  ∀ x ∈ ns, isVar k (Str.ofString x) = true → ∀ d, ρ.lookup x = some d → ∃ v, m (Str.ofString x) = some v ∧ Rep P h H v d
theorem NV.sub {P : Params} {k : KD} {ns ns' : List String} {ρ : List (String × D)} {m : Str → Option Value} {h : Heap} {H : Addr → Prop} (n : NV P k ns ρ m h H) (hs : ∀ x ∈ ns', x ∈ ns) : NV P k ns' ρ m h H :=
  fun x hx => n x (hs x hx)
theorem NV.keeps {P : Params} {k : KD} {ns : List String} {ρ : List (String × D)} {m : Str → Option Value} {h h' : Heap} {H : Addr → Prop} (n : NV P k ns ρ m h H) (hk : ∀ a o, h.get? a = some o → h'.get? a = some o) : NV P k ns ρ m h' H :=
  fun x hx hv d hd => let ⟨v, h1, h2⟩ := n x hx hv d hd; ⟨v, h1, h2.keeps hk⟩

section
variable {prog : Program} {w : World} {A : Around} {s : Shared} {base : Heap} {mg mb : Str → Option Value} {cf : CF}

/-- a run of an expression is sound -/
noncomputable def SE (prog : Program) (w : World) (A : Around) (base : Heap) (cf : CF) (me : ME) : Prop :=
  ∀ (s : Shared) (env : Env) (e : Expr) (H : Addr → Prop) (ρ : List (String × D)) (m : Str → Option Value) (d : D) (E : Value → Shared → Prop), chkE env.kindOf e me = true → EnvRep s.heap env m →
    HOk base s.heap H → NV w.params env.kindOf me.names ρ m s.heap H → evE cf ρ me = some d → wpAny (model prog w) A (eval e env) (Post w s H d) E s
noncomputable def SEs (prog : Program) (w : World) (A : Around) (base : Heap) (cf : CF) (ms : List ME) : Prop :=
  ∀ (s : Shared) (env : Env) (es : List Expr) (H : Addr → Prop) (ρ : List (String × D)) (m : Str → Option Value) (ds : List D) (E : Value → Shared → Prop), chkEs env.kindOf es ms = true → EnvRep s.heap env m →
    HOk base s.heap H → NV w.params env.kindOf (namesL ms) ρ m s.heap H → evEs cf ρ ms = some ds →
    wpAny (model prog w) A (spliced (es.map fun e => (false, eval e env))) (fun vs s' => Keeps s s' ∧ RepAll w.params s'.heap H vs ds) E s
noncomputable def ST (prog : Program) (w : World) (A : Around) (base : Heap) (cf : CF) (me : ME) : Prop :=
  ∀ (s : Shared) (env : Env) (e : Expr) (H : Addr → Prop) (ρ : List (String × D)) (m : Str → Option Value) (d : D) (t : Bool) (E : Value → Shared → Prop), chkE env.kindOf e me = true → EnvRep s.heap env m →
    HOk base s.heap H → NV w.params env.kindOf me.names ρ m s.heap H → evE cf ρ me = some d → truth d = some t →
    wpAny (model prog w) A (isTrue e env (eval e env)) (fun b s' => Keeps s s' ∧ b = t) E s
noncomputable def SB (prog : Program) (w : World) (A : Around) (base : Heap) (cf : CF) (ms : List ME) : Prop :=
  ∀ (s : Shared) (env : Env) (es : List Expr) (op : BoolOp) (pos : Pos) (H : Addr → Prop) (ρ : List (String × D)) (m : Str → Option Value) (d : D) (E : Value → Shared → Prop), chkEs env.kindOf es ms = true → EnvRep s.heap env m →
    HOk base s.heap H → NV w.params env.kindOf (namesL ms) ρ m s.heap H → evBop cf ρ op ms = some d →
    wpAny (model prog w) A (eval (.BoolOp op es pos) env) (Post w s H d) E s ∧ ∀ t whole, truth d = some t → wpAny (model prog w) A (isTrue (.BoolOp op es pos) env whole) (fun b s' => Keeps s s' ∧ b = t) E s
noncomputable def SC (prog : Program) (w : World) (A : Around) (base : Heap) (cf : CF) (ms : List ME) : Prop :=
  ∀ (s : Shared) (env : Env) (es : List Expr) (H : Addr → Prop) (ρ : List (String × D)) (m : Str → Option Value) (t : Bool) (E : Value → Shared → Prop), chkEs env.kindOf es ms = true → EnvRep s.heap env m →
    HOk base s.heap H → NV w.params env.kindOf (namesL ms) ρ m s.heap H → evCs cf ρ ms = some t →
    wpAny (model prog w) A (forIn es true fun c r => if r = true then do let ok ← isTrue c env (eval c env); pure (ForInStep.yield ok) else pure (ForInStep.yield r)) (fun b s' => Keeps s s' ∧ b = t) E s

/-! leaves -/
theorem se_var (x : String) : SE prog w A base cf (.var x) := by
  intro s env e H ρ m d E hc R hb hn he
  replace hc := inv_var hc; obtain ⟨_, _, rfl, hc⟩ := hc
  · simp only [Bool.and_eq_true, beq_iff_eq] at hc
    obtain ⟨rfl, hv⟩ := hc
    simp only [ev_var, ev_glob, ev_int, ev_str, ev_bool, ev_none, ev_bin, ev_cmp, ev_bop, ev_not, ev_neg, ev_tup, ev_lst, ev_dct, ev_sub, ev_sl, ev_comp, ev_call, ev_isi, ev_blt, ev_lcp] at he
    obtain ⟨v, h1, h2⟩ := hn x (by simp [nm_var, nm_lcp]) hv d he
    exact load_snd R hv h1 ⟨Kp.refl _, h2⟩
theorem se_glob (G : GOk mg mb base) (C : CSound prog w base mg cf A) (x : String) : SE prog w A base cf (.glob x) := by
  intro s env e H ρ m d E hc R hb hn he
  replace hc := inv_glob hc; obtain ⟨_, _, rfl, hc⟩ := hc
  · simp only [Bool.and_eq_true, beq_iff_eq, isGlob, bne_iff_ne] at hc
    obtain ⟨rfl, hv, hd⟩ := hc
    simp only [ev_var, ev_glob, ev_int, ev_str, ev_bool, ev_none, ev_bin, ev_cmp, ev_bop, ev_not, ev_neg, ev_tup, ev_lst, ev_dct, ev_sub, ev_sl, ev_comp, ev_call, ev_isi, ev_blt, ev_lcp] at he
    obtain ⟨v, h1, h2⟩ := C.glob x d he
    refine Calls.Name_function_global R.kind hv (Calls.loadGlobal_global (mg := mg) (by rw [R.glob]; exact G.g.keeps hb.keep) h1 ⟨Kp.refl _, ?_⟩) (by simpa using hd)
    exact h2.mono (fun a o _ e => hb.keep a o e) fun a o e q => absurd q (hb.off a o e)
theorem se_int (i : Int) : SE prog w A base cf (.int i) := by
  intro s env e H ρ m d E hc R hb hn he
  replace hc := inv_int hc; obtain ⟨_, _, rfl⟩ := hc
  · simp only [ev_var, ev_glob, ev_int, ev_str, ev_bool, ev_none, ev_bin, ev_cmp, ev_bop, ev_not, ev_neg, ev_tup, ev_lst, ev_dct, ev_sub, ev_sl, ev_comp, ev_call, ev_isi, ev_blt, ev_lcp] at he; cases he
    exact wpAny_Constant_int ⟨Kp.tok _ _, .int _ _⟩
theorem se_str (x : String) : SE prog w A base cf (.str x) := by
  intro s env e H ρ m d E hc R hb hn he
  replace hc := inv_str hc; obtain ⟨_, _, rfl⟩ := hc
  · simp only [ev_var, ev_glob, ev_int, ev_str, ev_bool, ev_none, ev_bin, ev_cmp, ev_bop, ev_not, ev_neg, ev_tup, ev_lst, ev_dct, ev_sub, ev_sl, ev_comp, ev_call, ev_isi, ev_blt, ev_lcp] at he; cases he
    exact Calls.Constant_str ⟨Kp.tok _ _, .str _ _⟩
theorem se_bool (b : Bool) : SE prog w A base cf (.bool b) := by
  intro s env e H ρ m d E hc R hb hn he
  replace hc := inv_bool hc; obtain ⟨_, _, rfl⟩ := hc
  · simp only [ev_var, ev_glob, ev_int, ev_str, ev_bool, ev_none, ev_bin, ev_cmp, ev_bop, ev_not, ev_neg, ev_tup, ev_lst, ev_dct, ev_sub, ev_sl, ev_comp, ev_call, ev_isi, ev_blt, ev_lcp] at he; cases he
    exact PyProof.Rows.Constant_bool ⟨Kp.refl _, .bool _⟩
theorem se_none : SE prog w A base cf .none := by
  intro s env e H ρ m d E hc R hb hn he
  replace hc := inv_none hc; obtain ⟨_, _, rfl⟩ := hc
  · simp only [ev_var, ev_glob, ev_int, ev_str, ev_bool, ev_none, ev_bin, ev_cmp, ev_bop, ev_not, ev_neg, ev_tup, ev_lst, ev_dct, ev_sub, ev_sl, ev_comp, ev_call, ev_isi, ev_blt, ev_lcp] at he; cases he
    exact PyProof.Rows.Constant_none ⟨Kp.refl _, .none⟩

theorem spliced_ok {es : List Expr} {ms : List ME} {k : KD} (hc : chkEs k es ms = true) (env : Env) : starEach es env = es.map fun e => (false, eval e env) := by
  induction ms generalizing es with
  | nil => cases es with
    | nil => rfl
    | cons _ _ => simp [cs_nil, cs_cons, cs_consn] at hc
  | cons a r ih => cases es with
    | nil => simp [cs_nil, cs_cons, cs_consn] at hc
    | cons e es' =>
      simp only [cs_nil, cs_cons, cs_consn, Bool.and_eq_true] at hc
      have he : ∀ x p, e ≠ .Starred x p := by
        rintro x p rfl
        have := chk_shape hc.1
        cases a <;> cases this
      have : starEach (e :: es') env = (false, eval e env) :: starEach es' env := by
        cases e <;> first | rfl | exact absurd rfl (he _ _)
      rw [this, ih hc.2]; rfl
theorem backTo_ok (pos : Pos) (es : List Expr) (env : Env) : backTo pos (es.map fun e => (false, eval e env)) = es.map fun e => (false, eval e env) := by
  unfold backTo
  rw [List.map_map]
  rfl

/-! nodes -/
noncomputable def SF (prog : Program) (w : World) (A : Around) (base : Heap) (cf : CF) (me : ME) : Prop :=
  ∀ (s : Shared) (env : Env) (e : Expr) (H : Addr → Prop) (ρ : List (String × D)) (m : Str → Option Value) (d : D) (fr : Bool) (E : Value → Shared → Prop), chkE env.kindOf e me = true → EnvRep s.heap env m →
    HOk base s.heap H → NV w.params env.kindOf me.names ρ m s.heap H → evF cf ρ me = some (d, fr) → wpAny (model prog w) A (eval e env) (PostF w s H d fr) E s
theorem sf_bin {op : Operator} {a b : ME} (ha : SE prog w A base cf a) (hb : SE prog w A base cf b) : SF prog w A base cf (.bin op a b) := by
  intro s env e H ρ m d fr E hc R hw hn he
  replace hc := inv_bin hc; obtain ⟨_, _, _, _, rfl, hc⟩ := hc
  · simp only [Bool.and_eq_true, beq_iff_eq] at hc
    obtain ⟨⟨rfl, h1⟩, h2⟩ := hc
    simp only [evF_bin, ev_var, ev_glob, ev_int, ev_str, ev_bool, ev_none, ev_bin, ev_cmp, ev_bop, ev_not, ev_neg, ev_tup, ev_lst, ev_dct, ev_sub, ev_sl, ev_comp, ev_call, ev_isi, ev_blt, ev_lcp, Option.map_eq_some_iff] at he
    obtain ⟨d', he, e'⟩ := he
    cases e'
    split at he
    · rename_i x hx
      split at he
      · rename_i y hy
        refine wpAny_BinOp (wpAny_mono (ha s env _ H ρ m x E h1 R hw (hn.sub fun _ hx => List.mem_append_left _ hx) hx) (fun v s₁ q₁ => ?_) fun _ _ e => e)
        refine wpAny_mono (hb s₁ env _ H ρ m y E h2 (R.keeps (Kp.heap q₁.1)) (hw.keeps (Kp.heap q₁.1)) ((hn.keeps (Kp.heap q₁.1)).sub fun _ hx => List.mem_append_right _ hx) hy) (fun v₂ s₂ q₂ => ?_) fun _ _ e => e
        exact wpAny_mono (bin_snd (q₁.2.keeps (Kp.heap q₂.1)) q₂.2 ((hw.keeps (Kp.heap q₁.1)).keeps (Kp.heap q₂.1)).ex he) (fun v₃ s₃ q₃ => q₃.after (Kp.trans q₁.1 q₂.1)) fun _ _ e => e
      · cases he
    · cases he

theorem se_cmp {op : CmpOp} {a b : ME} (hu : A.units + 1 < cLine) (ha : SE prog w A base cf a) (hb : SE prog w A base cf b) : SE prog w A base cf (.cmp op a b) := by
  intro s env e H ρ m d E hc R hw hn he
  replace hc := inv_cmp hc; obtain ⟨_, _, _, rfl, hc⟩ := hc
  · simp only [Bool.and_eq_true, beq_iff_eq] at hc
    obtain ⟨⟨hs, h1⟩, h2⟩ := hc
    simp only [ev_var, ev_glob, ev_int, ev_str, ev_bool, ev_none, ev_bin, ev_cmp, ev_bop, ev_not, ev_neg, ev_tup, ev_lst, ev_dct, ev_sub, ev_sl, ev_comp, ev_call, ev_isi, ev_blt, ev_lcp] at he
    split at he
    · rename_i x hx
      split at he
      · rename_i y hy
        refine wpAny_Compare1 (wpAny_mono (ha s env _ H ρ m x E h1 R hw (hn.sub fun _ hx => List.mem_append_left _ hx) hx) (fun v s₁ q₁ => ?_) fun _ _ e => e) (notSet_marks hs)
        refine wpAny_mono (hb s₁ env _ H ρ m y E h2 (R.keeps (Kp.heap q₁.1)) (hw.keeps (Kp.heap q₁.1)) ((hn.keeps (Kp.heap q₁.1)).sub fun _ hx => List.mem_append_right _ hx) hy) (fun v₂ s₂ q₂ => ?_) fun _ _ e => e
        refine wpAny_mono (cmp_snd (q₁.2.keeps (Kp.heap q₂.1)) q₂.2 hu he) (fun v₃ s₃ q₃ => ⟨Kp.trans (Kp.trans q₁.1 q₂.1) q₃.1, q₃.2⟩) fun _ _ e => e
      · cases he
    · cases he
theorem st_cmp {op : CmpOp} {a b : ME} (hu : A.units + 1 < cLine) (ha : SE prog w A base cf a) (hb : SE prog w A base cf b) : ST prog w A base cf (.cmp op a b) := by
  intro s env e H ρ m d t E hc R hw hn he ht
  replace hc := inv_cmp hc; obtain ⟨_, _, _, rfl, hc⟩ := hc
  · simp only [Bool.and_eq_true, beq_iff_eq] at hc
    obtain ⟨⟨hs, h1⟩, h2⟩ := hc
    simp only [ev_var, ev_glob, ev_int, ev_str, ev_bool, ev_none, ev_bin, ev_cmp, ev_bop, ev_not, ev_neg, ev_tup, ev_lst, ev_dct, ev_sub, ev_sl, ev_comp, ev_call, ev_isi, ev_blt, ev_lcp] at he
    split at he
    · rename_i x hx
      split at he
      · rename_i y hy
        refine wpAny_isTrue_Compare1 (wpAny_mono (ha s env _ H ρ m x E h1 R hw (hn.sub fun _ hx => List.mem_append_left _ hx) hx) (fun v s₁ q₁ => ?_) fun _ _ e => e) (notSet_marks hs)
        refine wpAny_mono (hb s₁ env _ H ρ m y E h2 (R.keeps (Kp.heap q₁.1)) (hw.keeps (Kp.heap q₁.1)) ((hn.keeps (Kp.heap q₁.1)).sub fun _ hx => List.mem_append_right _ hx) hy) (fun v₂ s₂ q₂ => ?_) fun _ _ e => e
        refine wpAny_mono (cmp_snd (q₁.2.keeps (Kp.heap q₂.1)) q₂.2 hu he) (fun v₃ s₃ q₃ => ?_) fun _ _ e => e
        exact wpAny_mono (truth_snd q₃.2 ht) (fun b s₄ q₄ => ⟨Kp.trans (Kp.trans (Kp.trans q₁.1 q₂.1) q₃.1) q₄.1, q₄.2⟩) fun _ _ e => e
      · cases he
    · cases he
theorem se_not {a : ME} (ha : SE prog w A base cf a) : SE prog w A base cf (.not a) := by
  intro s env e H ρ m d E hc R hw hn he
  replace hc := inv_not hc; obtain ⟨_, _, rfl, hc⟩ := hc
  · simp only [ev_var, ev_glob, ev_int, ev_str, ev_bool, ev_none, ev_bin, ev_cmp, ev_bop, ev_not, ev_neg, ev_tup, ev_lst, ev_dct, ev_sub, ev_sl, ev_comp, ev_call, ev_isi, ev_blt, ev_lcp] at he
    split at he
    · rename_i x hx
      simp only [Option.map_eq_some_iff] at he
      obtain ⟨t, ht, rfl⟩ := he
      refine PyProof.Rows.UnaryOp_ (wpAny_mono (ha s env _ H ρ m x E hc R hw hn hx) (fun v s₁ q₁ => ?_) fun _ _ e => e)
      exact PyProof.Rows.not_of (wpAny_mono (truth_snd q₁.2 ht) (fun b s₂ q₂ => ⟨Kp.trans q₁.1 q₂.1, q₂.2 ▸ .bool _⟩) fun _ _ e => e)
    · cases he
theorem st_not {a : ME} (ha : ST prog w A base cf a) : ST prog w A base cf (.not a) := by
  intro s env e H ρ m d t E hc R hw hn he ht
  replace hc := inv_not hc; obtain ⟨_, _, rfl, hc⟩ := hc
  · simp only [ev_var, ev_glob, ev_int, ev_str, ev_bool, ev_none, ev_bin, ev_cmp, ev_bop, ev_not, ev_neg, ev_tup, ev_lst, ev_dct, ev_sub, ev_sl, ev_comp, ev_call, ev_isi, ev_blt, ev_lcp] at he
    split at he
    · rename_i x hx
      simp only [Option.map_eq_some_iff] at he
      obtain ⟨t', ht', rfl⟩ := he
      cases ht
      exact PyProof.Rows.isTrue_not (wpAny_mono (ha s env _ H ρ m x t' E hc R hw hn hx ht') (fun b s₂ q₂ => ⟨q₂.1, by rw [q₂.2]⟩) fun _ _ e => e)
    · cases he
theorem se_neg {a : ME} (ha : SE prog w A base cf a) : SE prog w A base cf (.neg a) := by
  intro s env e H ρ m d E hc R hw hn he
  replace hc := inv_neg hc; obtain ⟨_, _, rfl, hc⟩ := hc
  · simp only [ev_var, ev_glob, ev_int, ev_str, ev_bool, ev_none, ev_bin, ev_cmp, ev_bop, ev_not, ev_neg, ev_tup, ev_lst, ev_dct, ev_sub, ev_sl, ev_comp, ev_call, ev_isi, ev_blt, ev_lcp] at he
    split at he
    · rename_i i hx
      cases he
      refine PyProof.Rows.UnaryOp_ (wpAny_mono (ha s env _ H ρ m _ E hc R hw hn hx) (fun v s₁ q₁ => ?_) fun _ _ e => e)
      obtain ⟨k, r⟩ := q₁
      cases r
      exact PyProof.Rows.neg_int ⟨Kp.trans k (Kp.tok _ _), .int _ _⟩
    · cases he
theorem ses_nil : SEs prog w A base cf [] := by
  intro s env es H ρ m ds E hc R hw hn he
  cases es with
  | nil => simp only [evs_nil, evs_cons] at he; cases he; exact Calls.spliced_nil ⟨Kp.refl _, .nil⟩
  | cons _ _ => simp [cs_nil, cs_cons, cs_consn] at hc
theorem ses_cons {a : ME} {r : List ME} (ha : SE prog w A base cf a) (hr : SEs prog w A base cf r) : SEs prog w A base cf (a :: r) := by
  intro s env es H ρ m ds E hc R hw hn he
  cases es with
  | nil => simp [cs_nil, cs_cons, cs_consn] at hc
  | cons e es' =>
    simp only [cs_nil, cs_cons, cs_consn, Bool.and_eq_true] at hc
    simp only [evs_nil, evs_cons] at he
    split at he
    · rename_i x hx
      split at he
      · rename_i xs hxs
        cases he
        refine Calls.spliced_cons (wpAny_mono (ha s env _ H ρ m x E hc.1 R hw (hn.sub fun _ hx => List.mem_append_left _ hx) hx) (fun v s₁ q₁ => ?_) fun _ _ e => e)
        refine wpAny_mono (hr s₁ env _ H ρ m xs E hc.2 (R.keeps (Kp.heap q₁.1)) (hw.keeps (Kp.heap q₁.1)) ((hn.keeps (Kp.heap q₁.1)).sub fun _ hx => List.mem_append_right _ hx) hxs) (fun vs s₂ q₂ => ?_) fun _ _ e => e
        exact ⟨Kp.trans q₁.1 q₂.1, .cons (q₁.2.keeps (Kp.heap q₂.1)) q₂.2⟩
      · cases he
    · cases he
theorem se_tup {ms : List ME} (hr : SEs prog w A base cf ms) : SE prog w A base cf (.tup ms) := by
  intro s env e H ρ m d E hc R hw hn he
  replace hc := inv_tup hc; obtain ⟨_, _, _, rfl, hc⟩ := hc
  · simp only [ev_var, ev_glob, ev_int, ev_str, ev_bool, ev_none, ev_bin, ev_cmp, ev_bop, ev_not, ev_neg, ev_tup, ev_lst, ev_dct, ev_sub, ev_sl, ev_comp, ev_call, ev_isi, ev_blt, ev_lcp] at he
    split at he
    · rename_i ds hds
      split at he
      · rename_i hl; cases he
        refine PyProof.Rows.Tuple_ ?_
        rw [spliced_ok hc, backTo_ok]
        refine wpAny_mono (hr s env _ H ρ m ds E hc R hw hn hds) (fun vs s₁ q₁ => ?_) fun _ _ e => e
        have e := q₁.2.length
        refine wpAny_newObj_type ⟨Kp.trans q₁.1 (Kp.push _ _), ?_⟩ (by show vs.toArray.size ≤ sizeLine; rw [List.size_toArray, e]; exact hl)
        exact rep_newTup (hw.keeps (Kp.heap q₁.1)).ex hl (by simpa using q₁.2)
      · cases he
    · cases he
/-- a new list -/
theorem sf_lst {ms : List ME} (hr : SEs prog w A base cf ms) : SF prog w A base cf (.lst ms) := by
  intro s env e H ρ m d fr E hc R hw hn he
  replace hc := inv_lst hc; obtain ⟨_, _, rfl, hc⟩ := hc
  · simp only [evF_lst, ev_var, ev_glob, ev_int, ev_str, ev_bool, ev_none, ev_bin, ev_cmp, ev_bop, ev_not, ev_neg, ev_tup, ev_lst, ev_dct, ev_sub, ev_sl, ev_comp, ev_call, ev_isi, ev_blt, ev_lcp, Option.map_eq_some_iff] at he
    obtain ⟨d', he, e'⟩ := he
    cases e'
    split at he
    · rename_i ds hds
      split at he
      · rename_i hl; cases he
        refine PyProof.Rows.List_ ?_
        rw [spliced_ok hc, backTo_ok]
        refine wpAny_mono (hr s env _ H ρ m ds E hc R hw hn hds) (fun vs s₁ q₁ => ?_) fun _ _ e => e
        have e := q₁.2.length
        have hx := (hw.keeps (Kp.heap q₁.1)).ex
        have own : OwnL w.params (s₁.heap.push (lstO vs.toArray 0)) H s₁.heap.objs.size ds := by
          refine ⟨vs.toArray, 0, Heap.get?_push_size _ rfl, hl, ?_⟩
          have r : RepAll w.params s₁.heap H vs.toArray.toList ds := by simpa using q₁.2
          exact r.mono (fun _ _ _ e => Heap.get?_push_of_some _ e) fun a o e q => q.elim id fun q => absurd (Heap.lt_size e) (q ▸ Nat.lt_irrefl _)
        refine wpAny_newObj_type ⟨Kp.trans q₁.1 (Kp.push _ _), own.rep hx.fresh, fun _ => ⟨_, rfl, ?_, own⟩⟩ (by show vs.toArray.size ≤ sizeLine; rw [List.size_toArray, e]; exact hl)
        cases q : s.heap.get? s₁.heap.objs.size with
        | none => rfl
        | some o => exact absurd (Heap.lt_size (Kp.heap q₁.1 _ _ q)) (Nat.lt_irrefl _)
      · cases he
    · cases he
end
end Mine
namespace Mine
open PySem PySem.SeqAt

section
variable {prog : Program} {w : World} {A : Around} {s : Shared} {base : Heap} {mg mb : Str → Option Value} {cf : CF}

theorem se_of_sf {me : ME} (h : SF prog w A base cf me) (hf : ∀ ρ d, evE cf ρ me = some d → ∃ fr, evF cf ρ me = some (d, fr)) : SE prog w A base cf me := by
  intro s env e H ρ m d E hc R hw hn he
  obtain ⟨fr, hfr⟩ := hf ρ d he
  exact wpAny_mono (h s env e H ρ m d fr E hc R hw hn hfr) (fun _ _ q => ⟨q.1, q.2.1⟩) fun _ _ e => e

theorem subscripted_plain {sl : Expr} {o i : Value} (h : ∀ a b c d, sl ≠ .Slice a b c d) : subscripted sl false o i = operate [o, i] (getItem o i) := by
  cases sl <;> first | rfl | exact absurd rfl (h _ _ _ _)

theorem se_sub {a b : ME} (hu : A.units + 1 < cLine) (ha : SE prog w A base cf a) (hb : SE prog w A base cf b) : SE prog w A base cf (.sub a b) := by
  intro s env e H ρ m d E hc R hw hn he
  replace hc := inv_sub hc; obtain ⟨v, sl, pos, rfl, hns, hc⟩ := hc
  · skip
    simp only [Bool.and_eq_true] at hc
    simp only [ev_var, ev_glob, ev_int, ev_str, ev_bool, ev_none, ev_bin, ev_cmp, ev_bop, ev_not, ev_neg, ev_tup, ev_lst, ev_dct, ev_sub, ev_sl, ev_comp, ev_call, ev_isi, ev_blt, ev_lcp] at he
    split at he
    · rename_i x hx
      split at he
      · rename_i y hy
        refine PyProof.Rows.Subscript_ (wpAny_mono (ha s env _ H ρ m x E hc.1 R hw (hn.sub fun _ hx => List.mem_append_left _ hx) hx) (fun v s₁ q₁ => ?_) fun _ _ e => e)
        refine wpAny_mono (hb s₁ env _ H ρ m y E hc.2 (R.keeps (Kp.heap q₁.1)) (hw.keeps (Kp.heap q₁.1)) ((hn.keeps (Kp.heap q₁.1)).sub fun _ hx => List.mem_append_right _ hx) hy) (fun v₂ s₂ q₂ => ?_) fun _ _ e => e
        obtain ⟨g, T, id, hT, hl⟩ := getItem_snd hu (prog := prog) (w := w) (A := A) (E := E) (q₁.2.keeps (Kp.heap q₂.1)) q₂.2 he
        refine PyProof.Rows.tail_any hT hl (wpAny_mono g (fun v₃ s₃ q₃ => ⟨Kp.trans (Kp.trans q₁.1 q₂.1) q₃.1, q₃.2⟩) fun _ _ e => e) (subscripted_plain fun a b c d q => ?_)
        exact hns a b c d q
      · cases he
    · cases he

/-- a bound of a slice -/
theorem part_snd {a : ME} (ha : SE prog w A base cf a) {s : Shared} {env : Env} {l : Option Expr} {H : Addr → Prop} {ρ : List (String × D)} {m : Str → Option Value} {d : D} {E : Value → Shared → Prop}
    (hc : (match l with | Option.none => a.isNone | some x => chkE env.kindOf x a) = true) (R : EnvRep s.heap env m) (hw : HOk base s.heap H) (hn : NV w.params env.kindOf a.names ρ m s.heap H) (he : evE cf ρ a = some d) :
    wpAny (model prog w) A (evalPart l env) (Post w s H d) E s := by
  cases l with
  | none =>
    have : a = .none := by cases a <;> first | rfl | (cases hc)
    subst this
    simp only [ev_var, ev_glob, ev_int, ev_str, ev_bool, ev_none, ev_bin, ev_cmp, ev_bop, ev_not, ev_neg, ev_tup, ev_lst, ev_dct, ev_sub, ev_sl, ev_comp, ev_call, ev_isi, ev_blt, ev_lcp] at he; cases he
    rw [evalPart_none]
    exact wpAny_pure ⟨Kp.refl _, .none⟩
  | some x => exact ha s env x H ρ m d E hc R hw hn he

theorem take_clip {α : Type} (l : List α) (a b : Nat) : (l.drop (min a l.length)).take (min b l.length - min a l.length) = (l.take b).drop a := by
  rw [List.drop_take]
  apply List.ext_getElem?
  intro i
  simp only [List.getElem?_take, List.getElem?_drop]
  by_cases ha : a ≤ l.length
  · have : min a l.length = a := by omega
    rw [this]
    by_cases hb : b ≤ l.length
    · have : min b l.length = b := by omega
      rw [this]
    · have : min b l.length = l.length := by omega
      rw [this]
      split <;> split <;> first | rfl | omega | (rw [List.getElem?_eq_none (by omega)])
  · have h1 : min a l.length = l.length := by omega
    rw [h1]
    have h2 : ∀ j, l[a + j]? = none := fun j => List.getElem?_eq_none (by omega)
    have h3 : ∀ j, l[l.length + j]? = none := fun j => List.getElem?_eq_none (by omega)
    rw [h2, h3]; simp

theorem slicePick_nat (items : Array Value) {ds : List D} {P : Params} {h : Heap} {H : Addr → Prop} {lo hi : D} {va vb : Value} {a b : Nat} (r : RepAll P h H items.toList ds) (ra : Rep P h H va lo) (rb : Rep P h H vb hi) (ha : bnd lo 0 = some a) (hb : bnd hi ds.length = some b) :
    ∃ ka kb, IsPart va ka ∧ IsPart vb kb ∧ RepAll P h H (slicePick items ka kb none).toList ((ds.take b).drop a) := by
  have e := r.length
  simp only [Array.length_toList] at e
  have key : ∀ (ka kb : Option Int) (a b : Nat), (ka.elim 0 (clipAt items.size)) = min a items.size → (kb.elim items.size (clipAt items.size)) = min b items.size →
      RepAll P h H (slicePick items ka kb none).toList ((ds.take b).drop a) := by
    intro ka kb a b h1 h2
    rw [slicePick_plain]
    rw [h1, h2]
    have := take_clip items.toList a b
    simp only [Array.length_toList] at this
    simp only [this]
    exact (r.take b).drop a
  have bounds : ∀ {v : Value} {x : D} {n : Nat} (dflt : Nat), Rep P h H v x → bnd x dflt = some n → ∃ k, IsPart v k ∧ ((k = none ∧ n = dflt) ∨ k = some (n : Int)) := by
    intro v x n dflt rv hv
    cases rv <;> simp only [bnd] at hv <;> (try cases hv)
    · exact ⟨none, .none, .inl ⟨rfl, rfl⟩⟩
    · split at hv
      · cases hv
        rename_i i t hi
        refine ⟨some i, .int _ _, .inr ?_⟩
        rw [Int.toNat_of_nonneg hi]
      · cases hv
  obtain ⟨ka, pa, ea⟩ := bounds 0 ra ha
  obtain ⟨kb, pb, eb⟩ := bounds ds.length rb hb
  refine ⟨ka, kb, pa, pb, key ka kb a b ?_ ?_⟩
  · rcases ea with ⟨rfl, rfl⟩ | rfl
    · simp
    · simpa using clipAt_nat items.size a
  · rcases eb with ⟨rfl, rfl⟩ | rfl
    · simp [e]
    · simpa using clipAt_nat items.size b

theorem part_str {P : Params} {h : Heap} {H : Addr → Prop} {v : Value} {d : D} {a : Option Int} (r : Rep P h H v d) (ha : bndS d = some a) : ∃ l : Option (Int × Tok), v = partValue l ∧ l.map (·.1) = a := by
  cases r <;> simp only [bndS] at ha <;> cases ha
  · exact ⟨none, rfl, rfl⟩
  · exact ⟨some (_, _), rfl, rfl⟩
theorem sl_str {x : Str} {t : Tok} {vl vu : Value} {lo hi d : D} {H : Addr → Prop} {E : Value → Shared → Prop} (rl : Rep w.params s.heap H vl lo) (ru : Rep w.params s.heap H vu hi) (he : slD (.str x) lo hi = some d) {a : Addr}
    (ho : s.heap.get? a = some { cls := .type "slice", data := .fields #[vl, vu, .none] }) : wpAny (model prog w) A (getItem (.str x t) (.ref a)) (PostF w s H d d.isList) E s := by
  simp only [slD] at he
  split at he
  · rename_i hsz
    rw [Option.bind_eq_some_iff] at he
    obtain ⟨a', h1, he⟩ := he
    rw [Option.map_eq_some_iff] at he
    obtain ⟨b', h2, rfl⟩ := he
    obtain ⟨l, rfl, rfl⟩ := part_str rl h1
    obtain ⟨u, rfl, rfl⟩ := part_str ru h2
    exact wpAny_getItem_str_slice (st := none) ⟨_, ho, rfl, rfl⟩ rfl (post_val_or_str ⟨Nat.le_trans (Txt.slice_le _ _ _) hsz, fun t' k => ⟨Kp.tok _ _, .str _ _, fun e => nomatch e⟩⟩)
  · cases he
theorem sl_list {x : Value} {ds : List D} {vl vu : Value} {lo hi d : D} {H : Addr → Prop} {E : Value → Shared → Prop} (hH : Ex s.heap H) (rx : Rep w.params s.heap H x (.list ds)) (rl : Rep w.params s.heap H vl lo) (ru : Rep w.params s.heap H vu hi) (he : slD (.list ds) lo hi = some d) {a : Addr}
    (ho : s.heap.get? a = some { cls := .type "slice", data := .fields #[vl, vu, .none] }) : wpAny (model prog w) A (getItem x (.ref a)) (PostF w s H d d.isList) E s := by
  simp only [slD] at he
  rw [Option.bind_eq_some_iff] at he
  obtain ⟨a', h1, he⟩ := he
  rw [Option.map_eq_some_iff] at he
  obtain ⟨b', h2, rfl⟩ := he
  cases rx with
  | list hx hno hle hr =>
    obtain ⟨ka, kb, p1, p2, r⟩ := slicePick_nat _ hr rl ru h1 h2
    have e := hr.length
    simp only [Array.length_toList] at e
    refine wpAny_getItem_list_slice (isList_of hx) ⟨_, ho, rfl, rfl⟩ p1 p2 .none (by simp) ?_ (by rw [e]; exact hle)
    exact post_newList hH (by simp only [List.length_drop, List.length_take]; omega) r (fun _ _ e => Heap.get?_push_of_some _ e) (Heap.get?_push_size _ rfl)
theorem part_nat {P : Params} {h : Heap} {H : Addr → Prop} {v : Value} {x : D} {n : Nat} (dflt : Nat) (rv : Rep P h H v x) (hv : bnd x dflt = some n) : ∃ k, IsPart v k ∧ ((k = none ∧ n = dflt) ∨ k = some (n : Int)) := by
  cases rv <;> simp only [bnd] at hv <;> (try cases hv)
  · exact ⟨none, .none, .inl ⟨rfl, rfl⟩⟩
  · split at hv
    · cases hv
      rename_i i t hi
      refine ⟨some i, .int _ _, .inr ?_⟩
      rw [Int.toNat_of_nonneg hi]
    · cases hv
theorem slicePart_snd {v : Value} {k : Option Int} {Q : Option Int → Shared → Prop} {E : Value → Shared → Prop} (hp : IsPart v k) (h : Q k s) : wpAny (model prog w) A (Builtin.Slice.slicePartIndex v) Q E s := by
  cases hp with
  | none => exact PyProof.Rows.slicePart_none h
  | int i t => exact PyProof.Rows.slicePart_int h
theorem adjust_nat {ka kb : Option Int} {a b n : Nat} (ha : (ka = none ∧ a = 0) ∨ ka = some (a : Int)) (hb : (kb = none ∧ b = n) ∨ kb = some (b : Int)) : Builtin.Slice.sliceAdjust ka kb 1 (n : Int) = (((min a n : Nat) : Int), ((min b n : Nat) : Int)) := by
  unfold Builtin.Slice.sliceAdjust
  have h1 : ¬ ((1 : Int) < 0) := by omega
  simp only [h1, if_false]
  congr 1
  · rcases ha with ⟨rfl, rfl⟩ | rfl
    · show (0 : Int) = _; omega
    · show (if (a : Int) < 0 then _ else _) = _
      rw [if_neg (by omega)]; omega
  · rcases hb with ⟨rfl, rfl⟩ | rfl
    · show (b : Int) = _; omega
    · show (if (b : Int) < 0 then _ else _) = _
      rw [if_neg (by omega)]; omega
theorem places_nat (a b : Nat) : Builtin.Slice.slicePlaces (a : Int) (b : Int) 1 = b - a := by
  unfold Builtin.Slice.slicePlaces
  have h1 : (1 : Int) > 0 := by omega
  simp only [h1, if_true, Int.ediv_one]
  split <;> omega
theorem pick_nat (xs : Array Value) (a k : Nat) : ((List.range k).filterMap fun (j : Nat) => xs[((a : Int) + (j : Int) * 1).toNat]?) = (xs.toList.drop a).take k := by
  have e : (fun (j : Nat) => xs[((a : Int) + (j : Int) * 1).toNat]?) = fun j => xs[a + j]? := by
    funext j
    have : ((a : Int) + (j : Int) * 1).toNat = a + j := by omega
    rw [this]
  rw [e]
  have := pick_run xs a k
  rw [List.filterMap_map] at this
  exact this
theorem sliceApplied_nat {sl : Addr} {vl vu : Value} {ka kb : Option Int} {a b n : Nat} {Q : Int × Int × Nat → Shared → Prop} {E : Value → Shared → Prop} (hs : s.heap.get? sl = some { cls := .type "slice", data := .fields #[vl, vu, .none] }) (p1 : IsPart vl ka) (p2 : IsPart vu kb)
    (ha : (ka = none ∧ a = 0) ∨ ka = some (a : Int)) (hb : (kb = none ∧ b = n) ∨ kb = some (b : Int)) (h : Q (((min a n : Nat) : Int), 1, min b n - min a n) s) : wpAny (model prog w) A (Builtin.Slice.sliceApplied (.ref sl) (pure (n : Int))) Q E s := by
  unfold Builtin.Slice.sliceApplied Builtin.Slice.sliceFields
  refine wpAny_bind (wpAny_bind (wpAny_field hs rfl (x := vl) rfl (wpAny_bind (wpAny_field hs rfl (x := vu) rfl (wpAny_bind (wpAny_field hs rfl (x := .none) rfl (wpAny_pure ?_)))))))
  refine wpAny_bind (PyProof.Rows.slicePart_none ?_)
  show wpAny _ _ (if ((1 : Int) == 0) = true then _ else _) _ _ s
  rw [if_neg (by decide)]
  refine wpAny_bind (slicePart_snd p1 (wpAny_bind (slicePart_snd p2 (wpAny_bind (wpAny_pure ?_)))))
  show wpAny _ _ (match Builtin.Slice.sliceAdjust ka kb 1 (n : Int) with | (lo, hi) => pure (lo, (1 : Int), Builtin.Slice.slicePlaces lo hi 1)) _ _ s
  rw [adjust_nat ha hb]
  show wpAny _ _ (pure (((min a n : Nat) : Int), (1 : Int), Builtin.Slice.slicePlaces ((min a n : Nat) : Int) ((min b n : Nat) : Int) 1)) _ _ s
  rw [places_nat]
  exact wpAny_pure h
theorem sl_tup {x : Value} {ds : List D} {vl vu : Value} {lo hi d : D} {H : Addr → Prop} {E : Value → Shared → Prop} (hH : Ex s.heap H) (rx : Rep w.params s.heap H x (.tup ds)) (rl : Rep w.params s.heap H vl lo) (ru : Rep w.params s.heap H vu hi) (he : slD (.tup ds) lo hi = some d) {sl : Addr}
    (ho : s.heap.get? sl = some { cls := .type "slice", data := .fields #[vl, vu, .none] }) : wpAny (model prog w) A (getItem x (.ref sl)) (PostF w s H d d.isList) E s := by
  simp only [slD] at he
  rw [Option.bind_eq_some_iff] at he
  obtain ⟨a, h1, he⟩ := he
  rw [Option.map_eq_some_iff] at he
  obtain ⟨b, h2, rfl⟩ := he
  have rx' := rx
  cases rx with
  | @tup t items n _ hx hno hle hr =>
    have e := hr.length
    simp only [Array.length_toList] at e
    obtain ⟨ka, p1, qa⟩ := part_nat 0 rl h1
    obtain ⟨kb, p2, qb⟩ := part_nat ds.length ru h2
    have ht := isTup_of hx
    have hTs : s.TypeIs (.ref sl) "slice" := ⟨_, ho, rfl⟩
    have hclip : RepAll w.params s.heap H ((items.toList.drop (min a items.size)).take (min b items.size - min a items.size)) ((ds.take b).drop a) := by
      have := take_clip items.toList a b
      simp only [Array.length_toList] at this
      rw [this]
      exact (hr.take b).drop a
    unfold getItem
    try with_reducible refine wpAny_holding ?_
    first | refine wpAny_bind (wpAny_pure ?_) | skip
    refine wpAny_bind (wpAny_sequenceKey ht.typeIs (by decide) ?_)
    refine wpAny_bind (wpAny_callSpecial?_slot (name := Str.ofString "__getitem__") ht.typeIs PyProof.Rows.slot_tuple_getitem
      (wpAny_call_entry PyProof.Rows.slot_tuple_getitem ht.typeIs PyProof.Rows.entry_tuple_getitem ?_ (PyProof.Rows.args_tuple_getitem _ _)))
    show wpAny _ _ (Builtin.Tuple.tupleItemsOf (.ref t) >>= _) _ _ s
    refine wpAny_bind (PyProof.Rows.tupleItemsOf_ ht ?_)
    refine wpAny_bind (wpAny_typeOf hTs ?_)
    rw [if_pos (by decide)]
    rw [← e] at qb
    refine wpAny_bind (sliceApplied_nat ho p1 p2 qa qb ?_)
    show wpAny _ _ (if (((min a items.size : Nat) : Int) == 0 && (1 : Int) == 1 && (min b items.size - min a items.size) == items.size) = true then _ else _) _ _ s
    split
    · rename_i hc
      simp only [Bool.and_eq_true, beq_iff_eq] at hc
      obtain ⟨⟨c1, -⟩, c2⟩ := hc
      have e0 : min a items.size = 0 := by omega
      rw [e0, Nat.sub_zero] at c2
      rw [e0, Nat.sub_zero, c2, List.drop_zero, ← Array.length_toList, List.take_length] at hclip
      refine wpAny_bind (m := Builtin.Tuple.tupleIsExact _) (wpAny_bind (wpAny_typeOf ht.typeIs (wpAny_pure ?_)))
      rw [if_pos (by decide)]
      have hlen : ((ds.take b).drop a).length ≤ big := by simp only [List.length_drop, List.length_take]; omega
      exact wpAny_bind (wpAny_rule (wpAny_pure ⟨_, rfl, wpAny_pure ⟨Kp.refl _, .tup hx hno hlen hclip, nofun⟩⟩))
    · rw [pick_nat]
      have hlen : ((ds.take b).drop a).length ≤ big := by simp only [List.length_drop, List.length_take]; omega
      have hsz : sizeOk (.seq ((items.toList.drop (min a items.size)).take (min b items.size - min a items.size)).toArray) := by
        show ((items.toList.drop (min a items.size)).take (min b items.size - min a items.size)).toArray.size ≤ sizeLine
        rw [List.size_toArray, hclip.length]; exact Nat.le_trans hlen (by decide)
      exact wpAny_bind (m := Builtin.Tuple.tupleExact _) (wpAny_newObj_type (wpAny_pure ⟨_, rfl, wpAny_pure ⟨Kp.push _ _, rep_newTup hH hlen (by simpa using hclip), nofun⟩⟩) hsz)
theorem slice_snd {v : Value} {x : D} {vl vu : Value} {lo hi d : D} {H : Addr → Prop} {E : Value → Shared → Prop} (hH : Ex s.heap H) (rx : Rep w.params s.heap H v x) (rl : Rep w.params s.heap H vl lo) (ru : Rep w.params s.heap H vu hi) (he : slD x lo hi = some d) {a : Addr}
    (ho : s.heap.get? a = some { cls := .type "slice", data := .fields #[vl, vu, .none] }) : wpAny (model prog w) A (getItem v (.ref a)) (PostF w s H d d.isList) E s ∧ ∃ T id, s.TypeIs v T ∧ typeLookup (.type T) "__getitem__" = pure (some (.builtin id)) := by
  cases x <;> first | (cases he; done) | skip
  · skip
    cases rx
    exact ⟨sl_str rl ru he ho, "str", _, typeIs_str _ _ _, F.slot_str_getitem.lookup⟩
  · refine ⟨sl_tup hH rx rl ru he ho, "tuple", ?_⟩
    cases rx with
    | tup hx => exact ⟨_, (isTup_of hx).typeIs, F.slot_tuple_getitem.lookup⟩
  · refine ⟨sl_list hH rx rl ru he ho, "list", ?_⟩
    cases rx with
    | list hx => exact ⟨_, (isList_of hx).typeIs, F.slot_list_getitem.lookup⟩
theorem sf_sl {a lo hi : ME} (ha : SE prog w A base cf a) (hl : SE prog w A base cf lo) (hh : SE prog w A base cf hi) : SF prog w A base cf (.sl a lo hi) := by
  intro s env e H ρ m d fr E hc R hw hn he
  replace hc := inv_sl hc; obtain ⟨_, _, _, _, _, rfl, hc⟩ := hc
  · rename_i v l u p pos
    simp only [Bool.and_eq_true] at hc
    obtain ⟨⟨h1, h2⟩, h3⟩ := hc
    simp only [evF_sl, ev_var, ev_glob, ev_int, ev_str, ev_bool, ev_none, ev_bin, ev_cmp, ev_bop, ev_not, ev_neg, ev_tup, ev_lst, ev_dct, ev_sub, ev_sl, ev_comp, ev_call, ev_isi, ev_blt, ev_lcp, Option.map_eq_some_iff] at he
    obtain ⟨d', he, e'⟩ := he
    cases e'
    split at he
    · rename_i x hx
      split at he
      · rename_i y hy
        split at he
        · rename_i z hz
          refine PyProof.Rows.Subscript_ (wpAny_mono (ha s env _ H ρ m x E h1 R hw (hn.sub fun _ hx => List.mem_append_left _ (List.mem_append_left _ hx)) hx) (fun v s₁ q₁ => ?_) fun _ _ e => e)
          refine wpAny_Slice ?_
          refine wpAny_mono (part_snd hl h2 (R.keeps (Kp.heap q₁.1)) (hw.keeps (Kp.heap q₁.1)) ((hn.keeps (Kp.heap q₁.1)).sub fun _ hx => List.mem_append_left _ (List.mem_append_right _ hx)) hy) (fun vl s₂ q₂ => ?_) fun _ _ e => e
          have k2 := Kp.trans q₁.1 q₂.1
          refine wpAny_mono (part_snd hh h3 (R.keeps (Kp.heap k2)) (hw.keeps (Kp.heap k2)) ((hn.keeps (Kp.heap k2)).sub fun _ hx => List.mem_append_right _ hx) hz) (fun vu s₃ q₃ => ?_) fun _ _ e => e
          rw [evalPart_none]
          refine wpAny_pure ?_
          have k3 := Kp.trans k2 q₃.1
          have kp := Kp.push s₃ { cls := .type "slice", data := .fields #[vl, vu, .none] }
          have rx := (q₁.2.keeps (Kp.heap (Kp.trans q₂.1 q₃.1))).keeps (Kp.heap kp)
          have rl := (q₂.2.keeps (Kp.heap q₃.1)).keeps (Kp.heap kp)
          have ru := q₃.2.keeps (Kp.heap kp)
          have hex := ((hw.keeps (Kp.heap k3)).keeps (Kp.heap kp)).ex
          have ho := Heap.get?_push_size s₃.heap (o := { cls := .type "slice", data := .fields #[vl, vu, .none] }) rfl
          obtain ⟨g1, T, id, g2, g3⟩ := slice_snd (prog := prog) (A := A) (E := E) (s := { s₃ with heap := s₃.heap.push { cls := .type "slice", data := .fields #[vl, vu, .none] } }) hex rx rl ru he ho
          exact PyProof.Rows.tail_any (ops := [_, _]) g2 g3 (wpAny_mono g1 (fun _ _ q => q.after (Kp.trans k3 kp)) fun _ _ e => e) rfl
        · cases he
      · cases he
    · cases he
end
end Mine
namespace Mine
open PySem PySem.SeqAt

section
variable {prog : Program} {w : World} {A : Around} {s : Shared} {base : Heap} {mg mb : Str → Option Value} {cf : CF}

theorem evalArgs_snd {f : Value} {es : List Expr} {ms : List ME} {env : Env} {pos : Pos} {Q : Args → Shared → Prop} {E : Value → Shared → Prop} (hc : chkEs env.kindOf es ms = true)
    (h : wpAny (model prog w) A (spliced (es.map fun e => (false, eval e env))) (fun vs s' => Q ⟨vs, []⟩ s') E s) :
    wpAny (model prog w) A (evalArgs f true (backTo pos (starEach es env)) []) Q E s := by
  rw [spliced_ok hc, backTo_ok]
  cases es with
  | nil =>
    unfold evalArgs
    show wpAny _ A (spliced [] >>= _) Q E s
    refine wpAny_bind (wpAny_mono h (fun vs s' h' => ?_) fun _ _ x => x)
    refine wpAny_bind (wpAny_pure ?_)
    refine wpAny_holding ?_
    exact wpAny_bind (wpAny_pure (wpAny_bind (wpAny_pure (wpAny_pure h'))))
  | cons e es => exact Calls.evalArgs_plain h

theorem any_false (es : List Expr) (env : Env) : ((es.map fun e => (false, eval e env)).any (·.1)) = false := by
  induction es with
  | nil => rfl
  | cons _ _ ih => simpa using ih

theorem sf_call (G : GOk mg mb base) (C : CSound prog w base mg cf A) {f : String} {ms : List ME} (hr : SEs prog w A base cf ms) : SF prog w A base cf (.call f ms) := by
  intro s env e H ρ m d fr E hc R hw hn he
  replace hc := inv_call hc; obtain ⟨_, _, _, _, rfl, hc⟩ := hc
  · rename_i g gp as pos
    simp only [Bool.and_eq_true, beq_iff_eq, isGlob, bne_iff_ne] at hc
    obtain ⟨⟨rfl, hk, hd⟩, hc⟩ := hc
    simp only [evF_call] at he
    split at he
    · rename_i ds hds
      obtain ⟨a, o, fd, h1, h2, h3, h4⟩ := C.call f ds d fr he
      refine PyProof.Rows.Call_Name rfl (Calls.Name_function_global R.kind hk (Calls.loadGlobal_global (mg := mg) (by rw [R.glob]; exact G.g.keeps hw.keep) h1 ?_) (by simpa using hd))
      refine Calls.callWith_function (o := o) (fd := fd) (evalArgs_snd hc ?_)
      refine wpAny_mono (hr s env as H ρ m ds E hc R hw hn hds) (fun vs s₁ q₁ => ⟨⟨(hw.keeps (Kp.heap q₁.1)).keep _ _ h2, h3⟩, ?_⟩) fun _ _ e => e
      refine wpAny_mono (h4 s₁ H vs E (hw.keeps (Kp.heap q₁.1)) q₁.2) (fun v s₂ q₂ => ⟨Kp.trans q₁.1 q₂.1, q₂.2.1, fun hf => ?_⟩) fun _ _ e => e
      obtain ⟨a', e1, e3, e4⟩ := q₂.2.2 hf
      refine ⟨a', e1, ?_, e4⟩
      cases q : s.heap.get? a' with
      | none => rfl
      | some o' => rw [Kp.heap q₁.1 _ _ q] at e3; cases e3
    · cases he

theorem name_blt (G : GOk mg mb base) {env : Env} {m : Str → Option Value} {H : Addr → Prop} {f : String} {p : Pos} {E : Value → Shared → Prop} {Q : Value → Shared → Prop} (hf : f ∈ bltNames) (R : EnvRep s.heap env m) (hw : HOk base s.heap H)
    (hk : env.kindOf (Str.ofString f) = some .globalImplicit) (hd : Str.ofString f ≠ Str.ofString "__debug__") (h : Q (bltVal f) s) : wpAny (model prog w) A (eval (.Name (Str.ofString f) p) env) Q E s := by
  obtain ⟨h1, h2⟩ := G.blt f hf
  exact Calls.Name_function_global R.kind hk (Calls.loadGlobal_builtin (mg := mg) (mb := mb) (by rw [R.glob]; exact G.g.keeps hw.keep) h1 (by rw [R.blt]; exact G.b.keeps hw.keep) h2 h) (by simpa using hd)

theorem callWith_blt {f : String} {pos : Pos} {es : List Expr} {ms : List ME} {env : Env} {Q : Value → Shared → Prop} {E : Value → Shared → Prop} (hc : chkEs env.kindOf es ms = true)
    (h : wpAny (model prog w) A (spliced (es.map fun e => (false, eval e env))) (fun vs s' => wpAny (model prog w) A (call (bltVal f) vs) Q E s') E s) :
    wpAny (model prog w) A (callWith pos (bltVal f) [] (backTo pos (starEach es env)) []) Q E s := by
  have hp : (backTo pos (starEach es env)).any (·.1) = false := by rw [spliced_ok hc, backTo_ok]; exact any_false _ _
  have key : (∃ id, bltVal f = .builtin id) ∨ ∃ T, bltVal f = .type T := by
    unfold bltVal; split <;> first | exact .inl ⟨_, rfl⟩ | exact .inr ⟨_, rfl⟩
  rcases key with ⟨id, e⟩ | ⟨T, e⟩
  · rw [e] at h ⊢; exact Calls.callWith_builtin hp (evalArgs_snd hc h)
  · rw [e] at h ⊢; exact PyProof.Rows.callWith_type hp (evalArgs_snd hc h)

theorem se_blt (G : GOk mg mb base) (hh : A.handled = none) {f : String} {ms : List ME} (hf : f ∈ bltNames) (hr : SEs prog w A base cf ms) : SE prog w A base cf (.blt f ms) := by
  intro s env e H ρ m d E hc R hw hn he
  replace hc := inv_blt hc; obtain ⟨_, _, _, _, rfl, hc⟩ := hc
  · rename_i g gp as pos
    simp only [Bool.and_eq_true, beq_iff_eq, isGlob, bne_iff_ne] at hc
    obtain ⟨⟨rfl, hk, hd⟩, hc⟩ := hc
    simp only [ev_var, ev_glob, ev_int, ev_str, ev_bool, ev_none, ev_bin, ev_cmp, ev_bop, ev_not, ev_neg, ev_tup, ev_lst, ev_dct, ev_sub, ev_sl, ev_comp, ev_call, ev_isi, ev_blt, ev_lcp] at he
    split at he
    · rename_i ds hds
      refine PyProof.Rows.Call_Name rfl (name_blt G hf R hw hk hd (callWith_blt hc ?_))
      refine wpAny_mono (hr s env as H ρ m ds E hc R hw hn hds) (fun vs s₁ q₁ => ?_) fun _ _ e => e
      exact wpAny_mono (blt_snd hh q₁.2 (hw.keeps (Kp.heap q₁.1)).ex he) (fun v s₂ q₂ => ⟨Kp.trans q₁.1 q₂.1, q₂.2⟩) fun _ _ e => e
    · cases he
theorem sf_lcp (G : GOk mg mb base) (hh : A.handled = none) {a : ME} (hr : SEs prog w A base cf [a]) : SF prog w A base cf (.lcp a) := by
  intro s env e H ρ m d fr E hc R hw hn he
  replace hc := inv_lcp hc; obtain ⟨g, gp, x, pos, rfl, hc, hx⟩ := hc
  simp only [Bool.and_eq_true, beq_iff_eq, isGlob, bne_iff_ne] at hc
  obtain ⟨rfl, hk, hd⟩ := hc
  simp only [evF_lcp, ev_var, ev_glob, ev_int, ev_str, ev_bool, ev_none, ev_bin, ev_cmp, ev_bop, ev_not, ev_neg, ev_tup, ev_lst, ev_dct, ev_sub, ev_sl, ev_comp, ev_call, ev_isi, ev_blt, ev_lcp, Option.map_eq_some_iff] at he
  obtain ⟨d', he, e'⟩ := he
  cases e'
  split at he
  · rename_i dx hdx
    rw [Option.map_eq_some_iff] at he
    obtain ⟨ds, he, rfl⟩ := he
    have hc' : chkEs env.kindOf [x] [a] = true := by simp [cs_nil, cs_cons, cs_consn, hx]
    refine PyProof.Rows.Call_Name rfl (name_blt G (f := "list") (by decide) R hw hk hd (callWith_blt hc' ?_))
    refine wpAny_mono (hr s env [x] H ρ m [dx] E hc' R hw (hn.sub fun y hy => by simpa [nms_nil, nms_cons, nm_var, nm_lcp] using hy) (by simp [evs_nil, evs_cons, hdx])) (fun vs s₁ q₁ => ?_) fun _ _ e => e
    obtain ⟨k, r⟩ := q₁
    cases r with
    | cons r1 r2 =>
      cases r2
      exact wpAny_mono (lst_snd hh r1 (hw.keeps (Kp.heap k)).ex he) (fun v s₂ q₂ => q₂.after k) fun _ _ e => e
  · cases he

theorem se_isi (G : GOk mg mb base) {a : ME} {T : String} (ha : SE prog w A base cf a) : SE prog w A base cf (.isi a T) := by
  intro s env e H ρ m d E hc R hw hn he
  replace hc := inv_isi hc; obtain ⟨_, _, _, _, _, _, rfl, hc⟩ := hc
  · rename_i g gp x t tp pos
    simp only [Bool.and_eq_true, beq_iff_eq, isGlob, bne_iff_ne] at hc
    obtain ⟨⟨⟨⟨rfl, hk, hd⟩, rfl⟩, hk2, hd2⟩, hc⟩ := hc
    simp only [ev_var, ev_glob, ev_int, ev_str, ev_bool, ev_none, ev_bin, ev_cmp, ev_bop, ev_not, ev_neg, ev_tup, ev_lst, ev_dct, ev_sub, ev_sl, ev_comp, ev_call, ev_isi, ev_blt, ev_lcp] at he
    split at he
    · rename_i dx hdx
      simp only [Option.map_eq_some_iff] at he
      obtain ⟨b, hb, rfl⟩ := he
      have hT : T ∈ bltNames ∧ bltVal T = .type T := by
        unfold isiD at hb
        split at hb
        · rename_i h
          rcases h with rfl | rfl | rfl | rfl | rfl <;> exact ⟨by decide, rfl⟩
        · cases hb
      have hs : starEach [x, .Name (Str.ofString T) tp] env = [(false, eval x env), (false, eval (.Name (Str.ofString T) tp) env)] := by
        have := spliced_ok (es := [x]) (ms := [a]) (k := env.kindOf) (by simp [cs_nil, cs_cons, cs_consn, hc]) env
        have hx : ∀ y p, x ≠ .Starred y p := by
          rintro y p rfl
          simp [starEach] at this
        cases x <;> first | rfl | exact absurd rfl (hx _ _)
      refine PyProof.Rows.Call_Name (trees := [(false, eval x env), (false, eval (.Name (Str.ofString T) tp) env)]) (by rw [hs]; rfl) (name_blt G (f := "isinstance") (by decide) R hw hk hd ?_)
      refine Calls.callWith_builtin rfl (Calls.evalArgs_plain (Calls.spliced_cons ?_))
      refine wpAny_mono (ha s env x H ρ m dx E hc R hw hn hdx) (fun v s₁ q₁ => Calls.spliced_cons ?_) fun _ _ e => e
      refine name_blt G hT.1 (R.keeps (Kp.heap q₁.1)) (hw.keeps (Kp.heap q₁.1)) hk2 hd2 (Calls.spliced_nil ?_)
      rw [hT.2]
      exact wpAny_mono (isi_snd q₁.2 hb) (fun v s₂ q₂ => ⟨Kp.trans q₁.1 q₂.1, q₂.2⟩) fun _ _ e => e
    · cases he
end
end Mine
namespace Mine
open PySem PySem.SeqAt

section
variable {prog : Program} {w : World} {A : Around} {s : Shared} {base : Heap} {mg mb : Str → Option Value} {cf : CF}

theorem st_plain {me : ME} (h : SE prog w A base cf me) (hp : ∀ e k env whole, chkE k e me = true → isTrue e env whole = (do let v ← whole; standAt e.pos; holding [v] (truthy v))) : ST prog w A base cf me := by
  intro s env e H ρ m d t E hc R hw hn he ht
  refine PyProof.Rows.isTrue_plain (wpAny_mono (h s env e H ρ m d E hc R hw hn he) (fun v s₁ q₁ => ?_) fun _ _ e => e) (hp e _ env _ hc)
  exact wpAny_mono (truth_snd q₁.2 ht) (fun b s₂ q₂ => ⟨Kp.trans q₁.1 q₂.1, q₂.2⟩) fun _ _ e => e

theorem sb_nil : SB prog w A base cf [] := by
  intro s env es op pos H ρ m d E hc R hw hn he
  simp only [evBop] at he; cases he

theorem sb_one {a : ME} (ha : SE prog w A base cf a) (ta : ST prog w A base cf a) : SB prog w A base cf [a] := by
  intro s env es op pos H ρ m d E hc R hw hn he
  cases es with
  | nil => simp [cs_nil, cs_cons, cs_consn] at hc
  | cons e es' =>
    simp only [cs_nil, cs_cons, cs_consn, Bool.and_eq_true, List.isEmpty_iff] at hc
    obtain ⟨hc, rfl⟩ := hc
    simp only [evBop] at he
    have hn' := hn.sub (ns' := a.names) fun _ hx => List.mem_append_left _ hx
    refine ⟨PyProof.Rows.BoolOp_one (ha s env e H ρ m d E hc R hw hn' he), fun t whole ht => ?_⟩
    cases op with
    | And =>
      refine PyProof.Rows.isTrue_and (wpAny_mono (ta s env e H ρ m d t E hc R hw hn' he ht) (fun b s₁ q₁ => ?_) fun _ _ e => e)
      cases b with
      | true => exact PyProof.Rows.isTrue_and_nil ⟨q₁.1, q₁.2⟩
      | false => exact ⟨q₁.1, q₁.2⟩
    | Or =>
      refine PyProof.Rows.isTrue_or (wpAny_mono (ta s env e H ρ m d t E hc R hw hn' he ht) (fun b s₁ q₁ => ?_) fun _ _ e => e)
      cases b with
      | true => exact ⟨q₁.1, q₁.2⟩
      | false => exact PyProof.Rows.isTrue_or_nil ⟨q₁.1, q₁.2⟩

theorem sb_cons {a b : ME} {r : List ME} (ha : SE prog w A base cf a) (ta : ST prog w A base cf a) (hr : SB prog w A base cf (b :: r)) : SB prog w A base cf (a :: b :: r) := by
  intro s env es op pos H ρ m d E hc R hw hn he
  cases es with
  | nil => simp [cs_nil, cs_cons, cs_consn] at hc
  | cons e es' => cases es' with
    | nil => simp [cs_nil, cs_cons, cs_consn] at hc
    | cons e2 es' =>
      have hc' : chkE env.kindOf e a = true ∧ chkEs env.kindOf (e2 :: es') (b :: r) = true := by
        rw [chkEs] at hc; simpa using hc
      simp only [evBop] at he
      have hn1 := hn.sub (ns' := a.names) fun _ hx => List.mem_append_left _ hx
      have hn2 := hn.sub (ns' := namesL (b :: r)) fun _ hx => List.mem_append_right _ hx
      split at he
      · rename_i x hx
        split at he
        · rename_i t1 ht1
          have rest : ∀ s₁, Keeps s s₁ → evBop cf ρ op (b :: r) = some d → _ := fun s₁ (k : Keeps s s₁) (h : evBop cf ρ op (b :: r) = some d) =>
            hr s₁ env (e2 :: es') op pos H ρ m d E hc'.2 (R.keeps (Kp.heap k)) (hw.keeps (Kp.heap k)) (hn2.keeps (Kp.heap k)) h
          refine ⟨?_, fun t whole ht => ?_⟩
          · cases op with
            | And =>
              refine PyProof.Rows.BoolOp_and (wpAny_mono (ha s env e H ρ m x E hc'.1 R hw hn1 hx) (fun v s₁ q₁ => ?_) fun _ _ e => e)
              refine wpAny_mono (truth_snd q₁.2 ht1) (fun c s₂ q₂ => ?_) fun _ _ e => e
              obtain ⟨k2, rfl⟩ := q₂
              cases c with
              | true =>
                simp only [Bool.true_eq_false, if_false] at he
                exact wpAny_mono (rest s₂ (Kp.trans q₁.1 k2) he).1 (fun _ _ q => ⟨Kp.trans (Kp.trans q₁.1 k2) q.1, q.2⟩) fun _ _ e => e
              | false =>
                simp only [if_true] at he; cases he
                exact ⟨Kp.trans q₁.1 k2, q₁.2.keeps (Kp.heap k2)⟩
            | Or =>
              refine PyProof.Rows.BoolOp_or (wpAny_mono (ha s env e H ρ m x E hc'.1 R hw hn1 hx) (fun v s₁ q₁ => ?_) fun _ _ e => e)
              refine wpAny_mono (truth_snd q₁.2 ht1) (fun c s₂ q₂ => ?_) fun _ _ e => e
              obtain ⟨k2, rfl⟩ := q₂
              cases c with
              | false =>
                simp only [Bool.false_eq_true, if_false] at he
                exact wpAny_mono (rest s₂ (Kp.trans q₁.1 k2) he).1 (fun _ _ q => ⟨Kp.trans (Kp.trans q₁.1 k2) q.1, q.2⟩) fun _ _ e => e
              | true =>
                simp only [if_true] at he; cases he
                exact ⟨Kp.trans q₁.1 k2, q₁.2.keeps (Kp.heap k2)⟩
          · cases op with
            | And =>
              refine PyProof.Rows.isTrue_and (wpAny_mono (ta s env e H ρ m x t1 E hc'.1 R hw hn1 hx ht1) (fun c s₁ q₁ => ?_) fun _ _ e => e)
              obtain ⟨k1, rfl⟩ := q₁
              cases c with
              | true =>
                simp only [Bool.true_eq_false, if_false] at he
                exact wpAny_mono ((rest s₁ k1 he).2 t whole ht) (fun _ _ q => ⟨Kp.trans k1 q.1, q.2⟩) fun _ _ e => e
              | false =>
                simp only [if_true] at he; cases he
                rw [ht1] at ht; cases ht
                exact ⟨k1, rfl⟩
            | Or =>
              refine PyProof.Rows.isTrue_or (wpAny_mono (ta s env e H ρ m x t1 E hc'.1 R hw hn1 hx ht1) (fun c s₁ q₁ => ?_) fun _ _ e => e)
              obtain ⟨k1, rfl⟩ := q₁
              cases c with
              | false =>
                simp only [Bool.false_eq_true, if_false] at he
                exact wpAny_mono ((rest s₁ k1 he).2 t whole ht) (fun _ _ q => ⟨Kp.trans k1 q.1, q.2⟩) fun _ _ e => e
              | true =>
                simp only [if_true] at he; cases he
                rw [ht1] at ht; cases ht
                exact ⟨k1, rfl⟩
        · cases he
      · cases he

theorem se_bop {op : BoolOp} {ms : List ME} (h : SB prog w A base cf ms) : SE prog w A base cf (.bop op ms) := by
  intro s env e H ρ m d E hc R hw hn he
  replace hc := inv_bop hc; obtain ⟨_, _, _, rfl, hc⟩ := hc
  · simp only [Bool.and_eq_true, beq_iff_eq] at hc
    obtain ⟨rfl, hc⟩ := hc
    simp only [ev_var, ev_glob, ev_int, ev_str, ev_bool, ev_none, ev_bin, ev_cmp, ev_bop, ev_not, ev_neg, ev_tup, ev_lst, ev_dct, ev_sub, ev_sl, ev_comp, ev_call, ev_isi, ev_blt, ev_lcp] at he
    exact (h s env _ op _ H ρ m d E hc R hw hn he).1
theorem st_bop {op : BoolOp} {ms : List ME} (h : SB prog w A base cf ms) : ST prog w A base cf (.bop op ms) := by
  intro s env e H ρ m d t E hc R hw hn he ht
  replace hc := inv_bop hc; obtain ⟨_, _, _, rfl, hc⟩ := hc
  · simp only [Bool.and_eq_true, beq_iff_eq] at hc
    obtain ⟨rfl, hc⟩ := hc
    simp only [ev_var, ev_glob, ev_int, ev_str, ev_bool, ev_none, ev_bin, ev_cmp, ev_bop, ev_not, ev_neg, ev_tup, ev_lst, ev_dct, ev_sub, ev_sl, ev_comp, ev_call, ev_isi, ev_blt, ev_lcp] at he
    exact (h s env _ op _ H ρ m d E hc R hw hn he).2 t _ ht

theorem forIn_false {env : Env} {E : Value → Shared → Prop} {Q : Bool → Shared → Prop} : ∀ (es : List Expr), Q false s →
    wpAny (model prog w) A (forIn es false fun c r => if r = true then do let ok ← isTrue c env (eval c env); pure (ForInStep.yield ok) else pure (ForInStep.yield r)) Q E s
  | [], h => by rw [List.forIn_nil]; exact wpAny_pure h
  | c :: es, h => by
    rw [List.forIn_cons]
    simp only [Bool.false_eq_true, if_false, pure_bind]
    exact forIn_false es h

theorem sc_nil : SC prog w A base cf [] := by
  intro s env es H ρ m t E hc R hw hn he
  cases es with
  | nil => simp only [evc_nil, evc_cons] at he; cases he; rw [List.forIn_nil]; exact wpAny_pure ⟨Kp.refl _, rfl⟩
  | cons _ _ => simp [cs_nil, cs_cons, cs_consn] at hc
theorem sc_cons {a : ME} {r : List ME} (ta : ST prog w A base cf a) (hr : SC prog w A base cf r) : SC prog w A base cf (a :: r) := by
  intro s env es H ρ m t E hc R hw hn he
  cases es with
  | nil => simp [cs_nil, cs_cons, cs_consn] at hc
  | cons e es' =>
    simp only [cs_nil, cs_cons, cs_consn, Bool.and_eq_true] at hc
    simp only [evc_nil, evc_cons] at he
    split at he
    · rename_i x hx
      split at he
      · rename_i t1 ht1
        rw [List.forIn_cons]
        simp only [if_true, bind_assoc, pure_bind]
        refine wpAny_bind (wpAny_mono (ta s env e H ρ m x t1 E hc.1 R hw (hn.sub fun _ hx => List.mem_append_left _ hx) hx ht1) (fun b s₁ q₁ => ?_) fun _ _ e => e)
        obtain ⟨k1, rfl⟩ := q₁
        cases b with
        | true =>
          simp only [if_true] at he
          exact wpAny_mono (hr s₁ env es' H ρ m t E hc.2 (R.keeps (Kp.heap k1)) (hw.keeps (Kp.heap k1)) ((hn.sub fun _ hx => List.mem_append_right _ hx).keeps (Kp.heap k1)) he) (fun _ _ q => ⟨Kp.trans k1 q.1, q.2⟩) fun _ _ e => e
        | false =>
          simp only [Bool.false_eq_true, if_false] at he; cases he
          exact forIn_false es' ⟨k1, rfl⟩
      · cases he
    · cases he

/-- a comprehension's element, in its own block -/
theorem comp_inner {env cenv : Env} {m mC : Str → Option Value} {scope : Scope} {x : String} {ns : List String} {ρ : List (String × D)} {s₂ : Shared} {H H₂ : Addr → Prop} {v : Value} {dv : D} (hok : okScope env.kindOf scope (Str.ofString x) = true)
    (hk : cenv.kindOf = kindC env.kindOf scope) (hv : mC (Str.ofString x) = some v) (rv : Rep w.params s₂.heap H₂ v dv) (hfv : ∀ z, scope.names.lookup z = some .free → mC z = m z) (kp : Keeps s s₂) (hsub : ∀ a o, s.heap.get? a = some o → H₂ a → H a)
    (hn : NV w.params env.kindOf (ns.filter (· != x)) ρ m s.heap H) : NV w.params cenv.kindOf ns ((x, dv) :: ρ) mC s₂.heap H₂ := by
  intro z hz hvar d hd
  rw [List.lookup_cons] at hd
  by_cases hzx : z = x
  · subst hzx
    simp only [beq_self_eq_true] at hd
    cases hd
    exact ⟨v, hv, rv⟩
  · have hb : (z == x) = false := by simpa using hzx
    rw [hb] at hd
    unfold okScope at hok
    simp only [Bool.and_eq_true, decide_eq_true_eq, beq_iff_eq, List.all_eq_true, Bool.or_eq_true] at hok
    obtain ⟨⟨⟨⟨_, hnodup⟩, _⟩, hfree⟩, hall⟩ := hok
    have hvar' := hvar
    unfold isVar at hvar
    simp only [Bool.and_eq_true, Bool.or_eq_true, beq_iff_eq, bne_iff_ne] at hvar
    obtain ⟨⟨⟨hkz, hd1⟩, hd2⟩, hd3⟩ := hvar
    rw [hk, kindC_eq] at hkz
    have hfr : scope.names.lookup (Str.ofString z) = some .free := by
      cases hq : scope.names.lookup (Str.ofString z) with
      | none => rw [hq] at hkz; simp at hkz
      | some k =>
        have := hall _ (mem_of_lookup hq)
        simp only at this
        rcases this with ((e | e) | e) | e
        · rw [e]
        · rw [hq, e] at hkz; simp at hkz
        · exact absurd (ofString_inj e) hzx
        · exact absurd e hd3
    have hok2 := hfree _ (mem_of_lookup hfr)
    simp only [bne_self_eq_false, Bool.false_eq_true, false_or] at hok2
    obtain ⟨v', h1, h2⟩ := hn z (by simp [hz, hzx]) (by
      unfold isVar
      simp only [Bool.and_eq_true, Bool.or_eq_true, beq_iff_eq, bne_iff_ne]
      exact ⟨⟨⟨hok2.elim (fun e => .inl (.inr e)) .inr, hd1⟩, hd2⟩, hd3⟩) d hd
    exact ⟨v', (hfv _ hfr).trans h1, h2.mono (fun a o _ e => Kp.heap kp a o e) hsub⟩

theorem comp_snd {elt src : ME} {x : String} {cs : List ME} (hh : A.handled = none) (he : SE prog w A base cf elt) (hs : SE prog w A base cf src) (hcs : SC prog w A base cf cs)
    {s : Shared} {env : Env} {H : Addr → Prop} {ρ : List (String × D)} {m : Str → Option Value} {d : D} {E : Value → Shared → Prop} {t it : Expr} {y : Str} {py pos ppos : Pos} {ifs : List Expr} {scope : Scope} {use : Option (Value → Sem Unit)} {Q : Value → Shared → Prop}
    (hc : chkE env.kindOf (.ListComp t [⟨.Name y py, it, ifs, 0⟩] scope pos) (.comp elt x src cs) = true) (R : EnvRep s.heap env m) (hw : HOk base s.heap H) (hn : NV w.params env.kindOf (ME.comp elt x src cs).names ρ m s.heap H)
    (hev : evE cf ρ (.comp elt x src cs) = some d)
    (hQ : ∀ L C h' tk m' out, d = .list out → (∀ b o, s.heap.get? b = some o → @LT.lt Nat _ b L) → s.heap.get? C = none → L ≠ C → h'.Ns C m' → OwnL w.params h' (fun b => H b ∨ b = C) L out → (∀ b o, s.heap.get? b = some o → h'.get? b = some o) →
      compPost (model prog w) A E use Q (.ref L) C (.ok .next) { s with heap := h', toks := tk }) :
    wpAny (model prog w) A (comprehension (.ListComp t [⟨.Name y py, it, ifs, 0⟩] scope pos) scope env ppos (newList []) false (eval it env) use) Q E s := by
  replace hc : (y == Str.ofString x && notSet it && okScope env.kindOf scope y && chkE env.kindOf it src && chkE (kindC env.kindOf scope) t elt && chkEs (kindC env.kindOf scope) ifs cs) = true := hc
  simp only [Bool.and_eq_true, beq_iff_eq] at hc
  obtain ⟨⟨⟨⟨⟨rfl, hset⟩, hok⟩, hcsrc⟩, hcelt⟩, hcifs⟩ := hc
  simp only [ev_var, ev_glob, ev_int, ev_str, ev_bool, ev_none, ev_bin, ev_cmp, ev_bop, ev_not, ev_neg, ev_tup, ev_lst, ev_dct, ev_sub, ev_sl, ev_comp, ev_call, ev_isi, ev_blt, ev_lcp] at hev
  split at hev
  · rename_i dsrc hdsrc
    split at hev
    · rename_i its hits
      split at hev
      · rename_i hlen
        simp only [Option.map_eq_some_iff] at hev
        obtain ⟨out, hout, rfl⟩ := hev
        refine comp_core R hok hset hh hw.ex (hs s env it H ρ m dsrc E hcsrc R hw (hn.sub fun _ hx => List.mem_append_left _ hx) hdsrc) hits hlen hout ?_ (fun L C h' tk m' h1 h2 h3 h4 h5 h6 => hQ L C h' tk m' out rfl h1 h2 h3 h4 h5 h6)
        intro s₂ cenv mC H₂ v dv r hm hf hk RC hv rv hfv hx kp hsub E'
        have hn' := hn.sub (ns' := (elt.names ++ namesL cs).filter (· != x)) fun _ hx => List.mem_append_right _ hx
        have nv := comp_inner hok hk hv rv hfv kp hsub hn'
        have hw₂ : HOk base s₂.heap H₂ := ⟨fun b o e => Kp.heap kp b o (hw.keep b o e), hx, fun b o e q => hw.off b o e (hsub b o (hw.keep b o e) q)⟩
        split at hf
        · rename_i hb
          split at hf
          · rename_i y' hy'
            cases hf
            refine wpAny_mono (hcs s₂ cenv ifs H₂ _ mC true E' (by rw [hk]; exact hcifs) RC hw₂ (nv.sub fun _ hx => List.mem_append_right _ hx) hb) (fun ok s₃ q => ⟨q.1, q.2, fun dr e => ?_⟩) fun _ _ e => e
            cases e
            exact wpAny_mono (he s₃ cenv t H₂ _ mC y' E' (by rw [hk]; exact hcelt) (RC.keeps (Kp.heap q.1)) (hw₂.keeps (Kp.heap q.1)) ((nv.sub fun _ hx => List.mem_append_left _ hx).keeps (Kp.heap q.1)) hy') (fun _ _ q => q) fun _ _ e => e
          · cases hf
        · rename_i hb
          cases hf
          exact wpAny_mono (hcs s₂ cenv ifs H₂ _ mC false E' (by rw [hk]; exact hcifs) RC hw₂ (nv.sub fun _ hx => List.mem_append_right _ hx) hb) (fun ok s₃ q => ⟨q.1, q.2, fun dr e => by cases e⟩) fun _ _ e => e
        · cases hf
      · cases hev
    · cases hev
  · cases hev
end
end Mine
namespace Mine
open PySem PySem.SeqAt
/-! dict displays -/
theorem stored_kvs {P : Params} {h : Heap} {H : Addr → Prop} {k : CK} {v : Value} {d : D} (hv : Rep P h H v d) {kvs : List (CK × Value)} {vs : List D} (hn : (kvs.map (·.1)).Nodup) (hr : RepAll P h H (kvs.map (·.2)) vs) :
    ((stored kvs k v).map fun p => ofCK p.1) = (dput (kvs.map fun p => ofCK p.1) vs (ofCK k) d).1 ∧ RepAll P h H ((stored kvs k v).map (·.2)) (dput (kvs.map fun p => ofCK p.1) vs (ofCK k) d).2 := by
  have e : (kvs.map (·.1)).zip (kvs.map (·.2)) = kvs := by
    clear hn hr
    induction kvs with
    | nil => rfl
    | cons a l ih => simp [ih]
  have := stored_dput (k := k) hv (cs := kvs.map (·.1)) (vals := kvs.map (·.2)) (by simp) hn hr
  rw [e, List.map_map] at this
  exact this
theorem stored_nodup {kvs : List (CK × Value)} {k : CK} {v : Value} (hn : (kvs.map (·.1)).Nodup) : ((stored kvs k v).map (·.1)).Nodup := by
  unfold stored
  split
  · rw [keys_map_store]; exact hn
  · rename_i hc
    rw [List.map_append, List.nodup_append]
    refine ⟨hn, by simp, ?_⟩
    intro a ha b hb e
    simp only [List.map_cons, List.map_nil, List.mem_singleton] at hb
    subst hb e
    obtain ⟨p, hp, rfl⟩ := List.mem_map.mp ha
    exact hc (List.any_eq_true.mpr ⟨p, hp, by simp⟩)
theorem merged_dputs {P : Params} {h : Heap} {H : Addr → Prop} : ∀ {kvs acc : List (CK × Value)} {es accD : List D} {accK : List D}, RepAll P h H (kvs.map (·.2)) es → (acc.map (·.1)).Nodup → RepAll P h H (acc.map (·.2)) accD → accK = (acc.map fun p => ofCK p.1) →
    ((merged acc kvs).map fun p => ofCK p.1) = (((kvs.map fun p => ofCK p.1).zip es).foldl (fun a p => dput a.1 a.2 p.1 p.2) (accK, accD)).1 ∧ RepAll P h H ((merged acc kvs).map (·.2)) (((kvs.map fun p => ofCK p.1).zip es).foldl (fun a p => dput a.1 a.2 p.1 p.2) (accK, accD)).2 := by
  intro kvs
  induction kvs with
  | nil =>
    intro acc es accD accK hr hn ha hk
    cases hr
    subst hk
    exact ⟨rfl, ha⟩
  | cons p kvs ih =>
    intro acc es accD accK hr hn ha hk
    cases hr with
    | cons hv hr =>
      subst hk
      obtain ⟨q1, q2⟩ := stored_kvs (k := p.1) hv hn ha
      exact ih hr (stored_nodup hn) q2 q1.symm
theorem dput_len (k d : D) : ∀ (ks vs : List D), (dput ks vs k d).1.length ≤ ks.length + 1
  | [], _ => by simp [dput]
  | _ :: _, [] => by simp [dput]
  | k' :: ks, v :: vs => by
    have := dput_len k d ks vs
    unfold dput
    split <;> simp <;> omega
theorem dputs_len : ∀ (l : List (D × D)) (a : List D × List D), (l.foldl (fun a p => dput a.1 a.2 p.1 p.2) a).1.length ≤ a.1.length + l.length
  | [], a => by simp
  | p :: l, a => by
    have h1 := dputs_len l (dput a.1 a.2 p.1 p.2)
    have h2 := dput_len p.1 p.2 a.1 a.2
    simp only [List.foldl_cons, List.length_cons]
    omega
section
variable {prog : Program} {w : World} {A : Around} {s : Shared} {base : Heap} {mg mb : Str → Option Value} {cf : CF}
theorem evalPairs_snd {env : Env} {pos : Pos} {H : Addr → Prop} {ρ : List (String × D)} {m : Str → Option Value} {E : Value → Shared → Prop} : ∀ {ks vs : List ME} {kes ves : List Expr} {ds es : List D} {s : Shared}, (∀ e ∈ ks, SE prog w A base cf e) → (∀ e ∈ vs, SE prog w A base cf e) →
    chkEs env.kindOf kes ks = true → chkEs env.kindOf ves vs = true → EnvRep s.heap env m → HOk base s.heap H → NV w.params env.kindOf (namesL ks ++ namesL vs) ρ m s.heap H → evEs cf ρ ks = some ds → evEs cf ρ vs = some es → ds.all D.isCell = true → ds.length = es.length →
    wpAny (model prog w) A (evalPairs ((kes.zip ves).map fun p => (eval p.1 env, do let x ← eval p.2 env; standAt pos; pure x)))
      (fun prs s' => Keeps s s' ∧ ∃ kvs, Carries (cellKind prog w) prs kvs ∧ ds = (kvs.map fun p => ofCK p.1) ∧ RepAll w.params s'.heap H (kvs.map (·.2)) es) E s := by
  intro ks
  induction ks with
  | nil =>
    intro vs kes ves ds es s _ _ hk hv _ _ _ hd he _ hl
    cases kes with
    | cons _ _ => simp [cs_nil, cs_cons, cs_consn] at hk
    | nil =>
      simp only [evs_nil, evs_cons] at hd; cases hd
      cases es with
      | cons _ _ => simp at hl
      | nil => exact evalPairs_nil ⟨Kp.refl _, [], trivial, rfl, .nil⟩
  | cons a ks ih =>
    intro vs kes ves ds es s hsk hsv hk hv R hw hn hd he hc hl
    cases kes with
    | nil => simp [cs_nil, cs_cons, cs_consn] at hk
    | cons ke kes =>
    cases vs with
    | nil =>
      simp only [evs_nil, evs_cons] at he; cases he
      simp only [evs_nil, evs_cons] at hd
      split at hd
      · split at hd
        · cases hd; simp at hl
        · cases hd
      · cases hd
    | cons b vs =>
    cases ves with
    | nil => simp [cs_nil, cs_cons, cs_consn] at hv
    | cons ve ves =>
      simp only [cs_nil, cs_cons, cs_consn, Bool.and_eq_true] at hk hv
      simp only [evs_nil, evs_cons] at hd he
      split at hd
      · rename_i x hx
        split at hd
        · rename_i xs hxs
          cases hd
          split at he
          · rename_i y hy
            split at he
            · rename_i ys hys
              cases he
              simp only [List.all_cons, Bool.and_eq_true] at hc
              obtain ⟨c, rfl⟩ := cell_ck hc.1
              refine evalPairs_cons (wpAny_mono (hsk a (by simp) s env ke H ρ m _ E hk.1 R hw (hn.sub fun z hz => by simp only [nms_nil, nms_cons, List.mem_append]; exact .inl (.inl hz)) hx) (fun kv s₁ q₁ => ?_) fun _ _ e => e)
              refine wpAny_bind (wpAny_mono (hsv b (by simp) s₁ env ve H ρ m y E hv.1 (R.keeps (Kp.heap q₁.1)) (hw.keeps (Kp.heap q₁.1)) ((hn.keeps (Kp.heap q₁.1)).sub fun z hz => by simp only [nms_nil, nms_cons, List.mem_append]; exact .inr (.inl hz)) hy) (fun vv s₂ q₂ => ?_) fun _ _ e => e)
              refine wpAny_bind (wpAny_standAt (wpAny_pure ?_))
              have k02 := Kp.trans q₁.1 q₂.1
              refine wpAny_mono (ih (s := s₂) (fun e he => hsk e (by simp [he])) (fun e he => hsv e (by simp [he])) hk.2 hv.2 (R.keeps (Kp.heap k02)) (hw.keeps (Kp.heap k02)) ((hn.keeps (Kp.heap k02)).sub fun z hz => by
                simp only [nms_nil, nms_cons, List.mem_append] at hz ⊢
                exact hz.elim (fun q => .inl (.inr q)) fun q => .inr (.inr q)) hxs hys hc.2 (by simpa using hl)) (fun prs s₃ q₃ => ?_) fun _ _ e => e
              obtain ⟨k23, kvs, hcar, rfl, hr⟩ := q₃
              exact ⟨Kp.trans k02 k23, (c, vv) :: kvs, ⟨rep_ck q₁.2, rfl, hcar⟩, rfl, .cons (q₂.2.keeps (Kp.heap k23)) hr⟩
            · cases he
          · cases he
        · cases hd
      · cases hd
theorem evalEach_map (es : List Expr) (env : Env) : evalEach es env = es.map fun e => eval e env := by
  induction es with
  | nil => rfl
  | cons e es ih => rw [arm_evalEach_cons, ih]; rfl
theorem evalEachOpt_map (es : List Expr) (env : Env) : evalEachOpt (es.map some) env = es.map fun e => some (eval e env) := by
  induction es with
  | nil => rfl
  | cons e es ih => rw [List.map_cons, List.map_cons, ← ih]; rfl
theorem chkEs_len {k : KD} : ∀ {es : List Expr} {ms : List ME}, chkEs k es ms = true → es.length = ms.length
  | [], [], _ => rfl
  | _ :: _, [], h => by simp [cs_nil, cs_cons, cs_consn] at h
  | [], _ :: _, h => by simp [cs_nil, cs_cons, cs_consn] at h
  | e :: es, m :: ms, h => by
    simp only [cs_nil, cs_cons, cs_consn, Bool.and_eq_true] at h
    simp [chkEs_len h.2]
theorem evEs_len {ρ : List (String × D)} : ∀ {ms : List ME} {ds : List D}, evEs cf ρ ms = some ds → ds.length = ms.length
  | [], ds, h => by simp only [evs_nil, evs_cons] at h; cases h; rfl
  | m :: ms, ds, h => by
    simp only [evs_nil, evs_cons] at h
    split at h
    · split at h
      · rename_i q; cases h; simp [evEs_len q]
      · cases h
    · cases h
theorem sf_dct (G : GOk mg mb base) {ks vs : List ME} (hsk : ∀ e ∈ ks, SE prog w A base cf e) (hsv : ∀ e ∈ vs, SE prog w A base cf e) : SF prog w A base cf (.dct ks vs) := by
  intro s env e H ρ m d fr E hc R hw hn he
  obtain ⟨kes, ves, pos, rfl, hk, hv⟩ := inv_dct hc
  simp only [evF_dct, ev_var, ev_glob, ev_int, ev_str, ev_bool, ev_none, ev_bin, ev_cmp, ev_bop, ev_not, ev_neg, ev_tup, ev_lst, ev_dct, ev_sub, ev_sl, ev_comp, ev_call, ev_isi, ev_blt, ev_lcp, Option.map_eq_some_iff] at he
  obtain ⟨d', he, e'⟩ := he
  cases e'
  split at he
  · rename_i ds hds
    split at he
    · rename_i es hes
      split at he
      · rename_i hcc; cases he
        simp only [Bool.and_eq_true, beq_iff_eq, decide_eq_true_eq] at hcc
        obtain ⟨⟨hcell, hlen⟩, h15⟩ := hcc
        have hsys : (s.heap.objs.size == sysModules) = false := by
          obtain ⟨o, _, _, h1, _⟩ := G.g
          have h2 := Heap.lt_size (hw.keep _ _ h1)
          have : (mainGlobals : Nat) = 3 := rfl
          have h3 : s.heap.objs.size ≠ sysModules := fun q => by rw [q] at h2; exact absurd h2 (by decide)
          simpa using h3
        have hnone : s.heap.get? s.heap.objs.size = none := by
          cases q : s.heap.get? s.heap.objs.size with
          | none => rfl
          | some o => exact absurd (Heap.lt_size q) (Nat.lt_irrefl _)
        -- the result
        have fin : ∀ (s₁ : Shared) (h' : Heap) (tk : Nat) (kvs : List (CK × Value)), Keeps { s with heap := s.heap.push { cls := .type "dict", data := .dict #[] } } s₁ → ds = (kvs.map fun p => ofCK p.1) → RepAll w.params s₁.heap (fun b => H b ∨ b = s.heap.objs.size) (kvs.map (·.2)) es → h'.DictOf (cellKind prog w) s.heap.objs.size (merged [] kvs) → Heap.SameBut s.heap.objs.size s₁.heap h' →
            PostF w s H (.dict (dputs ds es).1 (dputs ds es).2) true (.ref s.heap.objs.size) { s₁ with heap := h', toks := tk } := by
          intro s₁ h' tk kvs kp hds' hr hm hs
          obtain ⟨h₁, tk₁, rfl, hk1⟩ := kp
          obtain ⟨q1, q2⟩ := merged_dputs (acc := []) (accD := []) (accK := []) hr List.nodup_nil .nil rfl
          rw [← hds'] at q1 q2
          obtain ⟨es', n, r1, r2, r3, r4, r5, r6⟩ := rep_dictOf (H := fun b => H b ∨ b = s.heap.objs.size) hm
          rw [q1] at r2 r4 r5 r6
          have own : OwnD w.params h' H s.heap.objs.size (.dict (dputs ds es).1 (dputs ds es).2) := by
            refine ⟨es', n, r1, ?_, r2, ?_, r4, r5, r6, hsys⟩
            · have := dputs_len (ds.zip es) ([], [])
              unfold dputs
              simp only [List.length_nil, List.length_zip] at this
              unfold big
              omega
            · rw [r3]
              exact q2.mono (fun b o hb e => (hs.2 b fun q => hb (.inr q)).trans e) fun _ _ _ q => q
          refine ⟨⟨h', tk, rfl, fun b o e => ?_⟩, own.rep hw.ex.fresh, fun _ => ⟨_, rfl, hnone, own⟩⟩
          exact (hs.2 b fun q => by rw [q, hnone] at e; cases e).trans (hk1 b o (Heap.get?_push_of_some _ e))
        by_cases h0 : kes.zip ves = []
        · have hk0 : kes = [] ∧ ves = [] := by
            have l1 := chkEs_len hk
            have l2 := chkEs_len hv
            have l3 := evEs_len hds
            have l4 := evEs_len hes
            cases kes with
            | nil => cases ves with
              | nil => exact ⟨rfl, rfl⟩
              | cons _ _ => simp at l1 l2; omega
            | cons _ _ => cases ves with
              | nil => simp at l1 l2; omega
              | cons _ _ => simp at h0
          obtain ⟨rfl, rfl⟩ := hk0
          have l1 := chkEs_len hk
          have l2 := chkEs_len hv
          cases ks with
          | cons _ _ => simp at l1
          | nil =>
          cases vs with
          | cons _ _ => simp at l2
          | nil =>
            simp only [evs_nil, evs_cons] at hds hes
            cases hds; cases hes
            exact wpAny_Dict_empty (fin { s with heap := s.heap.push { cls := .type "dict", data := .dict #[] } } _ _ [] (Kp.refl _) rfl .nil (Heap.DictOf.new _) (Heap.SameBut.refl _ _))
        · have hlz : (kes.zip ves).length ≤ 15 := by
            have l1 := chkEs_len hk
            have l3 := evEs_len hds
            rw [List.length_zip]; omega
          refine wpAny_Dict_pairs (knd := cellKind prog w) (pairs := (kes.zip ves).map fun p => (eval p.1 env, do let x ← eval p.2 env; standAt pos; pure x)) ?_ (by simpa using h0) (by simpa using hlz) ?_
          · rw [evalEach_map, evalEachOpt_map, List.map_map, List.map_map, List.zip_map]
            simp [Function.comp_def]
          · have hw' : HOk base (s.heap.push { cls := .type "dict", data := .dict #[] }) (fun b => H b ∨ b = s.heap.objs.size) := by
              have k1 := hw.keeps (h' := s.heap.push { cls := .type "dict", data := .dict #[] }) fun _ _ e => Heap.get?_push_of_some _ e
              refine ⟨k1.keep, fun b q => ?_, fun b o e q => ?_⟩
              · rcases q with q | q
                · exact k1.ex b q
                · exact ⟨b, _, Nat.le_refl _, q ▸ Heap.get?_push_size _ rfl⟩
              · rcases q with q | q
                · exact hw.off b o e q
                · rw [q] at e; rw [hw.keep _ _ e] at hnone; cases hnone
            have hn' : NV w.params env.kindOf (namesL ks ++ namesL vs) ρ m (s.heap.push { cls := .type "dict", data := .dict #[] }) (fun b => H b ∨ b = s.heap.objs.size) := by
              intro x hx hv d hd
              obtain ⟨v, h1, h2⟩ := hn x hx hv d hd
              refine ⟨v, h1, h2.mono (fun b o _ e => Heap.get?_push_of_some _ e) fun b o e q => ?_⟩
              rcases q with q | q
              · exact q
              · rw [q, hnone] at e; cases e
            refine wpAny_mono (evalPairs_snd (s := { s with heap := s.heap.push { cls := .type "dict", data := .dict #[] } }) hsk hsv hk hv (R.keeps fun _ _ e => Heap.get?_push_of_some _ e) hw' hn' hds hes hcell hlen) (fun prs s₁ q => ?_) fun _ _ e => e
            obtain ⟨kp, kvs, hcar, e1, hr⟩ := q
            refine ⟨kvs, hcar, ?_, fun h' hm hs => fin s₁ h' _ kvs kp e1 hr hm hs⟩
            obtain ⟨o, es', ep, ho, r⟩ := Heap.DictOf.new (knd := cellKind prog w) s.heap
            exact ⟨o, es', ep, Kp.heap kp _ _ ho, r⟩
      · cases he
    · cases he
  · cases he
end
end Mine
namespace Mine
open PySem PySem.SeqAt

noncomputable def plainE : Expr → Bool
  | .UnaryOp .Not _ _ | .BoolOp .. | .IfExp .. | .Compare .. => false
  | _ => true
theorem isTrue_plainE {e : Expr} {env : Env} {whole : Sem Value} (h : plainE e = true) : isTrue e env whole = (do let v ← whole; standAt e.pos; holding [v] (truthy v)) := by
  cases e with
  | UnaryOp op x p => cases op <;> first | rfl | cases h
  | BoolOp => cases h
  | IfExp => cases h
  | Compare => cases h
  | _ => rfl
noncomputable def ME.plain : ME → Bool
  | .not _ | .bop _ _ | .cmp _ _ _ => false
  | _ => true
theorem chk_plain {k : KD} {e : Expr} {me : ME} (hp : me.plain = true) (hc : chkE k e me = true) : plainE e = true := by
  by_cases h6 : shapeM me = 6
  · cases me <;> first | (cases hp; done) | (obtain ⟨_, _, rfl, _⟩ := inv_neg hc; rfl) | (cases h6; done)
  · have h := chk_shape hc
    have h4 : (shapeM me != 0 && shapeM me != 4 && shapeM me != 5) = true := by cases me <;> first | (cases hp; done) | rfl
    rw [← h] at h4 h6
    cases e <;> first | rfl | exact absurd rfl h6 | exact absurd h4 Bool.false_ne_true

section
variable {prog : Program} {w : World} {A : Around} {s : Shared} {base : Heap} {mg mb : Str → Option Value} {cf : CF}

theorem sf_plain {me : ME} (h : SE prog w A base cf me) (hf : ∀ ρ, evF cf ρ me = (evE cf ρ me).map fun d => (d, false)) : SF prog w A base cf me := by
  intro s env e H ρ m d fr E hc R hw hn he
  rw [hf, Option.map_eq_some_iff] at he
  obtain ⟨d', h1, h2⟩ := he
  cases h2
  exact wpAny_mono (h s env e H ρ m d E hc R hw hn h1) (fun _ _ q => ⟨q.1, q.2, fun e => by cases e⟩) fun _ _ e => e

theorem sf_comp {elt src : ME} {x : String} {cs : List ME} (hh : A.handled = none) (he : SE prog w A base cf elt) (hs : SE prog w A base cf src) (hcs : SC prog w A base cf cs) : SF prog w A base cf (.comp elt x src cs) := by
  intro s env e H ρ m d fr E hc R hw hn hev
  simp only [evF_comp, Option.map_eq_some_iff] at hev
  obtain ⟨d', hev, e'⟩ := hev
  cases e'
  obtain ⟨_, _, _, _, _, _, _, rfl, _⟩ := inv_comp hc
  · rw [eval_ListComp]
    refine comp_snd (use := none) hh he hs hcs hc R hw hn hev fun L C h' tk m' out hd hL hC hLC hns hown hk => ⟨m', hns, fun h'' hs'' => ?_⟩
    have kk : ∀ b o, s.heap.get? b = some o → h''.get? b = some o := fun b o e => (hs''.2 b (fun q => by rw [q, hC] at e; cases e)).trans (hk b o e)
    have own : OwnL w.params h'' H L out := by
      obtain ⟨vs, n, q1, q2, q3⟩ := hown
      refine ⟨vs, n, (hs''.2 L hLC).trans q1, q2, q3.mono (fun a o hn e => (hs''.2 a fun q => hn (.inl (.inr q))).trans e) fun a o _ q => q.elim (fun q => .inl (.inl q)) .inr⟩
    have hLn : s.heap.get? L = none := by
      cases e : s.heap.get? L with
      | none => rfl
      | some o => exact absurd (hL _ _ e) (Nat.lt_irrefl _)
    refine ⟨⟨h'', tk, rfl, kk⟩, ?_, fun _ => ⟨L, rfl, hLn, by rw [hd]; exact own⟩⟩
    rw [hd]
    refine own.rep fun q => ?_
    obtain ⟨b, o, hb, ho⟩ := hw.ex L q
    exact Nat.lt_irrefl _ (Nat.lt_of_le_of_lt hb (hL b o ho))

theorem evF_callx (f : String) (ms : List ME) (ρ : List (String × D)) (d : D) (h : evE cf ρ (.call f ms) = some d) : ∃ fr, evF cf ρ (.call f ms) = some (d, fr) := by
  simp only [ev_var, ev_glob, ev_int, ev_str, ev_bool, ev_none, ev_bin, ev_cmp, ev_bop, ev_not, ev_neg, ev_tup, ev_lst, ev_dct, ev_sub, ev_sl, ev_comp, ev_call, ev_isi, ev_blt, ev_lcp] at h
  simp only [evF_call]
  split at h
  · rename_i ds hds
    rw [Option.map_eq_some_iff] at h
    obtain ⟨⟨d', fr⟩, h1, h2⟩ := h
    cases h2
    exact ⟨fr, h1⟩
  · cases h

theorem blt_name {f : String} {ds : List D} {d : D} (h : bltD f ds = some d) : f ∈ bltNames := by
  unfold bltD bltI bltI2 at h
  repeat' split at h
  all_goals first | (cases h; done) | (subst_vars; decide)
mutual
theorem all_E (G : GOk mg mb base) (C : CSound prog w base mg cf A) (hh : A.handled = none) (hu : A.units + 1 < cLine) (me : ME) : SE prog w A base cf me ∧ ST prog w A base cf me ∧ SF prog w A base cf me := by
  have fin : SE prog w A base cf me → me.plain = true → (∀ ρ, evF cf ρ me = (evE cf ρ me).map fun d => (d, false)) → SE prog w A base cf me ∧ ST prog w A base cf me ∧ SF prog w A base cf me := fun h1 h2 h3 =>
    ⟨h1, st_plain h1 (fun e k env whole hc => isTrue_plainE (chk_plain h2 hc)), sf_plain h1 h3⟩
  have finF : SF prog w A base cf me → me.plain = true → (∀ ρ d, evE cf ρ me = some d → ∃ fr, evF cf ρ me = some (d, fr)) → SE prog w A base cf me ∧ ST prog w A base cf me ∧ SF prog w A base cf me := fun h1 h2 h3 =>
    have h4 := se_of_sf h1 h3
    ⟨h4, st_plain h4 (fun e k env whole hc => isTrue_plainE (chk_plain h2 hc)), h1⟩
  match me with
  | .var x => exact fin (se_var x) rfl fun _ => rfl
  | .glob x => exact fin (se_glob G C x) rfl fun _ => rfl
  | .int i => exact fin (se_int i) rfl fun _ => rfl
  | .str x => exact fin (se_str x) rfl fun _ => rfl
  | .bool b => exact fin (se_bool b) rfl fun _ => rfl
  | .none => exact fin se_none rfl fun _ => rfl
  | .bin op a b => exact finF (sf_bin (all_E G C hh hu a).1 (all_E G C hh hu b).1) rfl fun ρ d h => ⟨d.isList, by rw [evF_bin, h]; rfl⟩
  | .cmp op a b =>
    have ha := (all_E G C hh hu a).1
    have hb := (all_E G C hh hu b).1
    exact ⟨se_cmp hu ha hb, st_cmp hu ha hb, sf_plain (se_cmp hu ha hb) fun _ => rfl⟩
  | .bop op ms =>
    have h := (all_Es G C hh hu ms).2.1
    exact ⟨se_bop h, st_bop h, sf_plain (se_bop h) fun _ => rfl⟩
  | .not a =>
    have h := all_E G C hh hu a
    exact ⟨se_not h.1, st_not h.2.1, sf_plain (se_not h.1) fun _ => rfl⟩
  | .neg a => exact fin (se_neg (all_E G C hh hu a).1) rfl fun _ => rfl
  | .tup ms => exact fin (se_tup (all_Es G C hh hu ms).1) rfl fun _ => rfl
  | .lst ms => exact finF (sf_lst (all_Es G C hh hu ms).1) rfl fun ρ d h => ⟨true, by rw [evF_lst, h]; rfl⟩
  | .dct ks vs => exact finF (sf_dct G (all_Es G C hh hu ks).2.2.2 (all_Es G C hh hu vs).2.2.2) rfl fun ρ d h => ⟨true, by rw [evF_dct, h]; rfl⟩
  | .sub a b => exact fin (se_sub hu (all_E G C hh hu a).1 (all_E G C hh hu b).1) rfl fun _ => rfl
  | .sl a b c => exact finF (sf_sl (all_E G C hh hu a).1 (all_E G C hh hu b).1 (all_E G C hh hu c).1) rfl fun ρ d h => ⟨d.isList, by rw [evF_sl, h]; rfl⟩
  | .lcp a => exact finF (sf_lcp G hh (ses_cons (all_E G C hh hu a).1 ses_nil)) rfl fun ρ d h => ⟨true, by rw [evF_lcp, h]; rfl⟩
  | .comp elt x src cs => exact finF (sf_comp hh (all_E G C hh hu elt).1 (all_E G C hh hu src).1 (all_Es G C hh hu cs).2.2.1) rfl fun ρ d h => ⟨true, by rw [evF_comp, h]; rfl⟩
  | .call f ms => exact finF (sf_call G C (all_Es G C hh hu ms).1) rfl (evF_callx f ms)
  | .isi a T => exact fin (se_isi G (all_E G C hh hu a).1) rfl fun _ => rfl
  | .blt f ms =>
    refine fin ?_ rfl fun _ => rfl
    by_cases hf : f ∈ bltNames
    · exact se_blt G hh hf (all_Es G C hh hu ms).1
    · intro s env e H ρ m d E hc R hw hn he
      exfalso
      simp only [ev_var, ev_glob, ev_int, ev_str, ev_bool, ev_none, ev_bin, ev_cmp, ev_bop, ev_not, ev_neg, ev_tup, ev_lst, ev_dct, ev_sub, ev_sl, ev_comp, ev_call, ev_isi, ev_blt, ev_lcp] at he
      split at he
      · exact hf (blt_name he)
      · cases he
termination_by structural me
theorem all_Es (G : GOk mg mb base) (C : CSound prog w base mg cf A) (hh : A.handled = none) (hu : A.units + 1 < cLine) (ms : List ME) : SEs prog w A base cf ms ∧ SB prog w A base cf ms ∧ SC prog w A base cf ms ∧ ∀ e ∈ ms, SE prog w A base cf e := by
  match ms with
  | [] => exact ⟨ses_nil, sb_nil, sc_nil, fun _ h => nomatch h⟩
  | a :: r =>
    have ha := all_E G C hh hu a
    have hr := all_Es G C hh hu r
    refine ⟨ses_cons ha.1 hr.1, ?_, sc_cons ha.2.1 hr.2.2.1, fun e he => (List.mem_cons.mp he).elim (fun q => q ▸ ha.1) (hr.2.2.2 e)⟩
    cases r with
    | nil => exact sb_one ha.1 ha.2.1
    | cons b r => exact sb_cons ha.1 ha.2.1 hr.2.1
termination_by structural ms
end
end
end Mine
namespace Mine
open PySem PySem.SeqAt

noncomputable def isStore (k : KD) (x : Str) : Bool := (k x == some .local || k x == some .cell) && isVar k x
noncomputable def notComp : Expr → Bool
  | .ListComp .. | .SetComp .. | .DictComp .. => false
  | _ => true

noncomputable def cAssign (e : Stmt) (f : List Expr → Expr → Pos → Bool) : Bool := dite (e.ctorIdx = 5) (fun h => Stmt.Assign.elim (motive_2 := fun _ => Bool) e h f) (fun _ => false)
theorem cAssign_inv {e : Stmt} {f : List Expr → Expr → Pos → Bool} (h : cAssign e f = true) : ∃ (ts : List Expr) (v : Expr) (p : Pos), e = .Assign ts v p ∧ f ts v p = true :=
  (dite_inv h).elim fun hc h => Stmt.Assign.elim (motive_2 := fun e => ∀ hc, Stmt.Assign.elim (motive_2 := fun _ => Bool) e hc f = true → ∃ (ts : List Expr) (v : Expr) (p : Pos), e = .Assign ts v p ∧ f ts v p = true) e hc (fun v0 v1 v2 _ h => ⟨v0, v1, v2, rfl, h⟩) hc h
noncomputable def cExpr (e : Stmt) (f : Expr → Pos → Bool) : Bool := dite (e.ctorIdx = 24) (fun h => Stmt.Expr.elim (motive_2 := fun _ => Bool) e h f) (fun _ => false)
theorem cExpr_inv {e : Stmt} {f : Expr → Pos → Bool} (h : cExpr e f = true) : ∃ (v : Expr) (p : Pos), e = .Expr v p ∧ f v p = true :=
  (dite_inv h).elim fun hc h => Stmt.Expr.elim (motive_2 := fun e => ∀ hc, Stmt.Expr.elim (motive_2 := fun _ => Bool) e hc f = true → ∃ (v : Expr) (p : Pos), e = .Expr v p ∧ f v p = true) e hc (fun v0 v1 _ h => ⟨v0, v1, rfl, h⟩) hc h
noncomputable def cIf (e : Stmt) (f : Expr → List Stmt → List Stmt → Pos → Bool) : Bool := dite (e.ctorIdx = 12) (fun h => Stmt.If.elim (motive_2 := fun _ => Bool) e h f) (fun _ => false)
theorem cIf_inv {e : Stmt} {f : Expr → List Stmt → List Stmt → Pos → Bool} (h : cIf e f = true) : ∃ (v : Expr) (b : List Stmt) (o : List Stmt) (p : Pos), e = .If v b o p ∧ f v b o p = true :=
  (dite_inv h).elim fun hc h => Stmt.If.elim (motive_2 := fun e => ∀ hc, Stmt.If.elim (motive_2 := fun _ => Bool) e hc f = true → ∃ (v : Expr) (b : List Stmt) (o : List Stmt) (p : Pos), e = .If v b o p ∧ f v b o p = true) e hc (fun v0 v1 v2 v3 _ h => ⟨v0, v1, v2, v3, rfl, h⟩) hc h
noncomputable def cFor (e : Stmt) (f : Expr → Expr → List Stmt → List Stmt → Pos → Bool) : Bool := dite (e.ctorIdx = 9) (fun h => Stmt.For.elim (motive_2 := fun _ => Bool) e h f) (fun _ => false)
theorem cFor_inv {e : Stmt} {f : Expr → Expr → List Stmt → List Stmt → Pos → Bool} (h : cFor e f = true) : ∃ (t : Expr) (i : Expr) (b : List Stmt) (o : List Stmt) (p : Pos), e = .For t i b o p ∧ f t i b o p = true :=
  (dite_inv h).elim fun hc h => Stmt.For.elim (motive_2 := fun e => ∀ hc, Stmt.For.elim (motive_2 := fun _ => Bool) e hc f = true → ∃ (t : Expr) (i : Expr) (b : List Stmt) (o : List Stmt) (p : Pos), e = .For t i b o p ∧ f t i b o p = true) e hc (fun v0 v1 v2 v3 v4 _ h => ⟨v0, v1, v2, v3, v4, rfl, h⟩) hc h
noncomputable def cRet (e : Stmt) (f : Option Expr → Pos → Bool) : Bool := dite (e.ctorIdx = 3) (fun h => Stmt.Return.elim (motive_2 := fun _ => Bool) e h f) (fun _ => false)
theorem cRet_inv {e : Stmt} {f : Option Expr → Pos → Bool} (h : cRet e f = true) : ∃ (v : Option Expr) (p : Pos), e = .Return v p ∧ f v p = true :=
  (dite_inv h).elim fun hc h => Stmt.Return.elim (motive_2 := fun e => ∀ hc, Stmt.Return.elim (motive_2 := fun _ => Bool) e hc f = true → ∃ (v : Option Expr) (p : Pos), e = .Return v p ∧ f v p = true) e hc (fun v0 v1 _ h => ⟨v0, v1, rfl, h⟩) hc h
noncomputable def c3 {α : Type} (l : List α) (f : α → α → α → Bool) : Bool := match l with | [x, y, z] => f x y z | _ => false
theorem c3_inv {α : Type} {l : List α} {f : α → α → α → Bool} (h : c3 l f = true) : ∃ x y z, l = [x, y, z] ∧ f x y z = true := by
  match l, h with
  | [x, y, z], h => exact ⟨x, y, z, rfl, h⟩
noncomputable def grp1 (k : KD) (st : Stmt) : Bool := cAssign st fun ts v _ => c1 ts fun t => cName t fun y _ => y == Str.ofString "own" && isStore k y && chkE k v (.call "cells_at" [.var "row", .var "places"])
noncomputable def grp2 (k : KD) (st : Stmt) : Bool := cIf st fun v b o _ => chkE k v (.cmp .NotIn (.var "own") (.var "groups")) && o.isEmpty && c1 b fun st => cAssign st fun ts v _ => c1 ts fun t => cSub t fun gn on _ => chkE k gn (.var "groups") && chkE k on (.var "own") && chkE k v (.lst [])
noncomputable def grp3 (k : KD) (st : Stmt) : Bool := cExpr st fun v _ => cCall v fun g as ks p => ks.isEmpty && c1 as fun a => cAttr g fun recv at_ ap => at_ == Str.ofString "append" && ap.endLine == p.line && chkE k recv (.sub (.var "groups") (.var "own")) && chkE k a (.var "row")
noncomputable def grpB (k : KD) (st : Stmt) : Bool := cFor st fun t it b o _ => o.isEmpty && cName t fun y _ => y == Str.ofString "row" && isStore k y && notSet it && chkE k it (.var "rows") && c3 b fun s1 s2 s3 => grp1 k s1 && grp2 k s2 && grp3 k s3
mutual
noncomputable def chkS (k : KD) (st : Stmt) (ms : MS) : Bool := match ms with
  | .assign x e => cAssign st fun ts v _ => c1 ts fun t => cName t fun y _ => y == Str.ofString x && isStore k y && chkE k v e
  | .append x e => cExpr st fun v _ => cCall v fun g as ks p => ks.isEmpty && c1 as fun a => cAttr g fun n at_ ap => cName n fun y _ => y == Str.ofString x && isStore k y && at_ == Str.ofString "append" && ap.endLine == p.line && chkE k a e
  | .setk x ke e => cAssign st fun ts v _ => c1 ts fun t => cSub t fun o i _ => cName o fun y _ => y == Str.ofString x && isStore k y && chkE k i ke && chkE k v e
  | .ite c t f => cIf st fun v b o _ => chkE k v c && chkSs k b t && chkSs k o f
  | .for_ x src body => cFor st fun t it b o _ => o.isEmpty && cName t fun y _ => y == Str.ofString x && isStore k y && notSet it && chkE k it src && chkSs k b body
  | .ret e => cRet st fun v _ => cOpt v fun v => chkE k v e
  | .bad => true
  | .grp => grpB k st
termination_by structural ms
noncomputable def chkSs (k : KD) (ss : List Stmt) (ms : List MS) : Bool := match ms with
  | [] => ss.isEmpty
  | a :: r => (match ss with | s :: ss' => chkS k s a && chkSs k ss' r | [] => false)
termination_by structural ms
end

theorem css_nil (k : KD) (es : List Stmt) : chkSs k es [] = es.isEmpty := rfl
theorem css_cons (k : KD) (e : Stmt) (es : List Stmt) (a : MS) (r : List MS) : chkSs k (e :: es) (a :: r) = (chkS k e a && chkSs k es r) := rfl
theorem css_consn (k : KD) (a : MS) (r : List MS) : chkSs k [] (a :: r) = false := rfl
section
variable {k : KD} {st : Stmt}
theorem inv_assign {x : String} {e : ME} (h : chkS k st (.assign x e) = true) : ∃ y p v pos, st = .Assign [.Name y p] v pos ∧ (y == Str.ofString x && isStore k y && chkE k v e) = true := by
  replace h := cAssign_inv h; obtain ⟨ts, v, p, rfl, h⟩ := h
  replace h := c1_inv h; obtain ⟨t, rfl, h⟩ := h
  replace h := cName_inv h; obtain ⟨y, py, rfl, h⟩ := h
  exact ⟨y, py, v, p, rfl, h⟩
theorem inv_append {x : String} {e : ME} (h : chkS k st (.append x e) = true) : ∃ y yp at_ ap a p pos, st = .Expr (.Call (.Attribute (.Name y yp) at_ ap) [a] [] p) pos ∧ (y == Str.ofString x && isStore k y && at_ == Str.ofString "append" && ap.endLine == p.line && chkE k a e) = true := by
  replace h := cExpr_inv h; obtain ⟨v, pos, rfl, h⟩ := h
  replace h := cCall_inv h; obtain ⟨g, as, ks, p, rfl, h⟩ := h
  rw [Bool.and_eq_true] at h
  obtain ⟨h1, h⟩ := h
  replace h := c1_inv h; obtain ⟨a, rfl, h⟩ := h
  replace h := cAttr_inv h; obtain ⟨n, at_, ap, rfl, h⟩ := h
  replace h := cName_inv h; obtain ⟨y, yp, rfl, h⟩ := h
  exact ⟨y, yp, at_, ap, a, p, pos, by rw [List.isEmpty_iff.mp h1], h⟩
theorem inv_setk {x : String} {ke e : ME} (h : chkS k st (.setk x ke e) = true) : ∃ y yp i p v pos, st = .Assign [.Subscript (.Name y yp) i p] v pos ∧ (y == Str.ofString x && isStore k y && chkE k i ke && chkE k v e) = true := by
  replace h := cAssign_inv h; obtain ⟨ts, v, pos, rfl, h⟩ := h
  replace h := c1_inv h; obtain ⟨t, rfl, h⟩ := h
  replace h := cSub_inv h; obtain ⟨o, i, p, rfl, h⟩ := h
  replace h := cName_inv h; obtain ⟨y, yp, rfl, h⟩ := h
  exact ⟨y, yp, i, p, v, pos, rfl, h⟩
theorem inv_ite {c : ME} {t f : List MS} (h : chkS k st (.ite c t f) = true) : ∃ v b o p, st = .If v b o p ∧ (chkE k v c && chkSs k b t && chkSs k o f) = true := by
  exact cIf_inv h
theorem inv_for {x : String} {src : ME} {body : List MS} (h : chkS k st (.for_ x src body) = true) : ∃ y yp it b p, st = .For (.Name y yp) it b [] p ∧ (y == Str.ofString x && isStore k y && notSet it && chkE k it src && chkSs k b body) = true := by
  replace h := cFor_inv h; obtain ⟨t, it, b, o, p, rfl, h⟩ := h
  rw [Bool.and_eq_true] at h
  obtain ⟨h1, h⟩ := h
  replace h := cName_inv h; obtain ⟨y, yp, rfl, h⟩ := h
  exact ⟨y, yp, it, b, p, by rw [List.isEmpty_iff.mp h1], h⟩
theorem inv_ret {e : ME} (h : chkS k st (.ret e) = true) : ∃ v p, st = .Return (some v) p ∧ chkE k v e = true := by
  replace h := cRet_inv h; obtain ⟨v, p, rfl, h⟩ := h
  replace h := cOpt_inv h; obtain ⟨v, rfl, h⟩ := h
  exact ⟨v, p, rfl, h⟩
end

noncomputable abbrev Own := String → Option Addr
noncomputable def Hot (env : Env) (H₀ : Addr → Prop) (own : Own) (b : Addr) : Prop := H₀ b ∨ b = env.locals ∨ (∃ x, env.cells.lookup x = some b) ∨ ∃ x, own x = some b
noncomputable def Own.less (own : Own) (ns : List String) : Own := fun x => if x ∈ ns then none else own x
theorem Hot.less {env : Env} {H₀ : Addr → Prop} {own : Own} {ns : List String} {b : Addr} (h : Hot env H₀ (own.less ns) b) : Hot env H₀ own b := by
  rcases h with h | h | h | ⟨x, h⟩
  · exact .inl h
  · exact .inr (.inl h)
  · exact .inr (.inr (.inl h))
  · unfold Own.less at h
    split at h
    · cases h
    · exact .inr (.inr (.inr ⟨x, h⟩))

structure StOk (w : World) (base ent h : Heap) (env : Env) (H₀ : Addr → Prop) (own : Own) (m : Str → Option Value) (σ : St) : Prop where
  rep : EnvRep h env m
  plain : ∀ x d, σ.lookup x = some (false, d) → ∃ v, m (Str.ofString x) = some v ∧ Rep w.params h (Hot env H₀ own) v d
  owned : ∀ x d, σ.lookup x = some (true, d) → ∃ a, own x = some a ∧ m (Str.ofString x) = some (.ref a) ∧ OwnD w.params h (Hot env H₀ own) a d
  hot : HOk base h (Hot env H₀ own)
  keep : ∀ b o, ent.get? b = some o → h.get? b = some o
  frE : ent.get? env.locals = none ∧ ∀ x c, env.cells.lookup x = some c → ent.get? c = none
  own1 : ∀ x a, own x = some a → ent.get? a = none ∧ ¬ H₀ a ∧ a ≠ env.locals ∧ ∀ y, env.cells.lookup y ≠ some a
  inj : ∀ x y a, own x = some a → own y = some a → x = y
  ownx : ∀ x a, own x = some a → ∃ o, h.get? a = some o

theorem OwnL.mono {P : Params} {h h' : Heap} {H H' : Addr → Prop} {a : Addr} {ds : List D} (o : OwnL P h H a ds) (ha : ∀ o, h.get? a = some o → h'.get? a = some o) (hk : ∀ b o, ¬ H b → h.get? b = some o → h'.get? b = some o) (hH : ∀ b o, h.get? b = some o → H' b → H b ∨ b = a) : OwnL P h' H' a ds := by
  obtain ⟨vs, n, h1, h2, h3⟩ := o
  refine ⟨vs, n, ha _ h1, h2, h3.mono (fun b o hn e => hk b o (fun q => hn (.inl q)) e) fun b o e q => q.elim (hH b o e) .inr⟩

theorem OwnD.mono {P : Params} {h h' : Heap} {H H' : Addr → Prop} {a : Addr} {d : D} (o : OwnD P h H a d) (ha : ∀ o, h.get? a = some o → h'.get? a = some o) (hk : ∀ b o, ¬ H b → h.get? b = some o → h'.get? b = some o) (hH : ∀ b o, h.get? b = some o → H' b → H b ∨ b = a) : OwnD P h' H' a d := by
  cases d <;> first | exact OwnL.mono o ha hk hH | exact False.elim o | skip
  obtain ⟨es, n, h1, h2, h3, h4, h5⟩ := o
  exact ⟨es, n, ha _ h1, h2, h3.mono (fun b o hn e => hk b o (fun q => hn (.inl q)) e) (fun b o e q => q.elim (hH b o e) .inr), h4.mono (fun b o hn e => hk b o (fun q => hn (.inl q)) e) (fun b o e q => q.elim (hH b o e) .inr), h5⟩

theorem StOk.keeps {w : World} {base ent h h' : Heap} {env : Env} {H₀ : Addr → Prop} {own : Own} {m : Str → Option Value} {σ : St} (S : StOk w base ent h env H₀ own m σ) (hk : ∀ a o, h.get? a = some o → h'.get? a = some o) :
    StOk w base ent h' env H₀ own m σ where
  rep := S.rep.keeps hk
  plain := fun x d e => let ⟨v, h1, h2⟩ := S.plain x d e; ⟨v, h1, h2.keeps hk⟩
  owned := fun x d e => let ⟨a, h1, h2, h4⟩ := S.owned x d e; ⟨a, h1, h2, h4.mono (fun o e => hk _ o e) (fun b o _ e => hk b o e) fun _ _ _ q => .inl q⟩
  hot := S.hot.keeps hk
  keep := fun b o e => hk b o (S.keep b o e)
  frE := S.frE
  own1 := S.own1
  inj := S.inj
  ownx := fun x a e => let ⟨o, ho⟩ := S.ownx x a e; ⟨o, hk _ _ ho⟩

theorem lookup_vis (x : String) : ∀ (σ : St), (vis σ).lookup x = (σ.lookup x).map (·.2)
  | [] => rfl
  | (y, v) :: r => by
    have ih := lookup_vis x r
    unfold vis at ih ⊢
    rw [List.map_cons, List.lookup_cons, List.lookup_cons]
    by_cases h : x = y
    · subst h; simp
    · have : (x == y) = false := by simpa using h
      simp only [this]
      exact ih
theorem lookup_setv (x y : String) (v : Bool × D) : ∀ (σ : St), (setv σ x v).lookup y = if y = x then some v else σ.lookup y
  | [] => by
    unfold setv
    rw [List.lookup_cons]
    by_cases h : y = x
    · simp [h]
    · have : (y == x) = false := by simpa using h
      simp [h, this]
  | (z, u) :: r => by
    unfold setv
    split
    · rename_i h; subst h
      rw [List.lookup_cons, List.lookup_cons]
      by_cases h : y = z
      · simp [h]
      · have : (y == z) = false := by simpa using h
        simp [h, this]
    · rename_i hz
      rw [List.lookup_cons, List.lookup_cons, lookup_setv x y v r]
      by_cases h : y = x
      · subst h
        have : (y == z) = false := by simpa using Ne.symm hz
        simp [this]
      · simp [h]
theorem lookup_freeze (ns : List String) (x : String) : ∀ (σ : St), (freeze ns σ).lookup x = (σ.lookup x).map fun p => (p.1 && !ns.contains x, p.2)
  | [] => rfl
  | (y, v) :: r => by
    have ih := lookup_freeze ns x r
    unfold freeze at ih ⊢
    rw [List.map_cons, List.lookup_cons, List.lookup_cons]
    by_cases h : x = y
    · subst h; simp
    · have : (x == y) = false := by simpa using h
      simp only [this]
      exact ih

theorem StOk.freeze {w : World} {base ent h : Heap} {env : Env} {H₀ : Addr → Prop} {own : Own} {m : Str → Option Value} {σ : St} (S : StOk w base ent h env H₀ own m σ) (ns : List String) :
    StOk w base ent h env H₀ (own.less ns) m (Mine.freeze ns σ) where
  rep := S.rep
  plain := fun x d e => by
    rw [lookup_freeze] at e
    simp only [Option.map_eq_some_iff, Prod.mk.injEq] at e
    obtain ⟨⟨o, d'⟩, h1, h2, h3⟩ := e
    simp only at h2 h3
    subst h3
    cases o with
    | false =>
      obtain ⟨v, q1, q2⟩ := S.plain x d' h1
      exact ⟨v, q1, q2.sub fun _ q => q.less⟩
    | true =>
      simp only [Bool.true_and, Bool.not_eq_false', List.contains_iff_mem] at h2
      obtain ⟨a, q1, q2, q4⟩ := S.owned x d' h1
      refine ⟨_, q2, (q4.mono (H' := Hot env H₀ (own.less ns)) (fun _ e => e) (fun _ _ _ e => e) fun _ _ _ q => .inl q.less).rep ?_⟩
      obtain ⟨_, g1, g2, g3⟩ := S.own1 x a q1
      rintro (e | e | ⟨y, e⟩ | ⟨y, e⟩)
      · exact g1 e
      · exact g2 e
      · exact g3 y e
      · unfold Own.less at e
        split at e
        · cases e
        · rename_i hy
          exact hy (S.inj x y a q1 e ▸ h2)
  owned := fun x d e => by
    rw [lookup_freeze] at e
    simp only [Option.map_eq_some_iff, Prod.mk.injEq] at e
    obtain ⟨⟨o, d'⟩, h1, h2, h3⟩ := e
    simp only at h2 h3
    subst h3
    simp only [Bool.and_eq_true, Bool.not_eq_true', List.contains_eq_mem, decide_eq_false_iff_not] at h2
    obtain ⟨rfl, h2⟩ := h2
    obtain ⟨a, q1, q2, q4⟩ := S.owned x d' h1
    exact ⟨a, by unfold Own.less; rw [if_neg h2]; exact q1, q2, q4.mono (fun _ e => e) (fun _ _ _ e => e) fun _ _ _ q => .inl q.less⟩
  hot := ⟨S.hot.keep, fun a q => S.hot.ex a q.less, fun b o e q => S.hot.off b o e q.less⟩
  keep := S.keep
  frE := S.frE
  own1 := fun x a e => S.own1 x a (by unfold Own.less at e; split at e <;> first | cases e | exact e)
  inj := fun x y a e1 e2 => S.inj x y a (by unfold Own.less at e1; split at e1 <;> first | cases e1 | exact e1) (by unfold Own.less at e2; split at e2 <;> first | cases e2 | exact e2)
  ownx := fun x a e => S.ownx x a (by unfold Own.less at e; split at e <;> first | cases e | exact e)

/-- what is known of the variables, all those of ns let go -/
theorem StOk.nv {w : World} {base ent h : Heap} {env : Env} {H₀ : Addr → Prop} {own : Own} {m : Str → Option Value} {σ : St} (S : StOk w base ent h env H₀ own m σ) (ns : List String) :
    NV w.params env.kindOf ns (vis σ) m h (Hot env H₀ (own.less ns)) := by
  intro x hx _ d hd
  rw [lookup_vis] at hd
  simp only [Option.map_eq_some_iff] at hd
  obtain ⟨⟨o, d'⟩, h1, h2⟩ := hd
  simp only at h2
  subst h2
  have : (Mine.freeze ns σ).lookup x = some (false, d') := by
    rw [lookup_freeze, h1]
    simp [List.contains_iff_mem, hx]
  exact (S.freeze ns).plain x d' this
end Mine
namespace Mine
open PySem PySem.SeqAt

section
variable {w : World} {base ent h h₁ h₂ : Heap} {env : Env} {H₀ : Addr → Prop} {own : Own} {m : Str → Option Value} {σ : St}

theorem frame_ex {a : Addr} (R : EnvRep h env m) (ha : a = env.locals ∨ ∃ y, env.cells.lookup y = some a) : ∃ o, h.get? a = some o := by
  rcases ha with rfl | ⟨y, e⟩
  · obtain ⟨_, ⟨o, _, _, e, _⟩, _⟩ := R.loc; exact ⟨o, e⟩
  · exact R.ex y a e

theorem StOk.assign (S : StOk w base ent h env H₀ own m σ) (hk : ∀ b o, h.get? b = some o → h₁.get? b = some o) {x : String} {v : Value} {a : Addr} {fr : Bool} {d : D} {nw : Option Addr}
    (R₂ : EnvRep h₂ env (upd m (Str.ofString x) v)) (ha : a = env.locals ∨ ∃ y, env.cells.lookup y = some a) {X : Addr → Prop} (hX : ∀ b, X b → h.get? b = none) (hs : ∀ b, b ≠ a → ¬ X b → h₂.get? b = h₁.get? b)
    (hv : (fr = false ∧ nw = none ∧ Rep w.params h₁ (fun b => Hot env H₀ own b ∨ X b) v d) ∨ (fr = true ∧ ∃ c, nw = some c ∧ v = .ref c ∧ h.get? c = none ∧ ¬ H₀ c ∧ ¬ X c ∧ OwnD w.params h₁ (fun b => Hot env H₀ own b ∨ X b) c d)) :
    StOk w base ent h₂ env H₀ (fun y => if y = x then nw else own y) (upd m (Str.ofString x) v) (setv σ x (fr, d)) := by
  have aHot : ∀ own', Hot env H₀ own' a := fun own' => .inr (ha.elim .inl fun e => .inr (.inl e))
  have aEx : ∃ o, h.get? a = some o := frame_ex S.rep ha
  have nX : ∀ b o, h.get? b = some o → ¬ X b := fun b o e q => by have := hX b q; rw [e] at this; cases this
  have newc : ∀ c, nw = some c → h.get? c = none ∧ ¬ H₀ c ∧ ∃ o, h₂.get? c = some o := by
    intro c hc
    rcases hv with ⟨_, e, _⟩ | ⟨_, c', e, _, h1, h2, hXc, h3⟩
    · rw [e] at hc; cases hc
    · rw [e] at hc; cases hc
      obtain ⟨_, h3⟩ := h3.ex
      refine ⟨h1, h2, _, (hs c (fun q => ?_) hXc).trans h3⟩
      obtain ⟨o, ho⟩ := aEx
      rw [← q, h1] at ho; cases ho
  have hotEq : ∀ b o, h.get? b = some o → Hot env H₀ (fun y => if y = x then nw else own y) b → Hot env H₀ own b := by
    intro b o e q
    rcases q with q | q | q | ⟨y, q⟩
    · exact .inl q
    · exact .inr (.inl q)
    · exact .inr (.inr (.inl q))
    · dsimp only at q
      split at q
      · have := (newc b q).1; rw [e] at this; cases this
      · exact .inr (.inr (.inr ⟨y, q⟩))
  have k2 : ∀ b o, ¬ Hot env H₀ own b → h.get? b = some o → h₂.get? b = some o := fun b o hn e => (hs b (fun q => hn (q ▸ aHot own)) (nX b o e)).trans (hk b o e)
  have k2' : ∀ b o, h.get? b = some o → ∃ o', h₂.get? b = some o' := fun b o e => by
    by_cases q : b = a
    · exact q ▸ frame_ex R₂ ha
    · exact ⟨o, (hs b q (nX b o e)).trans (hk b o e)⟩
  refine ⟨R₂, ?_, ?_, ⟨?_, ?_, ?_⟩, ?_, S.frE, ?_, ?_, ?_⟩
  · intro y d' e
    rw [lookup_setv] at e
    split at e
    · rename_i q; subst q
      cases e
      rcases hv with ⟨_, rfl, r⟩ | ⟨e, _⟩
      · refine ⟨v, by simp [upd], r.mono (fun b o hn e => (hs b (fun q => hn (.inl (q ▸ aHot own))) (fun q => hn (.inr q))).trans e) fun b o _ q => .inl ?_⟩
        rcases q with q | q | q | ⟨z, q⟩
        · exact .inl q
        · exact .inr (.inl q)
        · exact .inr (.inr (.inl q))
        · dsimp only at q
          split at q
          · cases q
          · exact .inr (.inr (.inr ⟨z, q⟩))
      · cases e
    · rename_i q
      obtain ⟨u, h1, h2⟩ := S.plain y d' e
      refine ⟨u, ?_, h2.mono k2 hotEq⟩
      have : Str.ofString y ≠ Str.ofString x := fun e => q (ofString_inj e)
      simp [upd, this, h1]
  · intro y d' e
    rw [lookup_setv] at e
    split at e
    · rename_i q; subst q
      cases e
      rcases hv with ⟨e, _⟩ | ⟨_, c, rfl, rfl, h1, h2, hXc, h3⟩
      · cases e
      · have hca : c ≠ a := fun q => by obtain ⟨o, ho⟩ := aEx; rw [← q, h1] at ho; cases ho
        refine ⟨c, by simp, by simp [upd], h3.mono (fun o e => (hs c hca hXc).trans e) (fun b o hn e => (hs b (fun q => hn (.inl (q ▸ aHot own))) (fun q => hn (.inr q))).trans e) fun b o _ q => ?_⟩
        rcases q with q | q | q | ⟨z, q⟩
        · exact .inl (.inl (.inl q))
        · exact .inl (.inl (.inr (.inl q)))
        · exact .inl (.inl (.inr (.inr (.inl q))))
        · dsimp only at q
          split at q
          · cases q; exact .inr rfl
          · exact .inl (.inl (.inr (.inr (.inr ⟨z, q⟩))))
    · rename_i q
      obtain ⟨c, h1, h2, h4⟩ := S.owned y d' e
      have hca : c ≠ a := by
        obtain ⟨_, _, g2, g3⟩ := S.own1 y c h1
        rcases ha with rfl | ⟨z, e⟩
        · exact g2
        · rintro rfl; exact g3 z e
      have : Str.ofString y ≠ Str.ofString x := fun e => q (ofString_inj e)
      exact ⟨c, by simp [q, h1], by simp [upd, this, h2], h4.mono (fun o e => (hs c hca (nX _ _ e)).trans (hk _ _ e)) k2 fun b o e q => .inl (hotEq b o e q)⟩
  · intro b o e
    exact k2 b o (S.hot.off b o e) (S.hot.keep b o e)
  · intro b q
    rcases q with q | q | q | ⟨y, q⟩
    · obtain ⟨b', o, hb, ho⟩ := S.hot.ex b (.inl q)
      obtain ⟨o', ho'⟩ := k2' b' o ho
      exact ⟨b', o', hb, ho'⟩
    · obtain ⟨o', ho'⟩ := frame_ex R₂ (.inl q)
      exact ⟨b, o', Nat.le_refl _, ho'⟩
    · obtain ⟨o', ho'⟩ := frame_ex R₂ (.inr q)
      exact ⟨b, o', Nat.le_refl _, ho'⟩
    · dsimp only at q
      split at q
      · obtain ⟨_, _, o', ho'⟩ := newc b q
        exact ⟨b, o', Nat.le_refl _, ho'⟩
      · obtain ⟨b', o, hb, ho⟩ := S.hot.ex b (.inr (.inr (.inr ⟨y, q⟩)))
        obtain ⟨o', ho'⟩ := k2' b' o ho
        exact ⟨b', o', hb, ho'⟩
  · intro b o e q
    exact S.hot.off b o e (hotEq b o (S.hot.keep b o e) q)
  · intro b o e
    refine (hs b (fun q => ?_) (nX b o (S.keep b o e))).trans (hk b o (S.keep b o e))
    rcases ha with rfl | ⟨z, ez⟩
    · rw [q, S.frE.1] at e; cases e
    · rw [q, S.frE.2 z a ez] at e; cases e
  · intro y c hc
    split at hc
    · obtain ⟨g1, g2, _⟩ := newc c hc
      refine ⟨?_, g2, ?_, ?_⟩
      · cases e : ent.get? c with
        | none => rfl
        | some o => rw [S.keep c o e] at g1; cases g1
      · rintro rfl
        obtain ⟨o, ho⟩ := frame_ex S.rep (.inl rfl)
        rw [g1] at ho; cases ho
      · intro z ez
        obtain ⟨o, ho⟩ := frame_ex S.rep (.inr ⟨z, ez⟩)
        rw [g1] at ho; cases ho
    · exact S.own1 y c hc
  · intro y z c h1 h2
    split at h1 <;> split at h2
    · rename_i e1 e2; rw [e1, e2]
    · obtain ⟨o, ho⟩ := S.ownx z c h2
      rw [(newc c h1).1] at ho; cases ho
    · obtain ⟨o, ho⟩ := S.ownx y c h1
      rw [(newc c h2).1] at ho; cases ho
    · exact S.inj y z c h1 h2
  · intro y c hc
    split at hc
    · exact (newc c hc).2.2
    · obtain ⟨o, ho⟩ := S.ownx y c hc
      exact k2' c o ho

/-- the owned object of x turns into another -/
theorem StOk.turn (S : StOk w base ent h env H₀ own m σ) {x : String} {a : Addr} {d₀ d : D} (hx : σ.lookup x = some (true, d₀)) (hown : own x = some a) (hs : Heap.SameBut a h h₂) (hd : OwnD w.params h₂ (Hot env H₀ own) a d) :
    StOk w base ent h₂ env H₀ own m (setv σ x (true, d)) := by
  have aHot : Hot env H₀ own a := .inr (.inr (.inr ⟨x, hown⟩))
  obtain ⟨g0, g1, g2, g3⟩ := S.own1 x a hown
  have k2 : ∀ b o, ¬ Hot env H₀ own b → h.get? b = some o → h₂.get? b = some o := fun b o hn e => (hs.2 b fun q => hn (q ▸ aHot)).trans e
  have k2' : ∀ b o, h.get? b = some o → ∃ o', h₂.get? b = some o' := fun b o e => by
    by_cases q : b = a
    · exact q ▸ hd.ex
    · exact ⟨o, (hs.2 b q).trans e⟩
  have R₂ : EnvRep h₂ env m := S.rep.keepsAt fun b o hb e => (hs.2 b (by
    rcases hb with rfl | ⟨z, ez⟩
    · exact Ne.symm g2
    · rintro rfl; exact g3 z ez)).trans e
  refine ⟨R₂, ?_, ?_, ⟨?_, ?_, S.hot.off⟩, ?_, S.frE, S.own1, S.inj, ?_⟩
  · intro y d' e
    rw [lookup_setv] at e
    split at e
    · cases e
    · obtain ⟨u, h1, h2⟩ := S.plain y d' e
      exact ⟨u, h1, h2.mono k2 fun _ _ _ q => q⟩
  · intro y d' e
    rw [lookup_setv] at e
    split at e
    · rename_i q; subst q
      cases e
      obtain ⟨a', q1, q2, _⟩ := S.owned y _ hx
      rw [hown] at q1; cases q1
      exact ⟨a, hown, q2, hd⟩
    · rename_i q
      obtain ⟨c, h1, h2, h4⟩ := S.owned y d' e
      have hca : c ≠ a := fun e => q (S.inj y x a (e ▸ h1) hown)
      exact ⟨c, h1, h2, h4.mono (fun o e => (hs.2 c hca).trans e) k2 fun b o e q => .inl q⟩
  · intro b o e
    exact k2 b o (S.hot.off b o e) (S.hot.keep b o e)
  · intro b q
    obtain ⟨b', o, hb, ho⟩ := S.hot.ex b q
    obtain ⟨o', ho'⟩ := k2' b' o ho
    exact ⟨b', o', hb, ho'⟩
  · intro b o e
    exact (hs.2 b fun q => by rw [q, g0] at e; cases e).trans (S.keep b o e)
  · intro y c hc
    obtain ⟨o, ho⟩ := S.ownx y c hc
    exact k2' c o ho
theorem StOk.append (S : StOk w base ent h env H₀ own m σ) {x : String} {a : Addr} {ds : List D} {vs : Array Value} {n : Nat} {v : Value} {d : D} (hx : σ.lookup x = some (true, .list ds)) (hown : own x = some a)
    (hl : h.get? a = some (lstO vs n)) (hr : RepAll w.params h (fun b => Hot env H₀ own b ∨ b = a) vs.toList ds) (hv : Rep w.params h (Hot env H₀ own) v d) (hsz : (ds ++ [d]).length ≤ big) (hs : Heap.SameBut a h h₂) (hl₂ : ∃ n', h₂.get? a = some (lstO (vs.push v) n')) :
    StOk w base ent h₂ env H₀ own m (setv σ x (true, .list (ds ++ [d]))) := by
  have aHot : Hot env H₀ own a := .inr (.inr (.inr ⟨x, hown⟩))
  have k2 : ∀ b o, ¬ Hot env H₀ own b → h.get? b = some o → h₂.get? b = some o := fun b o hn e => (hs.2 b fun q => hn (q ▸ aHot)).trans e
  obtain ⟨n', e'⟩ := hl₂
  refine S.turn hx hown hs ⟨vs.push v, n', e', hsz, ?_⟩
  have r : RepAll w.params h (fun b => Hot env H₀ own b ∨ b = a) (vs.toList ++ [v]) (ds ++ [d]) := hr.append (.cons (hv.mono (fun _ _ _ e => e) fun b o _ q => q.elim id fun q => q ▸ aHot) .nil)
  have r' := r.mono (h' := h₂) (H' := fun b => Hot env H₀ own b ∨ b = a) (fun b o hn e => k2 b o (fun q => hn (.inl q)) e) fun _ _ _ q => q
  simpa using r'
end
end Mine
namespace Mine
open PySem PySem.SeqAt
section
variable {prog : Program} {w : World} {A : Around}
theorem isKey_tk (k : List CK) : (ofTK k).isKey = true := by
  show (k.map ofCK).all D.isCell = true
  rw [List.all_eq_true]
  intro d hd
  obtain ⟨c, _, rfl⟩ := List.mem_map.mp hd
  cases c <;> rfl
theorem StOk.ownM {base ent h : Heap} {env : Env} {H₀ : Addr → Prop} {own : Own} {m : Str → Option Value} {σ : St} (S : StOk w base ent h env H₀ own m σ) {x : String} {L : Addr} {ks vs : List D} (hx : σ.lookup x = some (true, .dict ks vs)) (hL : own x = some L) :
    OwnM w.params h (Hot env H₀ own) L ks vs := by
  obtain ⟨L', q1, q2, o⟩ := S.owned x _ hx
  rw [hL] at q1; cases q1
  exact o
theorem setItem_own {s : Shared} {H : Addr → Prop} {L : Addr} {ks vs : List D} {u kv : Value} {d dk : D} {Q : Unit → Shared → Prop} {E : Value → Shared → Prop} (hu : A.units + 1 < cLine) (o : OwnM w.params s.heap H L ks vs)
    (rk : Rep w.params s.heap (fun b => H b ∨ b = L) kv dk) (rv : Rep w.params s.heap (fun b => H b ∨ b = L) u d) (hc : keyOk dk ks = true) (hlen : ks.length < big)
    (hQ : ∀ h' tk, Heap.SameBut L s.heap h' → OwnM w.params h' H L (dput ks vs dk d).1 (dput ks vs dk d).2 → Q () { s with heap := h', toks := tk }) : wpAny (model prog w) A (setItem (.ref L) kv u) Q E s := by
  obtain ⟨es, n, o1, o2, o3, o4, o5, o6, o7, o8⟩ := o
  have e0 : big ≤ sizeLine := by decide
  have hdl : (dput ks vs dk d).1.length ≤ big := by have := dput_len dk d ks vs; omega
  unfold keyOk at hc
  rw [Bool.or_eq_true, Bool.and_eq_true, Bool.and_eq_true] at hc
  have mv : ∀ {h'}, Heap.SameBut L s.heap h' → ∀ {l : List Value} {ds : List D}, RepAll w.params s.heap (fun b => H b ∨ b = L) l ds → RepAll w.params h' (fun b => H b ∨ b = L) l ds := fun hs _ _ r =>
    r.mono (fun b o hb e => (hs.2 b fun q => hb (.inr q)).trans e) fun _ _ _ q => q
  rcases hc with hc | hc
  · obtain ⟨cs, rfl⟩ := cells_ck hc.2
    obtain ⟨c, rfl⟩ := cell_ck hc.1
    have hl : cs.length = (es.toList.map (·.val)).length := by have := o3.length; simpa using this.symm
    have hcn : cs.Nodup := (List.pairwise_map.mp o7).imp fun h e => h (by rw [e])
    refine wpAny_setItem_pairs (knd := cellKind prog w) (rep_ck rk) (dictOf_rep o1 o3 o5 o7) (fun h' hm hs => ?_) (by
      simp only [List.length_map] at hlen
      rw [List.length_zip]; omega)
    obtain ⟨p1, p2⟩ := stored_dput (k := c) rv hl hcn o4
    obtain ⟨es', n', r1, r2, r3, r4, r5, r6⟩ := rep_dictOf (H := fun b => H b ∨ b = L) hm
    rw [p1] at r2 r4 r5 r6
    exact hQ _ _ hs ⟨es', n', r1, hdl, r2, r3 ▸ mv hs p2, r4, r5, r6, o8⟩
  · obtain ⟨cs, rfl⟩ := tks_ck hc.2
    obtain ⟨c, rfl⟩ := tk_ck hc.1
    obtain ⟨xs, hm, e1, e2, e3⟩ := dictH_rep (prog := prog) o1 o3 o5 o7
    obtain ⟨b, rfl, ib⟩ := rep_tk (prog := prog) rk
    subst e1
    have hn : (xs.map (·.1)).Nodup := (List.pairwise_map.mp o7).imp fun h e => h (by rw [e])
    have ek : (xs.map (·.1)).map ofTK = xs.map kD := by rw [List.map_map]; rfl
    rw [ek] at o3 hdl hQ
    obtain ⟨p1, p2, p3⟩ := storedH_dput rk rv hn (e2 ▸ o3) (e3 ▸ o4)
    refine wpAny_setItem_heap (knd := TKd prog w) hu ib hm (fun h' hm' hs => ?_) (by
      simp only [List.length_map] at hlen; omega)
    obtain ⟨o', es', ep', g1, ⟨g2, g3, g4⟩, g5, g6, g7, g8⟩ := hm'
    have ho' : o' = dicO es' ep' := by obtain ⟨a, b, c, d⟩ := o'; dsimp only at g2 g3 g4 g5; subst g2 g3 g4 g5; rfl
    refine hQ _ _ hs ⟨es', ep', ho' ▸ g1, hdl, ?_, ?_, ?_, ?_, ?_, o8⟩
    · rw [g6, List.map_map]; exact mv hs p2
    · rw [g6, List.map_map]; exact mv hs p3
    · rw [g6, ← p1, List.map_map, List.map_map]
      exact List.map_congr_left fun x _ => hash_tk x.1
    · rw [← p1, List.all_eq_true]
      intro z hz
      obtain ⟨x, _, rfl⟩ := List.mem_map.mp hz
      exact isKey_tk x.1
    · rw [← p1]
      exact List.pairwise_map.mpr ((List.pairwise_map.mp g8).imp fun h e => h (ofTK_inj e))
end
end Mine
namespace Mine
open PySem PySem.SeqAt

noncomputable def frm (env : Env) (b : Addr) : Prop := b = env.locals ∨ ∃ x, env.cells.lookup x = some b

noncomputable def SPost (w : World) (base ent : Heap) (env : Env) (H₀ : Addr → Prop) (s : Shared) (own : Own) (r : Fl × St) (f : Flow) (s' : Shared) : Prop :=
  ∃ h' tk, s' = { s with heap := h', toks := tk } ∧ (∀ b o, s.heap.get? b = some o → ¬ frm env b → (∀ x, own x ≠ some b) → h'.get? b = some o) ∧ (∀ b o, s.heap.get? b = some o → ∃ o', h'.get? b = some o') ∧
  match r.1 with
  | .next => f = .next ∧ ∃ own' m', StOk w base ent h' env H₀ own' m' r.2 ∧ ∀ x a, own' x = some a → own x = some a ∨ s.heap.get? a = none
  | .ret fr d => ∃ v, f = .ret v ∧ Rep w.params h' H₀ v d ∧ (∀ b o, ent.get? b = some o → h'.get? b = some o) ∧ (fr = true → ∃ a, v = .ref a ∧ ent.get? a = none ∧ OwnD w.params h' H₀ a d)

section
variable {prog : Program} {w : World} {A : Around} {base : Heap} {mg mb : Str → Option Value} {cf : CF}

noncomputable def SS (prog : Program) (w : World) (A : Around) (base : Heap) (cf : CF) (ms : MS) : Prop :=
  ∀ (s : Shared) (env : Env) (st : Stmt) (H₀ : Addr → Prop) (ent : Heap) (own : Own) (m : Str → Option Value) (σ : St) (r : Fl × St) (E : Value → Shared → Prop), chkS env.kindOf st ms = true → StOk w base ent s.heap env H₀ own m σ →
    exS cf ms σ = some r → wpAny (model prog w) A (exec st env) (SPost w base ent env H₀ s own r) E s
noncomputable def SSs (prog : Program) (w : World) (A : Around) (base : Heap) (cf : CF) (ms : List MS) : Prop :=
  ∀ (s : Shared) (env : Env) (ss : List Stmt) (H₀ : Addr → Prop) (ent : Heap) (own : Own) (m : Str → Option Value) (σ : St) (r : Fl × St) (E : Value → Shared → Prop), chkSs env.kindOf ss ms = true → StOk w base ent s.heap env H₀ own m σ →
    exSs cf ms σ = some r → wpAny (model prog w) A (execs ss env) (SPost w base ent env H₀ s own r) E s

theorem own_sub {s : Shared} {own own' : Own} (hh : ∀ x a, own' x = some a → own x = some a ∨ s.heap.get? a = none) {b : Addr} {o : Obj} (e : s.heap.get? b = some o) (hn : ∀ x, own x ≠ some b) : ∀ x, own' x ≠ some b := by
  intro x q
  rcases hh x b q with q | q
  · exact hn x q
  · rw [e] at q; cases q

theorem SPost.trans {ent : Heap} {env : Env} {H₀ : Addr → Prop} {s s₁ : Shared} {own own₁ : Own} {r : Fl × St} {f : Flow} {s' : Shared} (h₁ : Heap) (tk₁ : Nat) (e₁ : s₁ = { s with heap := h₁, toks := tk₁ })
    (k₁ : ∀ b o, s.heap.get? b = some o → ¬ frm env b → (∀ x, own x ≠ some b) → h₁.get? b = some o) (x₁ : ∀ b o, s.heap.get? b = some o → ∃ o', h₁.get? b = some o') (o₁ : ∀ x a, own₁ x = some a → own x = some a ∨ s.heap.get? a = none)
    (q : SPost w base ent env H₀ s₁ own₁ r f s') : SPost w base ent env H₀ s own r f s' := by
  subst e₁
  obtain ⟨h', tk, rfl, k, x, q⟩ := q
  have newn : ∀ a, h₁.get? a = none → s.heap.get? a = none := by
    intro a e
    cases q : s.heap.get? a with
    | none => rfl
    | some o =>
      obtain ⟨o', e'⟩ := x₁ a o q
      rw [e] at e'; cases e'
  refine ⟨h', tk, rfl, fun b o e hf ho => k b o (k₁ b o e hf ho) hf (own_sub o₁ e ho), fun b o e => (fun ⟨o', e'⟩ => x b o' e') (x₁ b o e), ?_⟩
  cases hr : r.1 with
  | next =>
    rw [hr] at q
    obtain ⟨q1, own', m', q2, q3⟩ := q
    refine ⟨q1, own', m', q2, fun x a e => ?_⟩
    rcases q3 x a e with e | e
    · exact o₁ x a e
    · exact .inr (newn a e)
  | ret fr d => rw [hr] at q; exact q

/-- a state after a run of an expression -/
theorem StOk.settle {ent h : Heap} {env : Env} {H₀ : Addr → Prop} {own : Own} {m : Str → Option Value} {σ : St} (S : StOk w base ent h env H₀ own m σ) (d : D) (ns : List String) :
    ∃ own', StOk w base ent h env H₀ own' m (Mine.settle d ns σ) ∧ (∀ x a, own' x = some a → own x = some a) ∧ ((d.scalar = true ∧ own' = own) ∨ (d.scalar = false ∧ own' = own.less ns)) := by
  unfold Mine.settle
  cases hd : d.scalar with
  | true => exact ⟨own, S, fun _ _ e => e, .inl ⟨rfl, rfl⟩⟩
  | false => exact ⟨own.less ns, S.freeze ns, fun x a e => by unfold Own.less at e; split at e <;> first | cases e | exact e, .inr ⟨rfl, rfl⟩⟩

theorem nofrm {s : Shared} {env : Env} {h₁ h₂ : Heap} {a : Addr} (hk : ∀ b o, s.heap.get? b = some o → h₁.get? b = some o) (ha : frm env a) (hs : Heap.SameBut a h₁ h₂) (hx : ∃ o, h₂.get? a = some o) :
    (∀ b o, s.heap.get? b = some o → ¬ frm env b → h₂.get? b = some o) ∧ (∀ b o, s.heap.get? b = some o → ∃ o', h₂.get? b = some o') := by
  refine ⟨fun b o e hf => (hs.2 b fun q => hf (q ▸ ha)).trans (hk b o e), fun b o e => ?_⟩
  by_cases q : b = a
  · exact q ▸ hx
  · exact ⟨o, (hs.2 b q).trans (hk b o e)⟩

theorem store_core {s : Shared} {env : Env} {H₀ : Addr → Prop} {ent : Heap} {own : Own} {m : Str → Option Value} {σ : St} {x : String} {ns : List String} {d : D} {fr : Bool} {v : Value} {h₁ h₂ : Heap} {a : Addr} {X : Addr → Prop} {tk : Nat}
    (S : StOk w base ent s.heap env H₀ own m σ) (hk : ∀ b o, s.heap.get? b = some o → h₁.get? b = some o) (rv : Rep w.params h₁ (fun b => Hot env H₀ (own.less ns) b ∨ X b) v d)
    (hfr : fr = true → ∃ c, v = .ref c ∧ s.heap.get? c = none ∧ OwnD w.params h₁ (fun b => Hot env H₀ (own.less ns) b ∨ X b) c d)
    (R₂ : EnvRep h₂ env (upd m (Str.ofString x) v)) (ha : frm env a) (hX : ∀ b, X b → s.heap.get? b = none) (hs : ∀ b, b ≠ a → ¬ X b → h₂.get? b = h₁.get? b) :
    SPost w base ent env H₀ s own (.next, setv (Mine.settle d ns σ) x (fr, d)) .next { s with heap := h₂, toks := tk } := by
  obtain ⟨own', S', hsub, hcase⟩ := S.settle d ns
  have hv : (fr = false ∧ (if fr then (match v with | .ref c => some c | _ => none) else none) = none ∧ Rep w.params h₁ (fun b => Hot env H₀ own' b ∨ X b) v d) ∨
      (fr = true ∧ ∃ c, (if fr then (match v with | .ref c => some c | _ => none) else none) = some c ∧ v = .ref c ∧ s.heap.get? c = none ∧ ¬ H₀ c ∧ ¬ X c ∧ OwnD w.params h₁ (fun b => Hot env H₀ own' b ∨ X b) c d) := by
    cases fr with
    | false =>
      refine .inl ⟨rfl, rfl, ?_⟩
      rcases hcase with ⟨e1, _⟩ | ⟨_, e2⟩
      · exact rv.scalar e1
      · rw [e2]; exact rv
    | true =>
      obtain ⟨c, e1, e3, e4⟩ := hfr rfl
      subst e1
      rcases hcase with ⟨e5, _⟩ | ⟨_, e6⟩
      · rw [e4.scalar] at e5; cases e5
      · rw [e6]
        have hn := rv.off
        exact .inr ⟨rfl, c, rfl, rfl, e3, fun q => hn (.inl (.inl q)), fun q => hn (.inr q), e4⟩
  have S₂ := S'.assign (x := x) (v := v) (fr := fr) (d := d) hk R₂ ha hX hs hv
  have nX : ∀ b o, s.heap.get? b = some o → ¬ X b := fun b o e q => by have := hX b q; rw [e] at this; cases this
  refine ⟨h₂, tk, rfl, fun b o e hf _ => (hs b (fun q => hf (q ▸ ha)) (nX b o e)).trans (hk b o e), fun b o e => ?_, rfl, _, _, S₂, fun y c hc => ?_⟩
  · by_cases q : b = a
    · exact q ▸ frame_ex R₂ ha
    · exact ⟨o, (hs b q (nX b o e)).trans (hk b o e)⟩
  · split at hc
    · rcases hv with ⟨_, e, _⟩ | ⟨_, c', e, _, h1, _⟩
      · rw [e] at hc; cases hc
      · rw [e] at hc; cases hc; exact .inr h1
    · exact .inl (hsub y c hc)

theorem isStore_kind {k : KD} {x : Str} (hx : isStore k x = true) : k x = some .local ∨ k x = some .cell := by
  unfold isStore at hx
  simp only [Bool.and_eq_true, Bool.or_eq_true, beq_iff_eq] at hx
  exact hx.1

/-- a store of an expression's value into a name -/
theorem store_value {s s₁ : Shared} {env : Env} {H₀ : Addr → Prop} {ent : Heap} {own : Own} {m : Str → Option Value} {σ : St} {x : String} {e : ME} {d : D} {fr : Bool} {v : Value} {E : Value → Shared → Prop} {Q : Unit → Shared → Prop}
    (S : StOk w base ent s.heap env H₀ own m σ) (hx : isStore env.kindOf (Str.ofString x) = true) (q : PostF w s (Hot env H₀ (own.less e.names)) d fr v s₁)
    (hQ : ∀ s₂, SPost w base ent env H₀ s own (.next, setv (Mine.settle d e.names σ) x (fr, d)) .next s₂ → Q () s₂) :
    wpAny (model prog w) A (storeName env (Str.ofString x) v) Q E s₁ := by
  obtain ⟨kp, rv, hfr⟩ := q
  obtain ⟨h₁, tk₁, rfl, hk⟩ := kp
  refine store_snd (s := { s with heap := h₁, toks := tk₁ }) (S.rep.keeps hk) (isStore_kind hx) fun h₂ tk₂ a R₂ ha hs => hQ _ ?_
  refine store_core (X := fun _ => False) S hk (rv.sub fun _ q => q.elim id False.elim) (fun hf => ?_) R₂ (ha.imp id fun e => ⟨_, e⟩) (fun _ q => q.elim) fun b hb _ => hs.2 b hb
  obtain ⟨c, e1, e3, e4⟩ := hfr hf
  exact ⟨c, e1, e3, e4.mono (fun _ e => e) (fun _ _ _ e => e) fun _ _ _ q => q.elim .inl False.elim⟩

theorem ss_assign (G : GOk mg mb base) (C : CSound prog w base mg cf A) (hh : A.handled = none) (hu : A.units + 1 < cLine) (x : String) (e : ME) : SS prog w A base cf (.assign x e) := by
  intro s env st H₀ ent own m σ r E hc S hev
  replace hc := inv_assign hc; obtain ⟨_, _, _, _, rfl, hc⟩ := hc
  · rename_i y p v pos
    simp only [Bool.and_eq_true, beq_iff_eq] at hc
    obtain ⟨⟨rfl, hst⟩, hc⟩ := hc
    simp only [xs_assign, xs_append, xs_setk, xs_ite, xs_for_, xs_ret, xs_bad, xs_grp] at hev
    split at hev
    · rename_i d fr hd
      cases hev
      have Sf := (all_E G C hh hu e).2.2
      have nv := S.nv e.names
      have hw : HOk base s.heap (Hot env H₀ (own.less e.names)) := (S.freeze e.names).hot
      have plain : swapsWith v (some (.Name (Str.ofString x) p)) pos.line env = pure false → wpAny (model prog w) A (exec (.Assign [.Name (Str.ofString x) p] v pos) env) (SPost w base ent env H₀ s own (.next, setv (Mine.settle d e.names σ) x (fr, d))) E s := fun hsw => by
        refine wpAny_Assign_Name (wpAny_mono (Sf s env v _ (vis σ) m d fr E hc S.rep hw nv hd) (fun u s₁ q => ?_) fun _ _ e => e) hsw
        exact store_value S hst q fun s₂ q => q
      by_cases hcomp : notComp v = true
      · refine plain ?_
        cases v <;> first | rfl | cases hcomp
      · have hl : ∃ t gens scope lp, v = .ListComp t gens scope lp := by
          cases v with
          | ListComp t g sc lp => exact ⟨t, g, sc, lp, rfl⟩
          | SetComp => have hs := chk_shape hc; cases e <;> cases hs
          | DictComp => have hs := chk_shape hc; cases e <;> cases hs
          | _ => exact absurd rfl hcomp
        obtain ⟨t, gens, scope, lp, rfl⟩ := hl
        have hsw : ∃ b, swapsWith (.ListComp t gens scope lp) (some (.Name (Str.ofString x) p)) pos.line env = pure b := ⟨_, rfl⟩
        obtain ⟨b, hsw⟩ := hsw
        cases b with
        | false => exact plain hsw
        | true =>
          have he : ∃ elt z src cs, e = .comp elt z src cs := by have hs := chk_shape hc; cases e <;> first | exact ⟨_, _, _, _, rfl⟩ | cases hs
          obtain ⟨elt, z, src, cs, rfl⟩ := he
          simp only [evF_comp, Option.map_eq_some_iff] at hd
          obtain ⟨d', hd, e'⟩ := hd
          cases e'
          obtain ⟨t', y', py', it', ifs', scope', lp', heq, _⟩ := inv_comp hc
          · cases heq
            rw [exec_Assign_Name_used _ _ _ _ hsw]
            refine wpAny_bind (wpAny_standAt (wpAny_bind ?_))
            show wpAny _ A (do let _ ← comprehension (.ListComp t [⟨.Name y' py', it', ifs', 0⟩] scope lp) scope env _ (newList []) false (eval it' env) (some (assign (.Name (Str.ofString x) p) env))) _ _ s
            refine wpAny_bind (wpAny_mono (comp_snd (use := some (assign (.Name (Str.ofString x) p) env)) (Q := fun _ s' => SPost w base ent env H₀ s own (.next, setv (Mine.settle d (ME.comp elt z src cs).names σ) x (true, d)) .next s') hh (all_E G C hh hu elt).1 (all_E G C hh hu src).1 (all_Es G C hh hu cs).2.2.1 hc S.rep hw nv hd ?_)
              (fun _ s' hq => wpAny_pure (wpAny_pure hq)) fun _ _ e => e)
            intro L Cc h' tk m' out hdl hL hC hLC hns hown hk
            subst hdl
            show wpAny _ A (assign (.Name (Str.ofString x) p) env (.ref L)) _ _ _
            refine wpAny_assign_Name (store_snd (s := { s with heap := h', toks := tk }) (S.rep.keeps hk) (isStore_kind hst) fun h₂ tk₂ a R₂ ha hs => ?_)
            have ha' : frm env a := ha.imp id fun e => ⟨_, e⟩
            obtain ⟨oa, hoa⟩ := frame_ex S.rep ha'
            have haC : a ≠ Cc := fun q => by rw [q, hC] at hoa; cases hoa
            refine ⟨m', hns.sameBut hs (Ne.symm haC), fun h₃ hs₃ => ?_⟩
            have hLn : s.heap.get? L = none := by
              cases e : s.heap.get? L with
              | none => rfl
              | some o => exact absurd (hL _ _ e) (Nat.lt_irrefl _)
            have hLo : ¬ Hot env H₀ (own.less (ME.comp elt z src cs).names) L := fun q => by
              obtain ⟨b, o, hb, ho⟩ := hw.ex L q
              exact Nat.lt_irrefl _ (Nat.lt_of_le_of_lt hb (hL b o ho))
            refine store_core (X := fun b => b = Cc) (h₁ := h') S hk (hown.rep fun q => q.elim hLo hLC) (fun _ => ⟨L, rfl, hLn, hown⟩) (R₂.keepsAt fun b o hb e => (hs₃.2 b fun q => ?_).trans e) ha' (fun b q => q ▸ hC) fun b hb1 hb2 => (hs₃.2 b hb2).trans (hs.2 b hb1)
            obtain ⟨ob, hob⟩ := frame_ex S.rep hb
            rw [q, hC] at hob; cases hob
    · cases hev
end
end Mine
namespace Mine
open PySem PySem.SeqAt

theorem freeze_nil : ∀ (σ : St), freeze [] σ = σ
  | [] => rfl
  | (x, (o, d)) :: r => by
    have := freeze_nil r
    unfold freeze at this ⊢
    rw [List.map_cons, this]
    simp
theorem settle_nil (d : D) (σ : St) : settle d [] σ = σ := by
  unfold settle
  split
  · rfl
  · exact freeze_nil σ
theorem less_nil (own : Own) : own.less [] = own := by
  funext x
  simp [Own.less]

section
variable {prog : Program} {w : World} {A : Around} {base : Heap} {mg mb : Str → Option Value} {cf : CF}
variable {ent h h' : Heap} {env : Env} {H₀ : Addr → Prop} {own : Own} {m : Str → Option Value} {σ : St} {I : Addr}

theorem hot_add {b : Addr} (q : Hot env (fun b => H₀ b ∨ b = I) own b) : Hot env H₀ own b ∨ b = I := by
  rcases q with (q | q) | q | q | q
  · exact .inl (.inl q)
  · exact .inr q
  · exact .inl (.inr (.inl q))
  · exact .inl (.inr (.inr (.inl q)))
  · exact .inl (.inr (.inr (.inr q)))
theorem hot_sub {b : Addr} (q : Hot env H₀ own b) : Hot env (fun b => H₀ b ∨ b = I) own b := by
  rcases q with q | q | q | q
  · exact .inl (.inl q)
  · exact .inr (.inl q)
  · exact .inr (.inr (.inl q))
  · exact .inr (.inr (.inr q))

theorem StOk.addH (S : StOk w base ent h env H₀ own m σ) (hk : ∀ b o, h.get? b = some o → h'.get? b = some o) (hI : h.get? I = none) (hIx : ∃ o, h'.get? I = some o) :
    StOk w base ent h' env (fun b => H₀ b ∨ b = I) own m σ := by
  have S' := S.keeps hk
  have hH : ∀ b o, h.get? b = some o → Hot env (fun b => H₀ b ∨ b = I) own b → Hot env H₀ own b := fun b o e q => (hot_add q).elim id fun q => by rw [q, hI] at e; cases e
  refine ⟨S'.rep, fun x d e => ?_, fun x d e => ?_, ⟨S'.hot.keep, fun b q => ?_, fun b o e q => S.hot.off b o e (hH b o (S.hot.keep b o e) q)⟩, S'.keep, S.frE, fun x a e => ?_, S.inj, S'.ownx⟩
  · obtain ⟨v, h1, h2⟩ := S.plain x d e
    exact ⟨v, h1, h2.mono (fun b o _ e => hk b o e) hH⟩
  · obtain ⟨a, h1, h2, h4⟩ := S.owned x d e
    exact ⟨a, h1, h2, h4.mono (fun o e => hk _ o e) (fun b o _ e => hk b o e) fun b o e q => .inl (hH b o e q)⟩
  · rcases hot_add q with q | q
    · exact S'.hot.ex b q
    · obtain ⟨o, ho⟩ := hIx
      exact ⟨I, o, q ▸ Nat.le_refl _, ho⟩
  · obtain ⟨g1, g2, g3⟩ := S.own1 x a e
    refine ⟨g1, fun q => q.elim g2 fun q => ?_, g3⟩
    obtain ⟨o, ho⟩ := S.ownx x a e
    rw [q, hI] at ho; cases ho

/-- only I has turned -/
theorem StOk.turnI (S : StOk w base ent h env (fun b => H₀ b ∨ b = I) own m σ) (hk : ∀ b o, b ≠ I → h.get? b = some o → h'.get? b = some o) (hIx : ∃ o, h'.get? I = some o) (hf : ¬ frm env I) (hE : ent.get? I = none) :
    StOk w base ent h' env (fun b => H₀ b ∨ b = I) own m σ := by
  have IH : Hot env (fun b => H₀ b ∨ b = I) own I := .inl (.inr rfl)
  have k2 : ∀ b o, ¬ Hot env (fun b => H₀ b ∨ b = I) own b → h.get? b = some o → h'.get? b = some o := fun b o hn e => hk b o (fun q => hn (q ▸ IH)) e
  have k3 : ∀ b o, h.get? b = some o → ∃ o', h'.get? b = some o' := fun b o e => by
    by_cases q : b = I
    · exact q ▸ hIx
    · exact ⟨o, hk b o q e⟩
  refine ⟨S.rep.keepsAt fun b o hb e => hk b o (fun q => hf (q ▸ hb)) e, fun x d e => ?_, fun x d e => ?_, ⟨fun b o e => k2 b o (S.hot.off b o e) (S.hot.keep b o e), fun b q => ?_, S.hot.off⟩, fun b o e => hk b o (fun q => by rw [q, hE] at e; cases e) (S.keep b o e), S.frE, S.own1, S.inj, fun x a e => (fun ⟨o, ho⟩ => k3 a o ho) (S.ownx x a e)⟩
  · obtain ⟨v, h1, h2⟩ := S.plain x d e
    exact ⟨v, h1, h2.mono k2 fun _ _ _ q => q⟩
  · obtain ⟨a, h1, h2, h4⟩ := S.owned x d e
    exact ⟨a, h1, h2, h4.mono (fun o e => hk _ o (fun q => (S.own1 x a h1).2.1 (.inr q)) e) k2 fun b o e q => .inl q⟩
  · obtain ⟨b', o, hb, ho⟩ := S.hot.ex b q
    obtain ⟨o', ho'⟩ := k3 b' o ho
    exact ⟨b', o', hb, ho'⟩

/-- the loop is left: I is nobody's -/
theorem StOk.leave (S : StOk w base ent h env (fun b => H₀ b ∨ b = I) own m σ) (hk : ∀ b o, b ≠ I → h.get? b = some o → h'.get? b = some o) (hx : Ex h' H₀) (hf : ¬ frm env I) (hE : ent.get? I = none) :
    StOk w base ent h' env H₀ own m σ := by
  have IH : Hot env (fun b => H₀ b ∨ b = I) own I := .inl (.inr rfl)
  have k2 : ∀ b o, ¬ Hot env (fun b => H₀ b ∨ b = I) own b → h.get? b = some o → h'.get? b = some o := fun b o hn e => hk b o (fun q => hn (q ▸ IH)) e
  have ownk : ∀ x a, own x = some a → ∃ o, h'.get? a = some o := fun x a e => by
    obtain ⟨o, ho⟩ := S.ownx x a e
    exact ⟨o, hk a o (fun q => (S.own1 x a e).2.1 (.inr q)) ho⟩
  have R : EnvRep h' env m := S.rep.keepsAt fun b o hb e => hk b o (fun q => hf (q ▸ hb)) e
  refine ⟨R, fun x d e => ?_, fun x d e => ?_, ⟨fun b o e => k2 b o (S.hot.off b o e) (S.hot.keep b o e), fun b q => ?_, fun b o e q => S.hot.off b o e (hot_sub q)⟩, fun b o e => hk b o (fun q => by rw [q, hE] at e; cases e) (S.keep b o e), S.frE, fun x a e => ?_, S.inj, ownk⟩
  · obtain ⟨v, h1, h2⟩ := S.plain x d e
    exact ⟨v, h1, h2.mono k2 fun _ _ _ q => hot_sub q⟩
  · obtain ⟨a, h1, h2, h4⟩ := S.owned x d e
    exact ⟨a, h1, h2, h4.mono (fun o e => hk _ o (fun q => (S.own1 x a h1).2.1 (.inr q)) e) k2 fun b o e q => .inl (hot_sub q)⟩
  · rcases q with q | q | q | ⟨y, q⟩
    · exact hx b q
    · obtain ⟨o, ho⟩ := frame_ex R (.inl q); exact ⟨b, o, Nat.le_refl _, ho⟩
    · obtain ⟨o, ho⟩ := frame_ex R (.inr q); exact ⟨b, o, Nat.le_refl _, ho⟩
    · obtain ⟨o, ho⟩ := ownk y b q; exact ⟨b, o, Nat.le_refl _, ho⟩
  · obtain ⟨g1, g2, g3⟩ := S.own1 x a e
    exact ⟨g1, fun q => g2 (.inl q), g3⟩

theorem ss_ret (G : GOk mg mb base) (C : CSound prog w base mg cf A) (hh : A.handled = none) (hu : A.units + 1 < cLine) (e : ME) : SS prog w A base cf (.ret e) := by
  intro s env st H₀ ent own m σ r E hc S hev
  replace hc := inv_ret hc; obtain ⟨_, _, rfl, hc⟩ := hc
  · rename_i v pos
    have gen : ∀ d fr, evF cf (vis σ) e = some (d, fr) → wpAny (model prog w) A (exec (.Return (some v) pos) env) (SPost w base ent env H₀ s own (.ret fr d, σ)) E s := by
      intro d fr hd
      refine wpAny_Return_some (wpAny_mono ((all_E G C hh hu e).2.2 s env v _ (vis σ) m d fr E hc S.rep (S.freeze e.names).hot (S.nv e.names) hd) (fun u s₁ q => ?_) fun _ _ e => e)
      obtain ⟨⟨h₁, tk₁, rfl, hk⟩, rv, hfr⟩ := q
      refine ⟨h₁, tk₁, rfl, fun b o e _ _ => hk b o e, fun b o e => ⟨o, hk b o e⟩, u, rfl, rv.sub fun _ q => .inl q, fun b o e => hk b o (S.keep b o e), fun hf => ?_⟩
      obtain ⟨a, e1, e3, e4⟩ := hfr hf
      refine ⟨a, e1, ?_, e4.mono (fun _ e => e) (fun _ _ _ e => e) fun _ _ _ q => .inl (.inl q)⟩
      cases q : ent.get? a with
      | none => rfl
      | some o => rw [S.keep a o q] at e3; cases e3
    simp only [xs_assign, xs_append, xs_setk, xs_ite, xs_for_, xs_ret, xs_bad, xs_grp] at hev
    split at hev
    · rename_i x
      split at hev
      · rename_i fr d hd
        cases hev
        have hv : (vis σ).lookup x = some d := by rw [lookup_vis, hd]; rfl
        cases fr with
        | false => exact gen d false (by show (evE cf (vis σ) (.var _)).map _ = _; simp only [ev_var, ev_glob, ev_int, ev_str, ev_bool, ev_none, ev_bin, ev_cmp, ev_bop, ev_not, ev_neg, ev_tup, ev_lst, ev_dct, ev_sub, ev_sl, ev_comp, ev_call, ev_isi, ev_blt, ev_lcp, hv]; rfl)
        | true =>
          obtain ⟨a, q1, q2, q4⟩ := S.owned x d hd
          replace hc := inv_var hc; obtain ⟨_, _, rfl, hc⟩ := hc
          · simp only [Bool.and_eq_true, beq_iff_eq] at hc
            obtain ⟨rfl, hvar⟩ := hc
            obtain ⟨g1, g2, g3⟩ := S.own1 x a q1
            have q5 : OwnD w.params s.heap H₀ a d := q4.mono (fun _ e => e) (fun _ _ _ e => e) fun _ _ _ q => .inl (.inl q)
            refine wpAny_Return_some (load_snd S.rep hvar q2 ?_)
            exact ⟨s.heap, s.toks, rfl, fun b o e _ _ => e, fun b o e => ⟨o, e⟩, _, rfl, q5.rep g2, S.keep, fun _ => ⟨a, rfl, g1, q5⟩⟩
      · cases hev
    · split at hev
      · rename_i d fr hd
        cases hev
        exact gen d fr hd
      · cases hev

theorem ss_append (G : GOk mg mb base) (C : CSound prog w base mg cf A) (hh : A.handled = none) (hu : A.units + 1 < cLine) (x : String) (e : ME) : SS prog w A base cf (.append x e) := by
  intro s env st H₀ ent own m σ r E hc S hev
  replace hc := inv_append hc; obtain ⟨_, _, _, _, _, _, _, rfl, hc⟩ := hc
  · rename_i y yp at_ ap a p pos
    simp only [Bool.and_eq_true, beq_iff_eq] at hc
    obtain ⟨⟨⟨⟨rfl, hst⟩, rfl⟩, hline⟩, hc⟩ := hc
    simp only [xs_assign, xs_append, xs_setk, xs_ite, xs_for_, xs_ret, xs_bad, xs_grp] at hev
    split at hev
    · rename_i d hd
      obtain ⟨own', S', hsub, hcase⟩ := S.settle d e.names
      split at hev
      · rename_i ds hds
        split at hev
        · rename_i hlen
          cases hev
          obtain ⟨L, q1, q2, vs, n, q4, q5, q6⟩ := S'.owned x _ hds
          have hvar : isVar env.kindOf (Str.ofString x) = true := by unfold isStore at hst; simp only [Bool.and_eq_true] at hst; exact hst.2
          have hstar : starEach [a] env = [(false, eval a env)] := spliced_ok (es := [a]) (ms := [e]) (k := env.kindOf) (by simp [cs_nil, cs_cons, cs_consn, hc]) env
          refine wpAny_Expr (wpAny_Call_append rfl (by rw [hstar]; rfl) (by simpa using hline) (by rw [hstar]; rfl) (load_snd S.rep hvar q2 ⟨L, vs, rfl, ⟨_, n, q4, rfl, rfl, rfl⟩, ?_⟩)) (by unfold interactive; rw [S.rep.kind]; rfl) rfl
          refine wpAny_mono ((all_E G C hh hu e).1 s env a _ (vis σ) m d E hc S.rep (S.freeze e.names).hot (S.nv e.names) hd) (fun u s₁ q => ?_) fun _ _ e => e
          obtain ⟨⟨h₁, tk₁, rfl, hk⟩, rv⟩ := q
          have rv' : Rep w.params h₁ (Hot env H₀ own') u d := by
            rcases hcase with ⟨e1, _⟩ | ⟨_, e2⟩
            · exact rv.scalar e1
            · rw [e2]; exact rv
          have e1 := q6.length
          simp only [Array.length_toList] at e1
          refine wpAny_list_append_plain (items := vs) ⟨n, hk _ _ q4⟩ (fun h₂ hl₂ hs₂ => ?_) (by rw [e1]; exact q5)
          have hl₂' : ∃ n', h₂.get? L = some (lstO (vs.push u) n') := hl₂
          have S₂ := (S'.keeps hk).append (x := x) (d := d) (v := u) hds q1 (hk _ _ q4) (q6.keeps hk) rv' (by simp; omega) hs₂ hl₂'
          refine ⟨h₂, tk₁, rfl, fun b o e hf ho => ?_, fun b o e => ?_, rfl, own', m, S₂, fun y a e => .inl (hsub y a e)⟩
          · exact (hs₂.2 b fun q => ho x (hsub x b (q ▸ q1))).trans (hk b o e)
          · by_cases q : b = L
            · obtain ⟨n', e'⟩ := hl₂'; exact ⟨_, q ▸ e'⟩
            · exact ⟨o, (hs₂.2 b q).trans (hk b o e)⟩
        · cases hev
      · cases hev
    · cases hev

theorem Hot.mono {env : Env} {H₀ : Addr → Prop} {own own' : Own} (hs : ∀ x a, own' x = some a → own x = some a) {b : Addr} (h : Hot env H₀ own' b) : Hot env H₀ own b :=
  h.imp id fun h => h.imp id fun h => h.imp id fun ⟨x, h⟩ => ⟨x, hs x b h⟩
theorem ss_setk (G : GOk mg mb base) (C : CSound prog w base mg cf A) (hh : A.handled = none) (hu : A.units + 1 < cLine) (x : String) (ke e : ME) : SS prog w A base cf (.setk x ke e) := by
  intro s env st H₀ ent own m σ r E hc S hev
  replace hc := inv_setk hc; obtain ⟨y, yp, i, p, v, pos, rfl, hc⟩ := hc
  simp only [Bool.and_eq_true, beq_iff_eq] at hc
  obtain ⟨⟨⟨rfl, hst⟩, hci⟩, hcv⟩ := hc
  simp only [xs_assign, xs_append, xs_setk, xs_ite, xs_for_, xs_ret, xs_bad, xs_grp] at hev
  split at hev
  · rename_i d hd
    split at hev
    · rename_i dk hdk
      obtain ⟨own1, S1, hsub1, hcase1⟩ := S.settle d e.names
      obtain ⟨own', S', hsub2, hcase2⟩ := S1.settle dk ke.names
      split at hev
      · rename_i ks vs hds
        split at hev
        · rename_i hcond
          cases hev
          simp only [Bool.and_eq_true, decide_eq_true_eq] at hcond
          obtain ⟨L, q1, q2, o⟩ := S'.owned x _ hds
          have hvar : isVar env.kindOf (Str.ofString x) = true := by unfold isStore at hst; simp only [Bool.and_eq_true] at hst; exact hst.2
          refine wpAny_Assign_Subscript (wpAny_mono ((all_E G C hh hu e).1 s env v _ (vis σ) m d E hcv S.rep (S.freeze e.names).hot (S.nv e.names) hd) (fun u s₁ q => ?_) fun _ _ e => e) (by cases v <;> rfl)
          obtain ⟨⟨h₁, tk₁, rfl, hk⟩, rv⟩ := q
          refine load_snd (s := { s with heap := h₁, toks := tk₁ }) (S.rep.keeps hk) hvar q2 ?_
          have Sk := S.keeps hk
          refine wpAny_mono ((all_E G C hh hu ke).1 { s with heap := h₁, toks := tk₁ } env i _ (vis σ) m _ E hci Sk.rep (Sk.freeze ke.names).hot (Sk.nv ke.names) hdk) (fun kv s₂ q => ?_) fun _ _ e => e
          obtain ⟨⟨h₂, tk₂, rfl, hk2⟩, rk⟩ := q
          have k02 : ∀ b o, s.heap.get? b = some o → h₂.get? b = some o := fun b o e => hk2 b o (hk b o e)
          have LHot : ∀ b, Hot env H₀ own' b ∨ b = L → Hot env H₀ own' b := fun b q => q.elim id fun q => q ▸ .inr (.inr (.inr ⟨x, q1⟩))
          have rv' : Rep w.params h₂ (fun b => Hot env H₀ own' b ∨ b = L) u d := by
            rcases hcase1 with ⟨e1, _⟩ | ⟨_, e2⟩
            · exact rv.scalar e1
            · exact rv.mono (fun b o _ e => hk2 b o e) fun b o _ q => e2 ▸ (LHot b q).mono hsub2
          have rk' : Rep w.params h₂ (fun b => Hot env H₀ own' b ∨ b = L) kv dk := by
            rcases hcase2 with ⟨e1, _⟩ | ⟨_, e2⟩
            · exact rk.scalar e1
            · refine rk.sub fun b q => ?_
              have q := LHot b q
              rw [e2] at q
              exact q.mono fun x a e => by unfold Own.less at e ⊢; split at e <;> first | cases e | (rename_i hx; rw [if_neg hx]; exact hsub1 x a e)
          refine setItem_own (s := { s with heap := h₂, toks := tk₂ }) hu ((S'.keeps k02).ownM hds q1) rk' rv' hcond.1 hcond.2 fun h' tk hs own2 => ?_
          have S₂ := (S'.keeps k02).turn hds q1 hs (d := .dict _ _) own2
          refine ⟨h', tk, rfl, fun b o e hf ho => ?_, fun b o e => ?_, rfl, own', m, S₂, fun y a e => .inl (hsub1 y a (hsub2 y a e))⟩
          · exact (hs.2 b fun q => ho x (hsub1 x b (hsub2 x b (q ▸ q1)))).trans (k02 b o e)
          · by_cases q : b = L
            · obtain ⟨es', n', r1, _⟩ := own2
              exact ⟨_, q ▸ r1⟩
            · exact ⟨o, (hs.2 b q).trans (k02 b o e)⟩
        · cases hev
      · cases hev
    · cases hev
  · cases hev

theorem sss_nil : SSs prog w A base cf [] := by
  intro s env ss H₀ ent own m σ r E hc S hev
  cases ss with
  | nil =>
    simp only [xss_nil, xss_cons] at hev; cases hev
    exact wpAny_execs_nil ⟨s.heap, s.toks, rfl, fun b o e _ _ => e, fun b o e => ⟨o, e⟩, rfl, own, m, S, fun x a e => .inl e⟩
  | cons _ _ => simp [css_nil, css_cons, css_consn] at hc
theorem sss_cons {a : MS} {l : List MS} (ha : SS prog w A base cf a) (hl : SSs prog w A base cf l) : SSs prog w A base cf (a :: l) := by
  intro s env ss H₀ ent own m σ r E hc S hev
  cases ss with
  | nil => simp [css_nil, css_cons, css_consn] at hc
  | cons st ss' =>
    simp only [css_nil, css_cons, css_consn, Bool.and_eq_true] at hc
    simp only [xss_nil, xss_cons] at hev
    split at hev
    · rename_i σ₁ h1
      refine wpAny_execs_cons (wpAny_mono (ha s env st H₀ ent own m σ _ E hc.1 S h1) (fun f s₁ q => ?_) fun _ _ e => e)
      obtain ⟨h₁, tk₁, rfl, k, x, rfl, own', m', S', hsub⟩ := q
      exact wpAny_mono (hl _ env ss' H₀ ent own' m' σ₁ r E hc.2 S' hev) (fun f s₂ q => q.trans h₁ tk₁ rfl k x hsub) fun _ _ e => e
    · rename_i hne
      refine wpAny_execs_cons (wpAny_mono (ha s env st H₀ ent own m σ r E hc.1 S hev) (fun f s₁ q => ?_) fun _ _ e => e)
      obtain ⟨fl, σ₁⟩ := r
      cases fl with
      | next => exact absurd hev (hne σ₁)
      | ret fr d =>
        have q' := q
        obtain ⟨h₁, tk₁, rfl, k, x, v, rfl, _⟩ := q
        exact q'

theorem ss_ite (G : GOk mg mb base) (C : CSound prog w base mg cf A) (hh : A.handled = none) (hu : A.units + 1 < cLine) {c : ME} {t f : List MS} (ht : SSs prog w A base cf t) (hf : SSs prog w A base cf f) : SS prog w A base cf (.ite c t f) := by
  intro s env st H₀ ent own m σ r E hc S hev
  replace hc := inv_ite hc; obtain ⟨_, _, _, _, rfl, hc⟩ := hc
  · rename_i v b o pos
    simp only [Bool.and_eq_true] at hc
    obtain ⟨⟨h1, h2⟩, h3⟩ := hc
    simp only [xs_assign, xs_append, xs_setk, xs_ite, xs_for_, xs_ret, xs_bad, xs_grp] at hev
    split at hev
    · rename_i d hd
      have run : ∀ tt, truth d = some tt → wpAny (model prog w) A (isTrue v env (eval v env)) (fun b s' => Keeps s s' ∧ b = tt) E s := fun tt htt =>
        (all_E G C hh hu c).2.1 s env v _ (vis σ) m d tt E h1 S.rep (S.freeze c.names).hot (S.nv c.names) hd htt
      split at hev
      · rename_i htt
        refine wpAny_If (wpAny_mono (run true htt) (fun b s₁ q => ?_) fun _ _ e => e)
        obtain ⟨⟨h₁, tk₁, rfl, hk⟩, rfl⟩ := q
        simp only [if_true]
        exact wpAny_mono (ht _ env _ H₀ ent own m σ r E h2 (S.keeps hk) hev) (fun f s₂ q => q.trans h₁ tk₁ rfl (fun b o e _ _ => hk b o e) (fun b o e => ⟨o, hk b o e⟩) fun x a e => .inl e) fun _ _ e => e
      · rename_i htt
        refine wpAny_If (wpAny_mono (run false htt) (fun b s₁ q => ?_) fun _ _ e => e)
        obtain ⟨⟨h₁, tk₁, rfl, hk⟩, rfl⟩ := q
        simp only [Bool.false_eq_true, if_false]
        exact wpAny_mono (hf _ env _ H₀ ent own m σ r E h3 (S.keeps hk) hev) (fun f s₂ q => q.trans h₁ tk₁ rfl (fun b o e _ _ => hk b o e) (fun b o e => ⟨o, hk b o e⟩) fun x a e => .inl e) fun _ _ e => e
      · cases hev
    · cases hev

theorem ss_for (G : GOk mg mb base) (C : CSound prog w base mg cf A) (hh : A.handled = none) (hu : A.units + 1 < cLine) {x : String} {src : ME} {body : List MS} (hb : SSs prog w A base cf body) : SS prog w A base cf (.for_ x src body) := by
  intro s env st H₀ ent own m σ r E hc S hev
  replace hc := inv_for hc; obtain ⟨_, _, _, _, _, rfl, hc⟩ := hc
  · rename_i y yp it b pos
    simp only [Bool.and_eq_true, beq_iff_eq] at hc
    obtain ⟨⟨⟨⟨rfl, hst⟩, hset⟩, hcs⟩, hcb⟩ := hc
    simp only [xs_assign, xs_append, xs_setk, xs_ite, xs_for_, xs_ret, xs_bad, xs_grp] at hev
    split at hev
    · rename_i d hd
      split at hev
      · rename_i its hits
        have S0 := S.freeze src.names
        refine wpAny_For (wpAny_mono ((all_E G C hh hu src).1 s env it _ (vis σ) m d E hcs S.rep S0.hot (S.nv src.names) hd) (fun xv s₁ q₁ => ?_) fun _ _ e => e) (notSet_folded hset)
        obtain ⟨k01, rep1⟩ := q₁
        refine wpAny_mono (iter_snd rep1 hh hits) (fun itv s₂ q₂ => ?_) fun _ _ e => e
        obtain ⟨I, rfl, IA⟩ := q₂
        obtain ⟨fp, P, Stt, W, hst0, hfp, hP, hlive⟩ := IA.walk
        obtain ⟨h2, tk2, rfl, k12⟩ := IA.keeps
        obtain ⟨h1, tk1, rfl, k01⟩ := k01
        dsimp only at k12 k01 rep1 hfp hP hst0
        have hIf : h1.get? I = none := IA.fresh
        have hIx : ∃ o, h2.get? I = some o := IA.ex
        have S1 := S0.keeps k01
        have S2 := S1.addH (I := I) k12 hIf hIx
        have fex : ∀ c, frm env c → ∃ o, h1.get? c = some o := fun c hc => frame_ex S1.rep hc
        have nIf : ¬ frm env I := fun q => by obtain ⟨o, e⟩ := fex I q; rw [hIf] at e; cases e
        have nIe : ent.get? I = none := by
          cases q : ent.get? I with
          | none => rfl
          | some o => rw [k01 I o (S.keep I o q)] at hIf; cases hIf
        have sub0 : ∀ z a, (own.less src.names) z = some a → own z = some a := fun z a e => by unfold Own.less at e; split at e <;> first | cases e | exact e
        have e02 : ∀ b o, s.heap.get? b = some o → h2.get? b = some o := fun b o e => k12 b o (k01 b o e)
        have nIs : ∀ b o, h1.get? b = some o → b ≠ I := fun b o e q => by rw [q, hIf] at e; cases e
        have body1 : ∀ dv σ', (fun it σ => exSs cf body (setv σ x (false, it))) dv σ' = exSs cf body (setv σ' x (false, dv)) := fun _ _ => rfl
        refine codeAny_forLoop (fun k s' => ∃ h tk done rest own' m' σ', s' = { s with heap := h, toks := tk } ∧ its = done ++ rest ∧ Stt done.length h ∧ StOk w base ent h env (fun b => H₀ b ∨ b = I) own' m' σ' ∧
          (∀ z a, own' z = some a → (own.less src.names) z = some a ∨ h2.get? a = none) ∧ (∀ b o, h2.get? b = some o → ¬ frm env b → (∀ z, (own.less src.names) z ≠ some b) → b ≠ I → h.get? b = some o) ∧ (∀ b o, h2.get? b = some o → b ≠ I → ∃ o', h.get? b = some o') ∧
          forD (fun it σ => exSs cf body (setv σ x (false, it))) rest σ' = some r ∧ k = rest.length + 1) ?_ (its.length + 1)
          ⟨h2, tk2, [], its, _, m, _, rfl, rfl, hst0, S2, fun z a e => .inl e, fun b o e _ _ _ => e, fun b o e _ => ⟨o, e⟩, hev, rfl⟩
        rintro k s' ⟨h, tk, done, rest, own', m', σ', rfl, hdr, hstt, S', o1, k1, x1, hfor, rfl⟩
        cases rest with
        | nil =>
          simp only [List.append_nil] at hdr
          subst hdr
          refine W.done _ _ _ hstt fun h' tk' hk' => ?_
          simp only [forD] at hfor; cases hfor
          have hk'' : ∀ b o, b ≠ I → h.get? b = some o → h'.get? b = some o := fun b o hb e => hk' b o (by simpa using hb) e
          have hE' : Ex h' H₀ := fun c hc => by
            obtain ⟨b', o, hb, ho⟩ := S.hot.ex c (.inl hc)
            obtain ⟨o', ho'⟩ := x1 b' o (e02 b' o ho) (nIs b' o (k01 b' o ho))
            exact ⟨b', o', hb, hk'' b' o' (nIs b' o (k01 b' o ho)) ho'⟩
          have S3 := S'.leave hk'' hE' nIf nIe
          refine wpAny_execs_nil ⟨h', tk', rfl, fun b o e hf ho => ?_, fun b o e => ?_, rfl, own', m', S3, fun z a e => ?_⟩
          · exact hk'' b o (nIs b o (k01 b o e)) (k1 b o (e02 b o e) hf (fun z q => ho z (sub0 z b q)) (nIs b o (k01 b o e)))
          · obtain ⟨o', ho'⟩ := x1 b o (e02 b o e) (nIs b o (k01 b o e))
            exact ⟨o', hk'' b o' (nIs b o (k01 b o e)) ho'⟩
          · rcases o1 z a e with q | q
            · exact .inl (sub0 z a q)
            · right
              cases q' : s.heap.get? a with
              | none => rfl
              | some o => rw [e02 a o q'] at q; cases q
        | cons dv rest' =>
          have hlt : done.length < its.length := by rw [hdr]; simp
          refine W.item done.length _ _ _ hlt hstt fun v h₁ tk₁ hPv hst₁ hk₁ => ?_
          obtain ⟨dv', e1, rv⟩ := hP _ v hlt hPv
          have : dv' = dv := by
            rw [hdr] at e1
            simpa using e1.symm
          subst this
          have hk₁' : ∀ b o, b ≠ I → h.get? b = some o → h₁.get? b = some o := fun b o hb e => hk₁ b o (by simpa using hb) e
          have SI := S'.turnI hk₁' (hlive _ _ hst₁) nIf nIe
          have hot0 : ∀ b o, h1.get? b = some o → Hot env (fun b => H₀ b ∨ b = I) own' b → Hot env H₀ (own.less src.names) b := by
            intro b o e q
            rcases hot_add q with q | q
            · rcases q with q | q | q | ⟨z, q⟩
              · exact .inl q
              · exact .inr (.inl q)
              · exact .inr (.inr (.inl q))
              · rcases o1 z b q with q | q
                · exact .inr (.inr (.inr ⟨z, q⟩))
                · rw [k12 b o e] at q; cases q
            · exact absurd q (nIs b o e)
          have kk1 : ∀ b o, ¬ Hot env H₀ (own.less src.names) b → h1.get? b = some o → h₁.get? b = some o := fun b o hn e =>
            hk₁' b o (nIs b o e) (k1 b o (k12 b o e) (fun q => hn (.inr (q.elim .inl fun q => .inr (.inl q)))) (fun z q => hn (.inr (.inr (.inr ⟨z, q⟩)))) (nIs b o e))
          have rv' : Rep w.params h₁ (Hot env (fun b => H₀ b ∨ b = I) own') v dv' := rv.mono kk1 hot0
          refine wpAny_assign_Name (store_snd (s := { s with heap := h₁, toks := tk₁ }) SI.rep (isStore_kind hst) fun h₂ tk₂ a R₂ ha hs => ?_)
          have ha' : frm env a := ha.imp id fun e => ⟨_, e⟩
          have q3 := store_core (s := { s with heap := h₁, toks := tk₁ }) (x := x) (ns := []) (d := dv') (fr := false) (v := v) (h₁ := h₁) (h₂ := h₂) (a := a) (X := fun _ => False) (tk := tk₂) SI (fun _ _ e => e)
            (by rw [less_nil]; exact rv'.sub fun _ q => q.elim id False.elim) (fun e => by cases e) R₂ ha' (fun _ q => q.elim) fun b hb _ => hs.2 b hb
          rw [settle_nil] at q3
          obtain ⟨h₂', tk₂', e₂, k3, x3, _, own₂, m₂, S₂, o2⟩ := q3
          have e4 : h₂ = h₂' := congrArg Shared.heap e₂
          subst e4
          have e5 : tk₂ = tk₂' := congrArg Shared.toks e₂
          subst e5
          have aI : a ≠ I := fun q => nIf (q ▸ ha')
          have hst₂ : Stt (done.length + 1) h₂ := W.frame _ _ _ hst₁ fun b hb o' e => by
            refine (hs.2 b fun q => ?_).trans e
            rcases hfp b hb with e2 | ⟨hn2, o2', e2⟩
            · exact aI (q ▸ e2)
            · exact hn2 (.inr (((q ▸ ha') : frm env b).elim .inl fun q => .inr (.inl q)))
          -- what the body finds
          have keep2 : ∀ b o, h2.get? b = some o → ¬ frm env b → (∀ z, (own.less src.names) z ≠ some b) → b ≠ I → h₂.get? b = some o := fun b o e hf ho hI => (hs.2 b fun q => hf (q ▸ ha')).trans (hk₁' b o hI (k1 b o e hf ho hI))
          have ex2 : ∀ b o, h2.get? b = some o → b ≠ I → ∃ o', h₂.get? b = some o' := fun b o e hI => by
            obtain ⟨o', e'⟩ := x1 b o e hI
            obtain ⟨o'', e''⟩ := x3 b o' (hk₁' b o' hI e')
            exact ⟨o'', e''⟩
          have own2 : ∀ z c, own₂ z = some c → (own.less src.names) z = some c ∨ h2.get? c = none := fun z c e => by
            rcases o2 z c e with q | q
            · exact o1 z c q
            · refine .inr ?_
              cases q' : h2.get? c with
              | none => rfl
              | some o =>
                by_cases hcI : c = I
                · obtain ⟨o', e'⟩ := hlive _ _ hst₁
                  rw [hcI] at q
                  have q : h₁.get? I = none := q
                  rw [e'] at q; cases q
                · obtain ⟨o', e'⟩ := x1 c o q' hcI
                  have q : h₁.get? c = none := q
                  rw [hk₁' c o' hcI e'] at q; cases q
          simp only [forD] at hfor
          have go : ∀ (E' : Value → Shared → Prop) rb, exSs cf body (setv σ' x (false, dv')) = some rb → wpAny (model prog w) A (execs _ env) (SPost w base ent env (fun b => H₀ b ∨ b = I) { s with heap := h₂, toks := tk₂ } own₂ rb) E' { s with heap := h₂, toks := tk₂ } :=
            fun E' rb hrb => hb { s with heap := h₂, toks := tk₂ } env _ _ ent own₂ m₂ _ rb E' hcb S₂ hrb
          cases hbody : exSs cf body (setv σ' x (false, dv')) with
          | none => rw [hbody] at hfor; cases hfor
          | some rb =>
            obtain ⟨fl, σ₂⟩ := rb
            rw [hbody] at hfor
            refine wpAny_mono (go _ _ hbody) (fun f s₃ q => ?_) fun _ _ e => e
            obtain ⟨h₃, tk₃, rfl, k5, x5, q⟩ := q
            have hIx2 : ∃ o, h₂.get? I = some o := hlive _ _ hst₂
            have nIo : ∀ z, own₂ z ≠ some I := fun z q => (S₂.own1 z I q).2.1 (.inr rfl)
            have hst₃ : Stt (done.length + 1) h₃ := W.frame _ _ _ hst₂ fun b hb o' e => by
              rcases hfp b hb with e2 | ⟨hn2, o2', e2⟩
              · subst e2; exact k5 b o' e nIf nIo
              · refine k5 b o' e (fun q => hn2 (.inr (q.elim .inl fun q => .inr (.inl q)))) fun z q => ?_
                rcases own2 z b q with q | q
                · exact hn2 (.inr (.inr (.inr ⟨z, q⟩)))
                · rw [k12 b o2' e2] at q; cases q
            have keep3 : ∀ b o, h2.get? b = some o → ¬ frm env b → (∀ z, (own.less src.names) z ≠ some b) → b ≠ I → h₃.get? b = some o := fun b o e hf ho hI => k5 b o (keep2 b o e hf ho hI) hf fun z q => by
              rcases own2 z b q with q | q
              · exact ho z q
              · rw [e] at q; cases q
            have ex3 : ∀ b o, h2.get? b = some o → b ≠ I → ∃ o', h₃.get? b = some o' := fun b o e hI => by
              obtain ⟨o', e'⟩ := ex2 b o e hI
              exact x5 b o' e'
            have nxt : (∃ own₃ m₃, StOk w base ent h₃ env (fun b => H₀ b ∨ b = I) own₃ m₃ σ₂ ∧ ∀ z c, own₃ z = some c → own₂ z = some c ∨ h₂.get? c = none) → forD (fun it σ => exSs cf body (setv σ x (false, it))) rest' σ₂ = some r →
                ∃ k, k < (dv' :: rest').length + 1 ∧ ∃ h tk done rest own' m' σ', ({ s with heap := h₃, toks := tk₃ } : Shared) = { s with heap := h, toks := tk } ∧ its = done ++ rest ∧ Stt done.length h ∧ StOk w base ent h env (fun b => H₀ b ∨ b = I) own' m' σ' ∧
                (∀ z a, own' z = some a → (own.less src.names) z = some a ∨ h2.get? a = none) ∧ (∀ b o, h2.get? b = some o → ¬ frm env b → (∀ z, (own.less src.names) z ≠ some b) → b ≠ I → h.get? b = some o) ∧ (∀ b o, h2.get? b = some o → b ≠ I → ∃ o', h.get? b = some o') ∧
                forD (fun it σ => exSs cf body (setv σ x (false, it))) rest σ' = some r ∧ k = rest.length + 1 := by
              rintro ⟨own₃, m₃, S₃, o3⟩ hf
              refine ⟨rest'.length + 1, by simp, h₃, tk₃, done ++ [dv'], rest', own₃, m₃, σ₂, rfl, by rw [hdr]; simp, by simpa using hst₃, S₃, fun z c e => ?_, keep3, ex3, hf, rfl⟩
              rcases o3 z c e with q | q
              · exact own2 z c q
              · refine .inr ?_
                cases q' : h2.get? c with
                | none => rfl
                | some o =>
                  by_cases hcI : c = I
                  · obtain ⟨o', e'⟩ := hIx2
                    rw [hcI, e'] at q; cases q
                  · obtain ⟨o', e'⟩ := ex2 c o q' hcI
                    rw [e'] at q; cases q
            cases fl with
            | next =>
              obtain ⟨rfl, q⟩ := q
              exact nxt q hfor
            | ret fr dr =>
              cases hfor
              obtain ⟨u, rfl, q1, q2, q3⟩ := q
              refine ⟨h₃, tk₃, rfl, fun b o e hf ho => keep3 b o (e02 b o e) hf (fun z q => ho z (sub0 z b q)) (nIs b o (k01 b o e)), fun b o e => ex3 b o (e02 b o e) (nIs b o (k01 b o e)), u, rfl, q1.sub fun _ q => .inl q, q2, fun hf => ?_⟩
              obtain ⟨c, g1, g3, g4⟩ := q3 hf
              exact ⟨c, g1, g3, g4.mono (fun _ e => e) (fun _ _ _ e => e) fun _ _ _ q => .inl (.inl q)⟩
      · cases hev
    · cases hev
end
end Mine
namespace Mine
open PySem PySem.SeqAt
section
variable {prog : Program} {w : World} {A : Around} {base : Heap} {mg mb : Str → Option Value} {cf : CF}
variable {ent h h' : Heap} {env : Env} {H₀ Z : Addr → Prop} {own : Own} {m : Str → Option Value} {σ : St}
theorem hotZ {b : Addr} : Hot env (fun b => H₀ b ∨ Z b) own b ↔ Hot env H₀ own b ∨ Z b := by
  unfold Hot
  constructor
  · rintro ((q | q) | q)
    · exact .inl (.inl q)
    · exact .inr q
    · exact .inl (.inr q)
  · rintro ((q | q) | q)
    · exact .inl (.inl q)
    · exact .inr q
    · exact .inl (.inr q)
theorem lookup_del (x y : String) : ∀ (σ : St), (del σ x).lookup y = if y = x then none else σ.lookup y
  | [] => by simp [del]
  | (z, v) :: r => by
    have ih := lookup_del x y r
    unfold del at ih ⊢
    rw [List.filter_cons]
    by_cases hz : z = x
    · subst hz
      simp only [bne_self_eq_false, Bool.false_eq_true, if_false]
      rw [ih, List.lookup_cons]
      by_cases hy : y = z
      · simp [hy]
      · have : (y == z) = false := by simpa using hy
        simp [hy, this]
    · have e : (z != x) = true := by simpa using hz
      simp only [e, if_true]
      rw [List.lookup_cons, List.lookup_cons, ih]
      by_cases hy : y = z
      · subst hy; simp [hz]
      · have : (y == z) = false := by simpa using hy
        simp [this]
/-- an owned variable is put aside: its place is hot by another's right -/
theorem StOk.hide (S : StOk w base ent h env H₀ own m σ) {x : String} {g : Addr} (hg : own x = some g) : StOk w base ent h env (fun b => H₀ b ∨ b = g) (own.less [x]) m (del σ x) := by
  have he : Hot env (fun b => H₀ b ∨ b = g) (own.less [x]) = Hot env H₀ own := by
    funext b
    apply propext
    rw [hotZ]
    constructor
    · rintro (q | rfl)
      · exact q.less
      · exact .inr (.inr (.inr ⟨x, hg⟩))
    · rintro (q | q | q | ⟨y, q⟩)
      · exact .inl (.inl q)
      · exact .inl (.inr (.inl q))
      · exact .inl (.inr (.inr (.inl q)))
      · by_cases hy : y = x
        · subst hy; rw [hg] at q; cases q; exact .inr rfl
        · exact .inl (.inr (.inr (.inr ⟨y, by unfold Own.less; rw [if_neg (by simpa using hy)]; exact q⟩)))
  have sub : ∀ y a, (own.less [x]) y = some a → own y = some a ∧ y ≠ x := fun y a e => by
    unfold Own.less at e
    split at e
    · cases e
    · rename_i hn; exact ⟨e, by simpa using hn⟩
  refine ⟨S.rep, fun y d e => ?_, fun y d e => ?_, he ▸ S.hot, S.keep, S.frE, fun y a e => ?_, fun y z a e1 e2 => S.inj y z a (sub y a e1).1 (sub z a e2).1, fun y a e => S.ownx y a (sub y a e).1⟩
  · rw [lookup_del] at e
    split at e
    · cases e
    · rw [he]; exact S.plain y d e
  · rw [lookup_del] at e
    split at e
    · cases e
    · rename_i hn
      obtain ⟨a, h1, h2, h3⟩ := S.owned y d e
      exact ⟨a, by unfold Own.less; rw [if_neg (by simpa using hn)]; exact h1, h2, he ▸ h3⟩
  · obtain ⟨e1, hn⟩ := sub y a e
    obtain ⟨g1, g2, g3⟩ := S.own1 y a e1
    refine ⟨g1, fun q => q.elim g2 fun q => hn (S.inj y x a e1 (q ▸ hg)), g3⟩
/-- only places in Z have turned -/
theorem StOk.turnZ (S : StOk w base ent h env (fun b => H₀ b ∨ Z b) own m σ) (hk : ∀ b o, ¬ Z b → h.get? b = some o → h'.get? b = some o) (hZ : ∀ b o, Z b → h.get? b = some o → ∃ o', h'.get? b = some o') (hf : ∀ b, Z b → ¬ frm env b) (hE : ∀ b, Z b → ent.get? b = none) :
    StOk w base ent h' env (fun b => H₀ b ∨ Z b) own m σ := by
  have k2 : ∀ b o, ¬ Hot env (fun b => H₀ b ∨ Z b) own b → h.get? b = some o → h'.get? b = some o := fun b o hn e => hk b o (fun q => hn (.inl (.inr q))) e
  have k3 : ∀ b o, h.get? b = some o → ∃ o', h'.get? b = some o' := fun b o e => by
    by_cases q : Z b
    · exact hZ b o q e
    · exact ⟨o, hk b o q e⟩
  refine ⟨S.rep.keepsAt fun b o hb e => hk b o (fun q => hf b q hb) e, fun x d e => ?_, fun x d e => ?_, ⟨fun b o e => k2 b o (S.hot.off b o e) (S.hot.keep b o e), fun b q => ?_, S.hot.off⟩, fun b o e => hk b o (fun q => by have := hE b q; rw [e] at this; cases this) (S.keep b o e), S.frE, S.own1, S.inj, fun x a e => (fun ⟨o, ho⟩ => k3 a o ho) (S.ownx x a e)⟩
  · obtain ⟨v, h1, h2⟩ := S.plain x d e
    exact ⟨v, h1, h2.mono k2 fun _ _ _ q => q⟩
  · obtain ⟨a, h1, h2, h4⟩ := S.owned x d e
    exact ⟨a, h1, h2, h4.mono (fun o e => hk _ o (fun q => (S.own1 x a h1).2.1 (.inr q)) e) k2 fun b o e q => .inl q⟩
  · obtain ⟨b', o, hb, ho⟩ := S.hot.ex b q
    obtain ⟨o', ho'⟩ := k3 b' o ho
    exact ⟨b', o', hb, ho'⟩
/-- the places in Z are nobody's any more -/
theorem StOk.leaveZ (S : StOk w base ent h env (fun b => H₀ b ∨ Z b) own m σ) (hx : Ex h H₀) : StOk w base ent h env H₀ own m σ := by
  have sub : ∀ b, Hot env H₀ own b → Hot env (fun b => H₀ b ∨ Z b) own b := fun b q => hotZ.mpr (.inl q)
  refine ⟨S.rep, fun x d e => ?_, fun x d e => ?_, ⟨S.hot.keep, fun b q => ?_, fun b o e q => S.hot.off b o e (sub b q)⟩, S.keep, S.frE, fun x a e => ?_, S.inj, S.ownx⟩
  · obtain ⟨v, h1, h2⟩ := S.plain x d e
    exact ⟨v, h1, h2.sub sub⟩
  · obtain ⟨a, h1, h2, h4⟩ := S.owned x d e
    exact ⟨a, h1, h2, h4.mono (fun o e => e) (fun _ _ _ e => e) fun b o e q => .inl (sub b q)⟩
  · rcases q with q | q | q | ⟨y, q⟩
    · exact hx b q
    · obtain ⟨o, ho⟩ := frame_ex S.rep (.inl q); exact ⟨b, o, Nat.le_refl _, ho⟩
    · obtain ⟨o, ho⟩ := frame_ex S.rep (.inr q); exact ⟨b, o, Nat.le_refl _, ho⟩
    · obtain ⟨o, ho⟩ := S.ownx y b q; exact ⟨b, o, Nat.le_refl _, ho⟩
  · obtain ⟨g1, g2, g3⟩ := S.own1 x a e
    exact ⟨g1, fun q => g2 (.inl q), g3⟩
/-- a variable's value is told -/
theorem StOk.tell (S : StOk w base ent h env H₀ own m σ) {x : String} {v : Value} {d : D} (hm : m (Str.ofString x) = some v) (ho : own x = none) (r : Rep w.params h (Hot env H₀ own) v d) : StOk w base ent h env H₀ own m (setv σ x (false, d)) := by
  refine ⟨S.rep, fun y d' e => ?_, fun y d' e => ?_, S.hot, S.keep, S.frE, S.own1, S.inj, S.ownx⟩
  · rw [lookup_setv] at e
    split at e
    · rename_i q; subst q; cases e; exact ⟨v, hm, r⟩
    · exact S.plain y d' e
  · rw [lookup_setv] at e
    split at e
    · cases e
    · exact S.owned y d' e
end
end Mine
namespace Mine
open PySem PySem.SeqAt
/-! a dict of lists while it is filled -/
/-- the lists at bs -/
inductive LAll (P : Params) (h : Heap) (H : Addr → Prop) : List Addr → List (List D) → Prop
  | nil : LAll P h H [] []
  | cons {b : Addr} {bs : List Addr} {vs : Array Value} {n : Nat} {ls : List D} {lss : List (List D)} : h.get? b = some (lstO vs n) → ls.length ≤ big → RepAll P h H vs.toList ls → LAll P h H bs lss → LAll P h H (b :: bs) (ls :: lss)
theorem LAll.mono {P : Params} {h h' : Heap} {H H' : Addr → Prop} (hk : ∀ b o, ¬ H b → h.get? b = some o → h'.get? b = some o) (hH : ∀ b o, h.get? b = some o → H' b → H b) :
    ∀ {bs : List Addr} {lss : List (List D)}, (∀ b ∈ bs, ∀ o, h.get? b = some o → h'.get? b = some o) → LAll P h H bs lss → LAll P h' H' bs lss
  | _, _, _, .nil => .nil
  | _, _, hb, .cons e l r q => .cons (hb _ (.head _) _ e) l (r.mono hk hH) (LAll.mono hk hH (fun b h => hb b (.tail _ h)) q)
theorem LAll.snoc {P : Params} {h : Heap} {H : Addr → Prop} {b : Addr} {n : Nat} (e : h.get? b = some (lstO #[] n)) : ∀ {bs : List Addr} {lss : List (List D)}, LAll P h H bs lss → LAll P h H (bs ++ [b]) (lss ++ [[]])
  | _, _, .nil => .cons e (Nat.zero_le _) .nil .nil
  | _, _, .cons e1 l r q => .cons e1 l r (q.snoc e)
theorem LAll.reps {P : Params} {h : Heap} {H : Addr → Prop} : ∀ {bs : List Addr} {lss : List (List D)}, (∀ b ∈ bs, ¬ H b) → LAll P h H bs lss → RepAll P h H (bs.map Value.ref) (lss.map .list)
  | _, _, _, .nil => .nil
  | _, _, hn, .cons e l r q => .cons (.list e (hn _ (.head _)) l r) (q.reps fun b h => hn b (.tail _ h))
structure GI (P : Params) (h : Heap) (H : Addr → Prop) (g : Addr) (bs : List Addr) (ks : List D) (lss : List (List D)) : Prop where
  dict : ∃ es n, h.get? g = some (dicO es n) ∧ RepAll P h H (es.toList.map (·.key)) ks ∧ es.toList.map (·.val) = bs.map Value.ref ∧ es.toList.map (·.hash) = ks.map (hashK P)
  tk : ks.all D.isTK = true
  nd : ks.Nodup
  len : ks.length ≤ big
  lists : LAll P h H bs lss
  bnd : bs.Nodup
  hot : H g ∧ ∀ b ∈ bs, H b
  gb : g ∉ bs
  sys : (g == sysModules) = false
theorem GI.mono {P : Params} {h h' : Heap} {H H' : Addr → Prop} {g : Addr} {bs : List Addr} {ks : List D} {lss : List (List D)} (x : GI P h H g bs ks lss) (hk : ∀ b o, ¬ H b → h.get? b = some o → h'.get? b = some o)
    (hz : ∀ b o, b = g ∨ b ∈ bs → h.get? b = some o → h'.get? b = some o) (hH : ∀ b o, h.get? b = some o → H' b → H b) (hh : ∀ b, H b → H' b) : GI P h' H' g bs ks lss := by
  obtain ⟨es, n, h1, h2, h3, h4⟩ := x.dict
  exact ⟨⟨es, n, hz g _ (.inl rfl) h1, h2.mono hk hH, h3, h4⟩, x.tk, x.nd, x.len, x.lists.mono hk hH fun b hb o e => hz b o (.inr hb) e, x.bnd, ⟨hh _ x.hot.1, fun b hb => hh _ (x.hot.2 b hb)⟩, x.gb, x.sys⟩
section
variable {prog : Program} {w : World} {A : Around} {E : Value → Shared → Prop} {s : Shared} {H : Addr → Prop} {g : Addr} {bs : List Addr} {ks : List D} {lss : List (List D)} {kv : Value} {c : List CK}
theorem GI.dictH {h : Heap} (x : GI w.params h H g bs ks lss) : ∃ xs : List (List CK × Addr × Value), h.DictOfH (TKd prog w) g xs ∧ xs.map kD = ks ∧ xs.map (·.2.2) = bs.map Value.ref := by
  obtain ⟨es, n, h1, h2, h3, h4⟩ := x.dict
  obtain ⟨cs, rfl⟩ := tks_ck x.tk
  obtain ⟨xs, hm, e1, _, e3⟩ := dictH_rep (prog := prog) h1 h2 h4 x.nd
  exact ⟨xs, hm, kD_map e1, e3 ▸ h3⟩
theorem GI.notIn (hu : A.units + 1 < cLine) (x : GI w.params s.heap H g bs ks lss) (rk : Rep w.params s.heap H kv (ofTK c)) {Q : Value → Shared → Prop} (hQ : ∀ tk, Q (.bool (!ks.any fun x => keyEq x (ofTK c))) { s with toks := tk }) :
    wpAny (model prog w) A (compareOp .NotIn kv (.ref g)) Q E s := by
  obtain ⟨xs, hm, e1, _⟩ := x.dictH (prog := prog)
  obtain ⟨a, rfl, ia⟩ := rep_tk (prog := prog) rk
  refine notIn_of_in (Q' := fun v s' => v = .bool (ks.any fun x => keyEq x (ofTK c)) ∧ ∃ tk, s' = { s with toks := tk }) (wpAny_in_heap (knd := TKd prog w) hu ia x.sys hm ⟨?_, _, rfl⟩) ?_
  · rw [any_atKey xs, e1]
  · rintro b s' ⟨e, tk, rfl⟩
    cases e
    exact hQ tk
theorem GI.store (hu : A.units + 1 < cLine) (x : GI w.params s.heap H g bs ks lss) (rk : Rep w.params s.heap H kv (ofTK c)) (hno : (ks.any fun x => keyEq x (ofTK c)) = false) (hlen : ks.length < big) {b : Addr} {n : Nat} (hb : s.heap.get? b = some (lstO #[] n)) (hH : H b) (hbs : b ∉ bs) (hbg : b ≠ g)
    {Q : Unit → Shared → Prop} (hQ : ∀ h' tk, Heap.SameBut g s.heap h' → GI w.params h' H g (bs ++ [b]) (ks ++ [ofTK c]) (lss ++ [[]]) → Q () { s with heap := h', toks := tk }) : wpAny (model prog w) A (setItem (.ref g) kv (.ref b)) Q E s := by
  obtain ⟨xs, hm, e1, e3⟩ := x.dictH (prog := prog)
  obtain ⟨a, rfl, ia⟩ := rep_tk (prog := prog) rk
  have hnone : atKey xs c = none := by
    have := any_atKey (k := c) xs
    rw [e1, hno] at this
    exact Option.isNone_iff_eq_none.mp (by rw [Option.isNone_iff_eq_none]; cases h : atKey xs c with | none => rfl | some p => rw [h] at this; cases this)
  have hl : xs.length = ks.length := by rw [← e1, List.length_map]
  have e0 : big ≤ sizeLine := by decide
  refine wpAny_setItem_heap (knd := TKd prog w) hu ia hm (fun h' hm' hs => ?_) (by omega)
  rw [storedH_new hnone] at hm'
  obtain ⟨o', es', ep', g1, ⟨g2, g3, g4⟩, g5, g6, g7, g8⟩ := hm'
  have ho' : o' = dicO es' ep' := by obtain ⟨a, b, c, d⟩ := o'; dsimp only at g2 g3 g4 g5; subst g2 g3 g4 g5; rfl
  obtain ⟨es, n0, h1, h2, h3, h4⟩ := x.dict
  have keep : ∀ y o, ¬ H y → s.heap.get? y = some o → h'.get? y = some o := fun y o hy e => (hs.2 y fun q => hy (q ▸ x.hot.1)).trans e
  have hkeys : es.toList.map (·.key) = xs.map fun x => Value.ref x.2.1 := by
    obtain ⟨o2, es2, ep2, k1, k2, k3, k4, _⟩ := hm
    rw [h1] at k1; cases k1
    cases k3
    rw [k4, List.map_map]; rfl
  refine hQ _ _ hs ⟨⟨es', ep', ho' ▸ g1, ?_, ?_, ?_⟩, ?_, ?_, by simp; omega, ?_, ?_, ⟨x.hot.1, fun y hy => ?_⟩, fun q => ?_, x.sys⟩
  · have e : es'.toList.map (·.key) = es.toList.map (·.key) ++ [Value.ref a] := by rw [g6, hkeys, List.map_map, List.map_append]; rfl
    rw [e]
    exact (h2.mono keep fun _ _ _ q => q).append (.cons (rk.mono keep fun _ _ _ q => q) .nil)
  · rw [g6, List.map_map, List.map_append, List.map_append, ← e3]; rfl
  · rw [g6, List.map_map, ← e1, List.map_append, List.map_append]
    refine congr (congrArg _ ?_) ?_
    · rw [List.map_map]; exact List.map_congr_left fun x _ => hash_tk x.1
    · show [(TKd prog w).hash c] = _; rw [hash_tk]; rfl
  · rw [List.all_append, x.tk]; simp; exact (List.all_eq_true.mpr fun d hd => by obtain ⟨q, _, rfl⟩ := List.mem_map.mp hd; cases q <;> rfl)
  · rw [List.nodup_append]
    refine ⟨x.nd, List.pairwise_singleton _ _, fun y hy z hz e => ?_⟩
    rw [List.mem_singleton.mp hz] at e
    subst e
    obtain ⟨c', hc'⟩ := tk_ck (List.all_eq_true.mp x.tk _ hy)
    have := List.any_eq_false.mp hno _ hy
    rw [keyEq_tk] at this
    exact this (decide_eq_true rfl)
  · exact (x.lists.mono keep (fun _ _ _ q => q) fun y hy o e => (hs.2 y fun q => x.gb (q ▸ hy)).trans e).snoc ((hs.2 b hbg).trans hb)
  · rw [List.nodup_append]
    exact ⟨x.bnd, List.pairwise_singleton _ _, fun y hy z hz e => hbs (by rw [List.mem_singleton.mp hz] at e; exact e ▸ hy)⟩
  · rcases List.mem_append.mp hy with hy | hy
    · exact x.hot.2 y hy
    · rw [List.mem_singleton.mp hy]; exact hH
  · rcases List.mem_append.mp q with q | q
    · exact x.gb q
    · exact hbg (List.mem_singleton.mp q).symm
/-- the list of a key, and what it is with one more item -/
theorem atKey_app {P : Params} {h : Heap} : ∀ {xs : List (List CK × Addr × Value)} {bs : List Addr} {lss : List (List D)}, xs.map (·.2.2) = bs.map Value.ref → LAll P h H bs lss → (atKey xs c).isSome = true → bs.Nodup →
    ∃ a b vs n ls, atKey xs c = some (a, .ref b) ∧ b ∈ bs ∧ h.get? b = some (lstO vs n) ∧ ls ∈ lss ∧ ls.length ≤ big ∧ vs.size = ls.length ∧
      ∀ (h' : Heap) (v : Value) (d : D) (n' : Nat), (∀ y o, y ≠ b → h.get? y = some o → h'.get? y = some o) → H b → Rep P h' H v d → h'.get? b = some (lstO (vs.push v) n') → ls.length < big → LAll P h' H bs (gapp (xs.map kD) lss (ofTK c) d)
  | [], _, _, _, _, h, _ => by cases h
  | (c', a, u) :: xs, [], _, e, _, _, _ => by cases e
  | (c', a, u) :: xs, b :: bs, _, e, .cons (vs := vs) (n := n) (ls := ls) (lss := lss) hb hl hr hq, hs, hn => by
    rw [List.map_cons, List.map_cons] at e
    obtain ⟨eu, e2⟩ := List.cons.inj e
    obtain ⟨hn1, hn2⟩ := List.nodup_cons.mp hn
    have eu : u = .ref b := eu
    subst eu
    rw [atKey_cons] at hs ⊢
    by_cases hc : c' = c
    · refine ⟨a, b, vs, n, ls, if_pos hc, .head _, hb, .head _, hl, by have := hr.length; simpa using this, fun h' v d n' hk hH rv hb' hlt => ?_⟩
      rw [List.map_cons, gapp, keyEq_tk, if_pos (decide_eq_true hc)]
      have keep : ∀ y o, ¬ H y → h.get? y = some o → h'.get? y = some o := fun y o hy e => hk y o (fun q => hy (q ▸ hH)) e
      refine .cons hb' (by simp; omega) ?_ (hq.mono keep (fun _ _ _ q => q) fun y hy o e => hk y o (fun q => hn1 (q ▸ hy)) e)
      rw [Array.toList_push]
      exact (hr.mono keep fun _ _ _ q => q).append (.cons rv .nil)
    · rw [if_neg hc] at hs
      obtain ⟨a', b', vs', n', ls', q1, q2, q3, q4, q5, q6, q7⟩ := atKey_app e2 hq hs hn2
      refine ⟨a', b', vs', n', ls', (if_neg hc).trans q1, .tail _ q2, q3, .tail _ q4, q5, q6, fun h' v d n2 hk hH rv hb' hlt => ?_⟩
      rw [List.map_cons, gapp, keyEq_tk, if_neg (by simpa using hc)]
      have keep : ∀ y o, ¬ H y → h.get? y = some o → h'.get? y = some o := fun y o hy e => hk y o (fun q => hy (q ▸ hH)) e
      exact .cons (hk b _ (fun q => hn1 (q ▸ q2)) hb) hl (hr.mono keep fun _ _ _ q => q) (q7 h' v d n2 hk hH rv hb' hlt)
end
end Mine
namespace Mine
open PySem PySem.SeqAt
section
variable {prog : Program} {w : World} {A : Around} {base : Heap} {mg mb : Str → Option Value} {cf : CF}
theorem store_plain {s : Shared} {env : Env} {H₀ : Addr → Prop} {ent : Heap} {own : Own} {m : Str → Option Value} {σ : St} {x : String} {v : Value} {d : D} {h₁ : Heap} {tk₁ : Nat} {E : Value → Shared → Prop} {Q : Unit → Shared → Prop}
    (S : StOk w base ent s.heap env H₀ own m σ) (hx : isStore env.kindOf (Str.ofString x) = true) (hox : own x = none) (hk : ∀ b o, s.heap.get? b = some o → h₁.get? b = some o) (rv : Rep w.params h₁ (Hot env H₀ own) v d)
    (hQ : ∀ h₂ tk a, frm env a → Heap.SameBut a h₁ h₂ → StOk w base ent h₂ env H₀ own (upd m (Str.ofString x) v) (setv σ x (false, d)) → Q () { s with heap := h₂, toks := tk }) :
    wpAny (model prog w) A (storeName env (Str.ofString x) v) Q E { s with heap := h₁, toks := tk₁ } := by
  refine store_snd (s := { s with heap := h₁, toks := tk₁ }) (S.rep.keeps hk) (isStore_kind hx) fun h₂ tk₂ a R₂ ha hs => ?_
  have ha' : frm env a := ha.imp id fun e => ⟨_, e⟩
  refine hQ _ _ a ha' hs ?_
  have q := S.assign hk (x := x) (v := v) (a := a) (fr := false) (d := d) (nw := none) R₂ ha' (X := fun _ => False) (fun _ q => q.elim) (fun b hb _ => hs.2 b hb) (.inl ⟨rfl, rfl, rv.sub fun _ q => q.elim id False.elim⟩)
  have e : (fun y => if y = x then none else own y) = own := by
    funext y
    by_cases q : y = x
    · subst q; simp [hox]
    · simp [q]
  rwa [e] at q
theorem load_var {s : Shared} {env : Env} {m : Str → Option Value} {x : String} {v : Value} {e : Expr} {E : Value → Shared → Prop} {Q : Value → Shared → Prop} (hc : chkE env.kindOf e (.var x) = true) (R : EnvRep s.heap env m) (hm : m (Str.ofString x) = some v) (h : Q v s) :
    wpAny (model prog w) A (eval e env) Q E s := by
  replace hc := inv_var hc; obtain ⟨_, _, rfl, hc⟩ := hc
  simp only [Bool.and_eq_true, beq_iff_eq] at hc
  obtain ⟨rfl, hv⟩ := hc
  exact load_snd R hv hm h
/-- the places of the loop, the dict and its lists -/
noncomputable abbrev HZ (H₀ : Addr → Prop) (I g : Addr) (bs : List Addr) : Addr → Prop := fun b => H₀ b ∨ (b = I ∨ b = g ∨ b ∈ bs)
variable {s : Shared} {env : Env} {ent : Heap} {H₀ : Addr → Prop} {own : Own} {m : Str → Option Value} {σ : St} {I g : Addr} {bs : List Addr} {ks : List D} {lss : List (List D)} {E : Value → Shared → Prop}
theorem HZ_add (b : Addr) : (fun x => HZ H₀ I g bs x ∨ x = b) = HZ H₀ I g (bs ++ [b]) := by
  funext x
  apply propext
  simp only [HZ, List.mem_append, List.mem_singleton]
  constructor
  · rintro ((q | q | q | q) | q)
    · exact .inl q
    · exact .inr (.inl q)
    · exact .inr (.inr (.inl q))
    · exact .inr (.inr (.inr (.inl q)))
    · exact .inr (.inr (.inr (.inr q)))
  · rintro (q | q | q | q | q)
    · exact .inl (.inl q)
    · exact .inl (.inr (.inl q))
    · exact .inl (.inr (.inr (.inl q)))
    · exact .inl (.inr (.inr (.inr q)))
    · exact .inr q
theorem grp_own (G : GOk mg mb base) (C : CSound prog w base mg cf A) (hh : A.handled = none) (hu : A.units + 1 < cLine) {r pl k : D} {fr : Bool} {p pos : Pos} {v : Expr}
    (hst : isStore env.kindOf (Str.ofString "own") = true) (hc : chkE env.kindOf v (.call "cells_at" [.var "row", .var "places"]) = true)
    (S : StOk w base ent s.heap env (HZ H₀ I g bs) own m σ) (x : GI w.params s.heap (Hot env (HZ H₀ I g bs) own) g bs ks lss) (zf : ∀ b, (b = g ∨ b ∈ bs) → ¬ frm env b)
    (ho : own "own" = none) (hl : own.less ["row", "places"] = own) (h1 : σ.lookup "row" = some (false, r)) (h2 : σ.lookup "places" = some (false, pl)) (hcall : cf.call "cells_at" [r, pl] = some (k, fr)) :
    wpAny (model prog w) A (exec (.Assign [.Name (Str.ofString "own") p] v pos) env) (fun f s' => f = .next ∧ ∃ h' tk kv, s' = { s with heap := h', toks := tk } ∧ StOk w base ent h' env (HZ H₀ I g bs) own (upd m (Str.ofString "own") kv) (setv σ "own" (false, k)) ∧
      GI w.params h' (Hot env (HZ H₀ I g bs) own) g bs ks lss ∧ (∀ b o, s.heap.get? b = some o → ¬ frm env b → h'.get? b = some o) ∧ (∀ b o, s.heap.get? b = some o → ∃ o', h'.get? b = some o')) E s := by
  have hd : evE cf (vis σ) (.call "cells_at" [.var "row", .var "places"]) = some k := by
    have e1 : (vis σ).lookup "row" = some r := by rw [lookup_vis, h1]; rfl
    have e2 : (vis σ).lookup "places" = some pl := by rw [lookup_vis, h2]; rfl
    simp only [ev_var, ev_glob, ev_int, ev_str, ev_bool, ev_none, ev_bin, ev_cmp, ev_bop, ev_not, ev_neg, ev_tup, ev_lst, ev_dct, ev_sub, ev_sl, ev_comp, ev_call, ev_isi, ev_blt, ev_lcp, evs_nil, evs_cons, e1, e2, hcall]; rfl
  have hsw : swapsWith v (some (.Name (Str.ofString "own") p)) pos.line env = pure false := by
    have := inv_call hc; obtain ⟨_, _, _, _, rfl, _⟩ := this; rfl
  have nv := S.nv (ME.call "cells_at" [.var "row", .var "places"]).names
  have hot := (S.freeze (ME.call "cells_at" [.var "row", .var "places"]).names).hot
  have en : (ME.call "cells_at" [.var "row", .var "places"]).names = ["row", "places"] := rfl
  rw [en, hl] at nv hot
  refine wpAny_Assign_Name (wpAny_mono ((all_E G C hh hu (.call "cells_at" [.var "row", .var "places"])).1 s env v _ (vis σ) m k E hc S.rep hot nv hd) (fun u s₁ q => ?_) fun _ _ e => e) hsw
  obtain ⟨⟨h₁, tk₁, rfl, hk⟩, rv⟩ := q
  refine store_plain S hst ho hk rv fun h₂ tk a ha hs S₂ => ⟨rfl, h₂, tk, u, rfl, S₂, ?_, fun b o e hb => (hs.2 b fun q => hb (q ▸ ha)).trans (hk b o e), fun b o e => ?_⟩
  · refine x.mono (fun b o hb e => (hs.2 b fun q => hb (.inr (q ▸ ha.imp id .inl))).trans (hk b o e)) (fun b o hb e => (hs.2 b fun q => zf b hb (q ▸ ha)).trans (hk b o e)) (fun _ _ _ q => q) fun _ q => q
  · by_cases q : b = a
    · exact q ▸ frame_ex S₂.rep ha
    · exact ⟨o, (hs.2 b q).trans (hk b o e)⟩
end
end Mine
namespace Mine
open PySem PySem.SeqAt
section
variable {prog : Program} {w : World} {A : Around} {base : Heap} {mg mb : Str → Option Value} {cf : CF}
variable {s : Shared} {env : Env} {ent : Heap} {H₀ : Addr → Prop} {own : Own} {m : Str → Option Value} {σ : St} {I g : Addr} {bs : List Addr} {ks : List D} {lss : List (List D)} {E : Value → Shared → Prop}
theorem grp_new (hu : A.units + 1 < cLine) {c : List CK} {kv : Value} {gn on : Expr} {sp p2 lp : Pos} (hcg : chkE env.kindOf gn (.var "groups") = true) (hco : chkE env.kindOf on (.var "own") = true)
    (S : StOk w base ent s.heap env (HZ H₀ I g bs) own m σ) (x : GI w.params s.heap (Hot env (HZ H₀ I g bs) own) g bs ks lss) (zf : ∀ b, (b = I ∨ b = g ∨ b ∈ bs) → ¬ frm env b ∧ ent.get? b = none ∧ (b ≠ I → ¬ Hot env H₀ own b))
    (hmg : m (Str.ofString "groups") = some (.ref g)) (hmo : m (Str.ofString "own") = some kv) (rk : Rep w.params s.heap (Hot env (HZ H₀ I g bs) own) kv (ofTK c)) (hno : (ks.any fun x => keyEq x (ofTK c)) = false) (hlen : ks.length < big) :
    wpAny (model prog w) A (exec (.Assign [.Subscript gn on sp] (.List [] lp) p2) env) (fun f s' => f = .next ∧ ∃ h' tk b, s' = { s with heap := h', toks := tk } ∧ s.heap.get? b = none ∧ StOk w base ent h' env (HZ H₀ I g (bs ++ [b])) own m σ ∧
      GI w.params h' (Hot env (HZ H₀ I g (bs ++ [b])) own) g (bs ++ [b]) (ks ++ [ofTK c]) (lss ++ [[]]) ∧ (∀ y, (y = I ∨ y = g ∨ y ∈ bs ++ [b]) → ¬ frm env y ∧ ent.get? y = none ∧ (y ≠ I → ¬ Hot env H₀ own y)) ∧ (∀ y o, s.heap.get? y = some o → y ≠ g → h'.get? y = some o) ∧ (∀ y o, s.heap.get? y = some o → ∃ o', h'.get? y = some o')) E s := by
  have hfresh : s.heap.get? s.heap.objs.size = none := fresh_size _
  have hkp : ∀ y o, s.heap.get? y = some o → (s.heap.push (lstO #[] 0)).get? y = some o := fun y o e => Heap.get?_push_of_some _ e
  have hb0 : (s.heap.push (lstO #[] 0)).get? s.heap.objs.size = some (lstO #[] 0) := Heap.get?_push_size _ rfl
  have S1 := S.addH (I := s.heap.objs.size) hkp hfresh ⟨_, hb0⟩
  rw [HZ_add] at S1
  have nb : ∀ y o, s.heap.get? y = some o → y ≠ s.heap.objs.size := fun y o e q => by rw [q, hfresh] at e; cases e
  have bH : Hot env (HZ H₀ I g (bs ++ [s.heap.objs.size])) own s.heap.objs.size := .inl (.inr (.inr (.inr (List.mem_append_right _ (.head _)))))
  have hsub : ∀ y, Hot env (HZ H₀ I g bs) own y → Hot env (HZ H₀ I g (bs ++ [s.heap.objs.size])) own y := fun y q => by
    rcases q with (q | q | q | q) | q
    · exact .inl (.inl q)
    · exact .inl (.inr (.inl q))
    · exact .inl (.inr (.inr (.inl q)))
    · exact .inl (.inr (.inr (.inr (List.mem_append_left _ q))))
    · exact .inr q
  have hsup : ∀ y o, s.heap.get? y = some o → Hot env (HZ H₀ I g (bs ++ [s.heap.objs.size])) own y → Hot env (HZ H₀ I g bs) own y := fun y o e q => by
    rcases q with (q | q | q | q) | q
    · exact .inl (.inl q)
    · exact .inl (.inr (.inl q))
    · exact .inl (.inr (.inr (.inl q)))
    · rcases List.mem_append.mp q with q | q
      · exact .inl (.inr (.inr (.inr q)))
      · exact absurd (List.mem_singleton.mp q) (nb y o e)
    · exact .inr q
  have hgx : ∃ o, s.heap.get? g = some o := by obtain ⟨es, n, e, _⟩ := x.dict; exact ⟨_, e⟩
  have hbx : ∀ y ∈ bs, ∃ o, s.heap.get? y = some o := by
    have : ∀ {bs : List Addr} {lss : List (List D)}, LAll w.params s.heap (Hot env (HZ H₀ I g bs) own) bs lss → True := fun _ => trivial
    intro y hy
    have aux : ∀ (l : List Addr) (ls : List (List D)), LAll w.params s.heap (Hot env (HZ H₀ I g bs) own) l ls → ∀ y ∈ l, ∃ o, s.heap.get? y = some o := by
      intro l ls q
      induction q with
      | nil => intro y hy; cases hy
      | cons e _ _ _ ih =>
        intro y hy
        rcases List.mem_cons.mp hy with rfl | hy
        · exact ⟨_, e⟩
        · exact ih y hy
    exact aux bs lss x.lists y hy
  have x1 : GI w.params (s.heap.push (lstO #[] 0)) (Hot env (HZ H₀ I g (bs ++ [s.heap.objs.size])) own) g bs ks lss := x.mono (fun y o _ e => hkp y o e) (fun y o _ e => hkp y o e) hsup hsub
  have rk1 : Rep w.params (s.heap.push (lstO #[] 0)) (Hot env (HZ H₀ I g (bs ++ [s.heap.objs.size])) own) kv (ofTK c) := rk.mono (fun y o _ e => hkp y o e) hsup
  refine wpAny_Assign_Subscript (PyProof.Rows.List_ ?_) rfl
  show wpAny _ _ (spliced []) _ _ s
  refine wpAny_pure ?_
  refine wpAny_newList ?_
  refine load_var (s := { s with heap := s.heap.push (lstO #[] 0) }) hcg S1.rep hmg ?_
  refine load_var (s := { s with heap := s.heap.push (lstO #[] 0) }) hco S1.rep hmo ?_
  refine GI.store (s := { s with heap := s.heap.push (lstO #[] 0) }) hu x1 rk1 hno hlen hb0 bH (fun q => by obtain ⟨o, e⟩ := hbx _ q; rw [hfresh] at e; cases e) (fun q => by obtain ⟨o, e⟩ := hgx; rw [← q, hfresh] at e; cases e) fun h' tk hs x2 => ?_
  have zf' : ∀ y, (y = I ∨ y = g ∨ y ∈ bs ++ [s.heap.objs.size]) → ¬ frm env y ∧ ent.get? y = none ∧ (y ≠ I → ¬ Hot env H₀ own y) := by
    rintro y (q | q | q)
    · exact zf y (.inl q)
    · exact zf y (.inr (.inl q))
    · rcases List.mem_append.mp q with q | q
      · exact zf y (.inr (.inr q))
      · have q := List.mem_singleton.mp q
        refine ⟨fun f => S.hot.ex.fresh (q ▸ (.inr (f.imp id .inl) : Hot env (HZ H₀ I g bs) own y)), ?_, fun _ f => S.hot.ex.fresh (hotZ.mpr (.inl (q ▸ f)))⟩
        · cases e : ent.get? y with
          | none => rfl
          | some o => have := S.keep y o e; rw [q, hfresh] at this; cases this
  have S2 : StOk w base ent h' env (HZ H₀ I g (bs ++ [s.heap.objs.size])) own m σ := by
    refine S1.turnZ (fun y o hz e => (hs.2 y fun q => hz (.inr (.inl q))).trans e) (fun y o hz e => ?_) (fun y hz => (zf' y hz).1) fun y hz => (zf' y hz).2.1
    by_cases q : y = g
    · obtain ⟨es, n, e', _⟩ := x2.dict; exact ⟨_, q ▸ e'⟩
    · exact ⟨o, (hs.2 y q).trans e⟩
  refine ⟨rfl, h', tk, _, rfl, hfresh, S2, x2, zf', fun y o e hy => (hs.2 y hy).trans (hkp y o e), fun y o e => ?_⟩
  by_cases q : y = g
  · obtain ⟨es, n, e', _⟩ := x2.dict; exact ⟨_, q ▸ e'⟩
  · exact ⟨o, (hs.2 y q).trans (hkp y o e)⟩
end
end Mine
namespace Mine
open PySem PySem.SeqAt
section
variable {prog : Program} {w : World} {A : Around} {base : Heap} {mg mb : Str → Option Value} {cf : CF}
variable {s : Shared} {env : Env} {ent : Heap} {H₀ : Addr → Prop} {own : Own} {m : Str → Option Value} {σ : St} {I g : Addr} {bs : List Addr} {ks : List D} {lss : List (List D)} {E : Value → Shared → Prop}
theorem grp_app (hu : A.units + 1 < cLine) {c : List CK} {kv rv : Value} {r : D} {recv a : Expr} {ap cp pos : Pos} (hcr : chkE env.kindOf recv (.sub (.var "groups") (.var "own")) = true) (hca : chkE env.kindOf a (.var "row") = true) (hline : (ap.endLine == cp.line) = true)
    (S : StOk w base ent s.heap env (HZ H₀ I g bs) own m σ) (x : GI w.params s.heap (Hot env (HZ H₀ I g bs) own) g bs ks lss) (zf : ∀ b, (b = I ∨ b = g ∨ b ∈ bs) → ¬ frm env b ∧ ent.get? b = none ∧ (b ≠ I → ¬ Hot env H₀ own b))
    (hmg : m (Str.ofString "groups") = some (.ref g)) (hmo : m (Str.ofString "own") = some kv) (hmr : m (Str.ofString "row") = some rv) (rk : Rep w.params s.heap (Hot env (HZ H₀ I g bs) own) kv (ofTK c)) (rr : Rep w.params s.heap (Hot env (HZ H₀ I g bs) own) rv r)
    (hin : (ks.any fun x => keyEq x (ofTK c)) = true) (hlens : ∀ ls ∈ lss, ls.length < big) :
    wpAny (model prog w) A (exec (.Expr (.Call (.Attribute recv (Str.ofString "append") ap) [a] [] cp) pos) env) (fun f s' => f = .next ∧ ∃ h' tk, s' = { s with heap := h', toks := tk } ∧ StOk w base ent h' env (HZ H₀ I g bs) own m σ ∧
      GI w.params h' (Hot env (HZ H₀ I g bs) own) g bs ks (gapp ks lss (ofTK c) r) ∧ (∀ y o, s.heap.get? y = some o → y ∉ bs → h'.get? y = some o) ∧ (∀ y o, s.heap.get? y = some o → ∃ o', h'.get? y = some o')) E s := by
  obtain ⟨xs, hm, e1, e3⟩ := x.dictH (prog := prog)
  obtain ⟨ka, rfl, ia⟩ := rep_tk (prog := prog) rk
  have hsome : (atKey xs c).isSome = true := by rw [any_atKey xs, e1]; exact hin
  obtain ⟨a', b, vs, n, ls, q1, q2, q3, q4, q5, q6, q7⟩ := atKey_app e3 x.lists hsome x.bnd
  have bH := x.hot.2 b q2
  have hstar : starEach [a] env = [(false, eval a env)] := spliced_ok (es := [a]) (ms := [.var "row"]) (k := env.kindOf) (by simp [cs_nil, cs_cons, cs_consn, hca]) env
  replace hcr := inv_sub hcr; obtain ⟨gn, on, sp, rfl, hns, hcr⟩ := hcr
  rw [Bool.and_eq_true] at hcr
  have hT : ∀ tk, Shared.TypeIs { s with toks := tk } (.ref g) "dict" := fun tk => by obtain ⟨es, n, e, _⟩ := x.dict; exact ⟨_, e, rfl⟩
  refine wpAny_Expr (wpAny_Call_append rfl (by rw [hstar]; rfl) hline (by rw [hstar]; rfl) (PyProof.Rows.Subscript_ (load_var hcr.1 S.rep hmg (load_var hcr.2 S.rep hmo ?_)))) (by unfold interactive; rw [S.rep.kind]; rfl) rfl
  refine PyProof.Rows.tail_any (hT s.toks) slot_dict_getitem.lookup (wpAny_getItem_heap (knd := TKd prog w) hu ia hm q1 ?_) (subscripted_plain fun a b c d q => hns a b c d q)
  refine ⟨b, vs, rfl, ⟨_, n, q3, rfl, rfl, rfl⟩, ?_⟩
  refine load_var (s := { s with toks := _ }) hca S.rep hmr ?_
  have e0 : big ≤ sizeLine := by decide
  refine wpAny_list_append_plain (items := vs) ⟨n, q3⟩ (fun h₂ hl₂ hs₂ => ?_) (by omega)
  obtain ⟨n', hb'⟩ : ∃ n', h₂.get? b = some (lstO (vs.push rv) n') := hl₂
  have keepB : ∀ y o, y ≠ b → s.heap.get? y = some o → h₂.get? y = some o := fun y o hy e => (hs₂.2 y hy).trans e
  have keep : ∀ y o, ¬ Hot env (HZ H₀ I g bs) own y → s.heap.get? y = some o → h₂.get? y = some o := fun y o hy e => keepB y o (fun q => hy (q ▸ bH)) e
  have hl' := q7 h₂ rv r n' keepB bH (rr.mono keep fun _ _ _ q => q) hb' (hlens ls q4)
  rw [e1] at hl'
  have bg : g ≠ b := fun q => x.gb (q ▸ q2)
  have x2 : GI w.params h₂ (Hot env (HZ H₀ I g bs) own) g bs ks (gapp ks lss (ofTK c) r) := by
    obtain ⟨es, n0, d1, d2, d3, d4⟩ := x.dict
    exact ⟨⟨es, n0, keepB g _ bg d1, d2.mono keep fun _ _ _ q => q, d3, d4⟩, x.tk, x.nd, x.len, hl', x.bnd, x.hot, x.gb, x.sys⟩
  refine ⟨rfl, h₂, _, rfl, ?_, x2, fun y o e hy => keepB y o (fun q => hy (q ▸ q2)) e, fun y o e => ?_⟩
  · refine S.turnZ (fun y o hz e => keepB y o (fun q => hz (.inr (.inr (q ▸ q2)))) e) (fun y o _ e => ?_) (fun y hz => (zf y hz).1) fun y hz => (zf y hz).2.1
    by_cases q : y = b
    · exact ⟨_, q ▸ hb'⟩
    · exact ⟨o, keepB y o q e⟩
  · by_cases q : y = b
    · exact ⟨_, q ▸ hb'⟩
    · exact ⟨o, keepB y o q e⟩
end
end Mine
namespace Mine
open PySem PySem.SeqAt
section
variable {prog : Program} {w : World} {A : Around} {base : Heap} {mg mb : Str → Option Value} {cf : CF}
variable {s : Shared} {env : Env} {ent : Heap} {H₀ : Addr → Prop} {own : Own} {m : Str → Option Value} {σ : St} {I g : Addr} {bs : List Addr} {ks : List D} {lss : List (List D)} {E : Value → Shared → Prop}
theorem upd_ne {m : Str → Option Value} {x y : Str} {v : Value} (h : y ≠ x) : upd m x v y = m y := if_neg h
theorem upd_eq {m : Str → Option Value} {x : Str} {v : Value} : upd m x v x = some v := if_pos rfl
/-- what a turn of the loop leaves -/
structure GTurn (w : World) (base ent : Heap) (env : Env) (H₀ : Addr → Prop) (own : Own) (I g : Addr) (σ₀ : St) (h : Heap) (bs : List Addr) (ks : List D) (lss : List (List D)) (h' : Heap) : Prop where
  more : ∃ bs' m' σ', StOk w base ent h' env (HZ H₀ I g bs') own m' σ' ∧ (∀ x, x ≠ "row" → x ≠ "own" → σ'.lookup x = σ₀.lookup x) ∧ m' (Str.ofString "groups") = some (.ref g) ∧ GI w.params h' (Hot env (HZ H₀ I g bs') own) g bs' ks lss ∧
    (∀ y, (y = I ∨ y = g ∨ y ∈ bs') → ¬ frm env y ∧ ent.get? y = none ∧ (y ≠ I → ¬ Hot env H₀ own y)) ∧ (∀ y ∈ bs', y ∈ bs ∨ h.get? y = none)
  keep : ∀ y o, h.get? y = some o → ¬ frm env y → y ≠ g → y ∉ bs → h'.get? y = some o
  ex : ∀ y o, h.get? y = some o → ∃ o', h'.get? y = some o'
theorem any_new (ks : List D) (c : List CK) : ((gnewK ks (ofTK c)).any fun x => keyEq x (ofTK c)) = true := by
  unfold gnewK
  split
  · assumption
  · rw [List.any_append]; simp [keyEq_tk]
theorem grp_body (G : GOk mg mb base) (C : CSound prog w base mg cf A) (hh : A.handled = none) (hu : A.units + 1 < cLine) {r pl k : D} {fr : Bool} {s1 s2 s3 : Stmt} (c1 : grp1 env.kindOf s1 = true) (c2 : grp2 env.kindOf s2 = true) (c3 : grp3 env.kindOf s3 = true)
    (S : StOk w base ent s.heap env (HZ H₀ I g bs) own m σ) (x : GI w.params s.heap (Hot env (HZ H₀ I g bs) own) g bs ks lss) (zf : ∀ b, (b = I ∨ b = g ∨ b ∈ bs) → ¬ frm env b ∧ ent.get? b = none ∧ (b ≠ I → ¬ Hot env H₀ own b))
    (hmg : m (Str.ofString "groups") = some (.ref g)) (ho : own "own" = none) (hl : own.less ["row", "places"] = own) (h1 : σ.lookup "row" = some (false, r)) (h2 : σ.lookup "places" = some (false, pl)) (hcall : cf.call "cells_at" [r, pl] = some (k, fr))
    (hok : (k.isTK && decide (ks.length < big) && lss.all (fun l => decide (l.length < big))) = true) :
    wpAny (model prog w) A (execs [s1, s2, s3] env) (fun f s' => f = .next ∧ ∃ h' tk, s' = { s with heap := h', toks := tk } ∧ GTurn w base ent env H₀ own I g σ s.heap bs (gnewK ks k) (gapp (gnewK ks k) (gnewL ks lss k) k r) h') E s := by
  simp only [Bool.and_eq_true, decide_eq_true_eq, List.all_eq_true] at hok
  obtain ⟨⟨htk, hlen⟩, hlens⟩ := hok
  obtain ⟨c, rfl⟩ := tk_ck htk
  have zfr : ∀ b, (b = g ∨ b ∈ bs) → ¬ frm env b := fun b hb => (zf b (.inr hb)).1
  replace c1 := cAssign_inv c1; obtain ⟨ts1, v1, p1, rfl, c1⟩ := c1
  replace c1 := c1_inv c1; obtain ⟨t1, rfl, c1⟩ := c1
  replace c1 := cName_inv c1; obtain ⟨y1, yp1, rfl, c1⟩ := c1
  simp only [Bool.and_eq_true, beq_iff_eq] at c1
  obtain ⟨⟨rfl, hst⟩, hc1⟩ := c1
  refine wpAny_execs_cons (wpAny_mono (grp_own G C hh hu hst hc1 S x zfr ho hl h1 h2 hcall) (fun f s₁ q => ?_) fun _ _ e => e)
  obtain ⟨rfl, ha, tka, kv, rfl, Sa, xa, ka, ea⟩ := q
  have hmg1 : upd m (Str.ofString "own") kv (Str.ofString "groups") = some (.ref g) := (upd_ne (by decide)).trans hmg
  have hmo : upd m (Str.ofString "own") kv (Str.ofString "own") = some kv := upd_eq
  have rk : ∀ {h' bs'} {σ' : St}, StOk w base ent h' env (HZ H₀ I g bs') own (upd m (Str.ofString "own") kv) σ' → σ'.lookup "own" = some (false, ofTK c) → Rep w.params h' (Hot env (HZ H₀ I g bs') own) kv (ofTK c) := fun S' e => by
    obtain ⟨v, e1, e2⟩ := S'.plain "own" _ e
    rw [hmo] at e1; cases e1; exact e2
  have lo : (setv σ "own" (false, ofTK c)).lookup "own" = some (false, ofTK c) := by rw [lookup_setv]; rfl
  have lr : (setv σ "own" (false, ofTK c)).lookup "row" = some (false, r) := by rw [lookup_setv]; exact h1
  replace c2 := cIf_inv c2; obtain ⟨v2, b2, o2, p2, rfl, c2⟩ := c2
  simp only [Bool.and_eq_true, List.isEmpty_iff] at c2
  obtain ⟨⟨hct, rfl⟩, c2⟩ := c2
  replace c2 := c1_inv c2; obtain ⟨st2, rfl, c2⟩ := c2
  replace c2 := cAssign_inv c2; obtain ⟨ts2, w2, p2', rfl, c2⟩ := c2
  replace c2 := c1_inv c2; obtain ⟨t2, rfl, c2⟩ := c2
  replace c2 := cSub_inv c2; obtain ⟨gn, on, sp, rfl, c2⟩ := c2
  simp only [Bool.and_eq_true] at c2
  obtain ⟨⟨hcg, hco⟩, hcl⟩ := c2
  replace hcl := inv_lst hcl; obtain ⟨els, lp, rfl, hcl⟩ := hcl
  have : els = [] := by simpa [cs_nil, cs_cons, cs_consn] using hcl
  subst this
  replace hct := inv_cmp hct; obtain ⟨tl, tr, tp, rfl, hct⟩ := hct
  simp only [Bool.and_eq_true] at hct
  obtain ⟨⟨hns, hctl⟩, hctr⟩ := hct
  -- the rest, from any state
  have rest : ∀ (hb : Heap) (tkb : Nat) (bs' : List Addr), StOk w base ent hb env (HZ H₀ I g bs') own (upd m (Str.ofString "own") kv) (setv σ "own" (false, ofTK c)) → GI w.params hb (Hot env (HZ H₀ I g bs') own) g bs' (gnewK ks (ofTK c)) (gnewL ks lss (ofTK c)) →
      (∀ y, (y = I ∨ y = g ∨ y ∈ bs') → ¬ frm env y ∧ ent.get? y = none ∧ (y ≠ I → ¬ Hot env H₀ own y)) → (∀ y ∈ bs', y ∈ bs ∨ s.heap.get? y = none) → (∀ y o, ha.get? y = some o → y ≠ g → hb.get? y = some o) → (∀ y o, ha.get? y = some o → ∃ o', hb.get? y = some o') →
      wpAny (model prog w) A (execs [s3] env) (fun f s' => f = .next ∧ ∃ h' tk, s' = { s with heap := h', toks := tk } ∧ GTurn w base ent env H₀ own I g σ s.heap bs (gnewK ks (ofTK c)) (gapp (gnewK ks (ofTK c)) (gnewL ks lss (ofTK c)) (ofTK c) r) h') E { s with heap := hb, toks := tkb } := by
    intro hb tkb bs' Sb xb zb nb kb eb
    have rr : ∃ rv, upd m (Str.ofString "own") kv (Str.ofString "row") = some rv ∧ Rep w.params hb (Hot env (HZ H₀ I g bs') own) rv r := Sb.plain "row" r lr
    obtain ⟨rv, hmr, rr⟩ := rr
    have hl3 : ∀ ls ∈ gnewL ks lss (ofTK c), ls.length < big := by
      intro ls hls
      unfold gnewL at hls
      split at hls
      · exact hlens ls hls
      · rcases List.mem_append.mp hls with q | q
        · exact hlens ls q
        · rw [List.mem_singleton.mp q]; decide
    replace c3 := cExpr_inv c3; obtain ⟨v3, p3, rfl, c3⟩ := c3
    replace c3 := cCall_inv c3; obtain ⟨g3, as3, ks3, cp3, rfl, c3⟩ := c3
    rw [Bool.and_eq_true] at c3
    obtain ⟨e3, c3⟩ := c3
    replace c3 := c1_inv c3; obtain ⟨a3, rfl, c3⟩ := c3
    replace c3 := cAttr_inv c3; obtain ⟨rc3, at3, ap3, rfl, c3⟩ := c3
    simp only [Bool.and_eq_true, beq_iff_eq] at c3
    obtain ⟨⟨⟨rfl, hline⟩, hcr⟩, hca⟩ := c3
    rw [List.isEmpty_iff] at e3
    subst e3
    refine wpAny_execs_cons (wpAny_mono (grp_app (s := { s with heap := hb, toks := tkb }) hu hcr hca (by simpa using hline) Sb xb zb hmg1 hmo hmr (rk Sb lo) rr (any_new ks c) hl3) (fun f s₃ q => ?_) fun _ _ e => e)
    obtain ⟨rfl, hc, tkc, rfl, Sc, xc, kc, ec⟩ := q
    refine wpAny_execs_nil ⟨rfl, hc, tkc, rfl, ⟨bs', _, _, Sc, fun y h1 h2 => ?_, hmg1, xc, zb, nb⟩, fun y o e hf hg hbs => ?_, fun y o e => ?_⟩
    · rw [lookup_setv, if_neg h2]
    · refine kc y o (kb y o (ka y o e hf) hg) fun q => ?_
      rcases nb y q with q | q
      · exact hbs q
      · rw [e] at q; cases q
    · obtain ⟨o1, e1⟩ := ea y o e
      obtain ⟨o2, e2⟩ := eb y o1 e1
      exact ec y o2 e2
  refine wpAny_execs_cons (wpAny_If ?_)
  refine wpAny_isTrue_Compare1 (load_var (s := { s with heap := ha, toks := tka }) hctl Sa.rep hmo (load_var (s := { s with heap := ha, toks := tka }) hctr Sa.rep hmg1 (GI.notIn (s := { s with heap := ha, toks := tka }) hu xa (rk Sa lo) fun tk => ?_))) (notSet_marks hns)
  refine wpAny_truthy_bool ?_
  cases hany : (ks.any fun x => keyEq x (ofTK c)) with
  | true =>
    simp only [Bool.not_true, Bool.false_eq_true, if_false]
    refine wpAny_execs_nil ?_
    have e1 : gnewK ks (ofTK c) = ks := if_pos hany
    have e2 : gnewL ks lss (ofTK c) = lss := if_pos hany
    exact rest ha tk bs Sa (by rw [e1, e2]; exact xa) zf (fun y hy => .inl hy) (fun y o e _ => e) fun y o e => ⟨o, e⟩
  | false =>
    simp only [Bool.not_false, if_true]
    have e1 : gnewK ks (ofTK c) = ks ++ [ofTK c] := if_neg (by rw [hany]; exact Bool.false_ne_true)
    have e2 : gnewL ks lss (ofTK c) = lss ++ [[]] := if_neg (by rw [hany]; exact Bool.false_ne_true)
    refine wpAny_execs_cons (wpAny_mono (grp_new (s := { s with heap := ha, toks := tk }) hu hcg hco Sa xa zf hmg1 hmo (rk Sa lo) hany hlen) (fun f s₂ q => ?_) fun _ _ e => e)
    obtain ⟨rfl, hb, tkb, b, rfl, hfb, Sb, xb, zb, kb, eb⟩ := q
    refine wpAny_execs_nil ?_
    refine rest hb tkb (bs ++ [b]) Sb (by rw [e1, e2]; exact xb) zb (fun y hy => ?_) kb eb
    rcases List.mem_append.mp hy with hy | hy
    · exact .inl hy
    · right
      rw [List.mem_singleton.mp hy]
      cases e : s.heap.get? b with
      | none => rfl
      | some o => obtain ⟨o', e'⟩ := ea b o e; rw [hfb] at e'; cases e'
end
end Mine
namespace Mine
open PySem PySem.SeqAt
section
variable {prog : Program} {w : World} {A : Around} {base : Heap} {mg mb : Str → Option Value} {cf : CF}
theorem less_less {own : Own} {ns ns' : List String} (h : ∀ x ∈ ns', x ∈ ns) : (own.less ns).less ns' = own.less ns := by
  funext x
  unfold Own.less
  by_cases h1 : x ∈ ns'
  · rw [if_pos h1, if_pos (h x h1)]
  · rw [if_neg h1]
theorem StOk.less {ent h : Heap} {env : Env} {H₀ : Addr → Prop} {own : Own} {m : Str → Option Value} {σ σ' : St} (S : StOk w base ent h env H₀ own m σ) (hs : ∀ x v, σ'.lookup x = some v → σ.lookup x = some v) : StOk w base ent h env H₀ own m σ' :=
  ⟨S.rep, fun x d e => S.plain x d (hs x _ e), fun x d e => S.owned x d (hs x _ e), S.hot, S.keep, S.frE, S.own1, S.inj, S.ownx⟩
theorem ss_grp (G : GOk mg mb base) (C : CSound prog w base mg cf A) (hh : A.handled = none) (hu : A.units + 1 < cLine) : SS prog w A base cf .grp := by
  intro s env st H₀ ent own m σ r E hc S hev
  rw [chkS] at hc
  replace hc := cFor_inv hc; obtain ⟨tg, it, body, orl, pos, rfl, hc⟩ := hc
  rw [Bool.and_eq_true, List.isEmpty_iff] at hc
  obtain ⟨rfl, hc⟩ := hc
  replace hc := cName_inv hc; obtain ⟨y, yp, rfl, hc⟩ := hc
  simp only [Bool.and_eq_true, beq_iff_eq] at hc
  obtain ⟨⟨⟨⟨rfl, hst⟩, hset⟩, hcs⟩, hcb⟩ := hc
  replace hcb := c3_inv hcb; obtain ⟨s1, s2, s3, rfl, hcb⟩ := hcb
  simp only [Bool.and_eq_true] at hcb
  obtain ⟨⟨b1, b2⟩, b3⟩ := hcb
  simp only [xs_assign, xs_append, xs_setk, xs_ite, xs_for_, xs_ret, xs_bad, xs_grp] at hev
  split at hev
  · rename_i σF hF
    cases hev
    unfold grpS at hF
    split at hF
    · rename_i fr1 rs hrs
      split at hF
      · rename_i fr2 pl hpl
        split at hF
        · rename_i hcond
          simp only [Bool.and_eq_true, Option.isNone_iff_eq_none] at hcond
          obtain ⟨⟨hnew, hrow⟩, hown⟩ := hcond
          rw [Option.map_eq_some_iff] at hF
          obtain ⟨⟨ksF, lssF⟩, hD, rfl⟩ := hF
          have hgr : σ.lookup "groups" = some (true, .dict [] []) := by
            unfold isNew at hnew
            split at hnew
            · assumption
            · cases hnew
          have S0 := S.freeze grpNs
          have lg : (freeze grpNs σ).lookup "groups" = some (true, .dict [] []) := by rw [lookup_freeze, hgr]; rfl
          obtain ⟨g, og, hmg, hGM⟩ := S0.owned "groups" _ lg
          have S1 := S0.hide og
          generalize hs0 : del (freeze grpNs σ) "groups" = σ₀ at *
          have l0 : ∀ x, x ≠ "groups" → σ₀.lookup x = (freeze grpNs σ).lookup x := fun x hx => by rw [← hs0, lookup_del, if_neg hx]
          have lrs : σ₀.lookup "rows" = some (false, .list rs) := by rw [l0 _ (by decide), lookup_freeze, hrs]; simp [grpNs]
          have lpl : σ₀.lookup "places" = some (false, pl) := by rw [l0 _ (by decide), lookup_freeze, hpl]; simp [grpNs]
          have lrow : σ₀.lookup "row" = none := by rw [l0 _ (by decide), lookup_freeze, hrow]; rfl
          have lown : σ₀.lookup "own" = none := by rw [l0 _ (by decide), lookup_freeze, hown]; rfl
          have lgr : σ₀.lookup "groups" = none := by rw [← hs0, lookup_del, if_pos rfl]
          have sub0 : ∀ x a, ((own.less grpNs).less ["groups"]) x = some a → own x = some a := fun x a e => by
            unfold Own.less at e
            split at e
            · cases e
            · split at e
              · cases e
              · exact e
          have og' : own "groups" = some g := by
            unfold Own.less at og
            split at og
            · cases og
            · exact og
          have o1 : ∀ ns : List String, (∀ x ∈ ns, x ∈ grpNs) → ((own.less grpNs).less ["groups"]).less ns = (own.less grpNs).less ["groups"] := fun ns h => by
            funext x
            unfold Own.less
            by_cases h1 : x ∈ ns
            · rw [if_pos h1, if_pos (h x h1)]; simp
            · rw [if_neg h1]
          have oN : ∀ x ∈ grpNs, ((own.less grpNs).less ["groups"]) x = none := fun x h => by
            unfold Own.less
            rw [if_pos h]; simp
          have oG : ((own.less grpNs).less ["groups"]) "groups" = none := by unfold Own.less; simp
          generalize hown1 : (own.less grpNs).less ["groups"] = own1 at *
          have gnew : ent.get? g = none ∧ ¬ H₀ g ∧ g ≠ env.locals ∧ ∀ y, env.cells.lookup y ≠ some g := S.own1 "groups" g og'
          have gno : ∀ x, own1 x ≠ some g := fun x e => by
            have := S.inj x "groups" g (sub0 x g e) og'
            subst this
            rw [oG] at e; cases e
          have gHot : ¬ Hot env H₀ own1 g := by
            rintro (q | q | ⟨y, q⟩ | ⟨y, q⟩)
            · exact gnew.2.1 q
            · exact gnew.2.2.1 q
            · exact gnew.2.2.2 y q
            · exact gno y q
          have nv := S1.nv (ME.var "rows").names
          have hot := (S1.freeze (ME.var "rows").names).hot
          have en : (ME.var "rows").names = ["rows"] := rfl
          rw [en, o1 ["rows"] (by decide)] at nv hot
          have hd : evE cf (vis σ₀) (.var "rows") = some (.list rs) := by simp only [ev_var, ev_glob, ev_int, ev_str, ev_bool, ev_none, ev_bin, ev_cmp, ev_bop, ev_not, ev_neg, ev_tup, ev_lst, ev_dct, ev_sub, ev_sl, ev_comp, ev_call, ev_isi, ev_blt, ev_lcp]; rw [lookup_vis, lrs]; rfl
          refine wpAny_For (wpAny_mono ((all_E G C hh hu (.var "rows")).1 s env it _ (vis σ₀) m (.list rs) E hcs S1.rep hot nv hd) (fun xv s₁ q₁ => ?_) fun _ _ e => e) (notSet_folded hset)
          obtain ⟨k01, rep1⟩ := q₁
          refine wpAny_mono (iter_snd (its := rs) rep1 hh rfl) (fun itv s₂ q₂ => ?_) fun _ _ e => e
          obtain ⟨I, rfl, IA⟩ := q₂
          obtain ⟨fp, P, Stt, W, hst0, hfp, hP, hlive⟩ := IA.walk
          obtain ⟨h2, tk2, rfl, k12⟩ := IA.keeps
          obtain ⟨h1, tk1, rfl, k01⟩ := k01
          dsimp only at k12 k01 rep1 hfp hP hst0
          have hIf : h1.get? I = none := IA.fresh
          have hIx : ∃ o, h2.get? I = some o := IA.ex
          have Sk := S1.keeps k01
          have S2 := Sk.addH (I := I) k12 hIf hIx
          have eZ : (fun b => (fun b => H₀ b ∨ b = g) b ∨ b = I) = HZ H₀ I g [] := by
            funext b; apply propext; simp only [HZ, List.not_mem_nil, or_false]
            constructor
            · rintro ((q | q) | q)
              · exact .inl q
              · exact .inr (.inr q)
              · exact .inr (.inl q)
            · rintro (q | q | q)
              · exact .inl (.inl q)
              · exact .inr q
              · exact .inl (.inr q)
          have S2 : StOk w base ent h2 env (HZ H₀ I g []) own1 m σ₀ := eZ ▸ S2
          have e02 : ∀ b o, s.heap.get? b = some o → h2.get? b = some o := fun b o e => k12 b o (k01 b o e)
          have nI : ∀ b o, h1.get? b = some o → b ≠ I := fun b o e q => by rw [q, hIf] at e; cases e
          obtain ⟨es0, n0, d1, _, d3, d4, d5, _, _, d8⟩ := hGM
          have hgx : s.heap.get? g = some (dicO es0 n0) := d1
          have gI : g ≠ I := nI g _ (k01 g _ hgx)
          have es0n : es0.toList = [] := by cases d3' : es0.toList with
            | nil => rfl
            | cons a b => rw [d3'] at d3; cases d3
          have x0 : GI w.params h2 (Hot env (HZ H₀ I g []) own1) g [] [] [] :=
            ⟨⟨es0, n0, e02 g _ hgx, by rw [es0n]; exact .nil, by rw [es0n]; rfl, by rw [es0n]; rfl⟩, rfl, List.Pairwise.nil, Nat.zero_le _, .nil, List.Pairwise.nil, ⟨.inl (.inr (.inr (.inl rfl))), (fun b h => nomatch h)⟩, (fun h => nomatch h), d8⟩
          have nIf : ¬ frm env I := fun q => by obtain ⟨o, e⟩ := frame_ex Sk.rep q; exact nI I o e rfl
          have nIe : ent.get? I = none := by
            cases q : ent.get? I with
            | none => rfl
            | some o => exact absurd rfl (nI I o (k01 I o (S.keep I o q)))
          have gfr : ¬ frm env g := fun q => gHot (.inr (q.imp id .inl))
          have zf0 : ∀ b, (b = I ∨ b = g ∨ b ∈ ([] : List Addr)) → ¬ frm env b ∧ ent.get? b = none ∧ (b ≠ I → ¬ Hot env H₀ own1 b) := by
            rintro b (rfl | rfl | h)
            · exact ⟨nIf, nIe, fun h => absurd rfl h⟩
            · exact ⟨gfr, gnew.1, fun _ => gHot⟩
            · cases h
          have hLx : ∀ {h : Heap} {H : Addr → Prop} (l : List Addr) (ls : List (List D)), LAll w.params h H l ls → ∀ y ∈ l, ∃ o, h.get? y = some o := by
            intro h H l ls q
            induction q with
            | nil => intro y hy; cases hy
            | cons e _ _ _ ih =>
              intro y hy
              rcases List.mem_cons.mp hy with rfl | hy
              · exact ⟨_, e⟩
              · exact ih y hy
          have IH : ∀ bs, Hot env (HZ H₀ I g bs) own1 I := fun bs => .inl (.inr (.inl rfl))
          refine codeAny_forLoop (fun n s' => ∃ h tk done rest bs ks lss m' σ', s' = { s with heap := h, toks := tk } ∧ rs = done ++ rest ∧ Stt done.length h ∧ StOk w base ent h env (HZ H₀ I g bs) own1 m' σ' ∧ (∀ x, x ≠ "row" → x ≠ "own" → σ'.lookup x = σ₀.lookup x) ∧ m' (Str.ofString "groups") = some (.ref g) ∧
            GI w.params h (Hot env (HZ H₀ I g bs) own1) g bs ks lss ∧ (∀ b, (b = I ∨ b = g ∨ b ∈ bs) → ¬ frm env b ∧ ent.get? b = none ∧ (b ≠ I → ¬ Hot env H₀ own1 b)) ∧ (∀ y ∈ bs, h2.get? y = none) ∧
            (∀ y o, h2.get? y = some o → ¬ frm env y → y ≠ I → y ≠ g → h.get? y = some o) ∧ (∀ y o, h2.get? y = some o → y ≠ I → ∃ o', h.get? y = some o') ∧ grpD cf pl rest ks lss = some (ksF, lssF) ∧ n = rest.length + 1) ?_ (rs.length + 1)
            ⟨h2, tk2, [], rs, [], [], [], m, σ₀, rfl, rfl, hst0, S2, fun _ _ _ => rfl, hmg, x0, zf0, (fun _ h => nomatch h), fun _ _ e _ _ _ => e, fun y o e _ => ⟨o, e⟩, hD, rfl⟩
          rintro n s' ⟨h, tk, done, rest, bs, ks, lss, m', σ', rfl, hdr, hstt, S', hσ, hmg', x, zf, hnb, keepF, exF, hg, rfl⟩
          have bI : ∀ y ∈ bs, y ≠ I := fun y hy q => by obtain ⟨o, e⟩ := hIx; have := hnb y hy; rw [q, e] at this; cases this
          cases rest with
          | nil =>
            simp only [List.append_nil] at hdr
            subst hdr
            refine W.done _ _ _ hstt fun h' tk' hk' => ?_
            simp only [grpD] at hg; cases hg
            have hk'' : ∀ b o, b ≠ I → h.get? b = some o → h'.get? b = some o := fun b o hb e => hk' b o (by simpa using hb) e
            have hE0 : Ex h' H₀ := fun c hc => by
              obtain ⟨b', o, hb, ho⟩ := S.hot.ex c (.inl hc)
              obtain ⟨o', ho'⟩ := exF b' o (e02 b' o ho) (nI b' o (k01 b' o ho))
              exact ⟨b', o', hb, hk'' b' o' (nI b' o (k01 b' o ho)) ho'⟩
            obtain ⟨es, ne, g1, g2, g3, g4⟩ := x.dict
            have gh : h'.get? g = some (dicO es ne) := hk'' g _ gI g1
            have eZ2 : HZ H₀ I g bs = fun b => (fun b => H₀ b ∨ (b = g ∨ b ∈ bs)) b ∨ b = I := by
              funext b; apply propext; simp only [HZ]
              constructor
              · rintro (q | q | q)
                · exact .inl (.inl q)
                · exact .inr q
                · exact .inl (.inr q)
              · rintro ((q | q) | q)
                · exact .inl q
                · exact .inr (.inr q)
                · exact .inr (.inl q)
            have S3 : StOk w base ent h' env H₀ own1 m' σ' := by
              rw [eZ2] at S'
              refine (S'.leave hk'' (fun c hc => ?_) nIf nIe).leaveZ hE0
              rcases hc with hc | hc | hc
              · exact hE0 c hc
              · exact ⟨g, _, Nat.le_of_eq hc, gh⟩
              · obtain ⟨o, e⟩ := hLx bs _ x.lists c hc
                exact ⟨c, o, Nat.le_refl _, hk'' c o (bI c hc) e⟩
            have mv : ∀ b o, ¬ Hot env (HZ H₀ I g bs) own1 b → h.get? b = some o → h'.get? b = some o := fun b o hb e => hk'' b o (fun q => hb (q ▸ IH bs)) e
            have up : ∀ b o, h.get? b = some o → Hot env H₀ own1 b → Hot env (HZ H₀ I g bs) own1 b := fun b o _ q => hotZ.mpr (.inl q)
            have rep : Rep w.params h' (Hot env H₀ own1) (.ref g) (.dict ksF (lssF.map .list)) := by
              refine .dict gh ((zf g (.inr (.inl rfl))).2.2 gI) x.len (g2.mono mv up) ?_ g4 ?_ x.nd x.sys
              · rw [g3]
                exact (x.lists.mono mv up fun b hb o e => hk'' b o (bI b hb) e).reps fun b hb => (zf b (.inr (.inr hb))).2.2 (bI b hb)
              · exact List.all_eq_true.mpr fun d hd => by have := List.all_eq_true.mp x.tk d hd; cases d <;> first | exact this | cases this
            have S4 : StOk w base ent h' env H₀ own1 m' (setv σ₀ "groups" (false, .dict ksF (lssF.map .list))) := (S3.less fun y v e => by
              by_cases h1 : y = "row"
              · rw [h1, lrow] at e; cases e
              · by_cases h2 : y = "own"
                · rw [h2, lown] at e; cases e
                · rw [hσ y h1 h2]; exact e).tell hmg' oG rep
            refine wpAny_execs_nil ⟨h', tk', rfl, fun b o e hf ho => ?_, fun b o e => ?_, rfl, own1, m', S4, fun z a e => .inl (sub0 z a e)⟩
            · exact hk'' b o (nI b o (k01 b o e)) (keepF b o (e02 b o e) hf (nI b o (k01 b o e)) fun q => ho "groups" (q ▸ og'))
            · obtain ⟨o', ho'⟩ := exF b o (e02 b o e) (nI b o (k01 b o e))
              exact ⟨o', hk'' b o' (nI b o (k01 b o e)) ho'⟩
          | cons dv rest' =>
            have hlt : done.length < rs.length := by rw [hdr]; simp
            refine W.item done.length _ _ _ hlt hstt fun v h₁ tk₁ hPv hst₁ hk₁ => ?_
            obtain ⟨dv', e1, rv⟩ := hP _ v hlt hPv
            have : dv' = dv := by
              rw [hdr] at e1
              simpa using e1.symm
            subst this
            have hk₁' : ∀ b o, b ≠ I → h.get? b = some o → h₁.get? b = some o := fun b o hb e => hk₁ b o (by simpa using hb) e
            have SI : StOk w base ent h₁ env (HZ H₀ I g bs) own1 m' σ' := by
              refine S'.turnZ (fun b o hz e => hk₁' b o (fun q => hz (.inl q)) e) (fun b o hz e => ?_) (fun b hz => (zf b hz).1) fun b hz => (zf b hz).2.1
              by_cases q : b = I
              · exact q ▸ hlive _ _ hst₁
              · exact ⟨o, hk₁' b o q e⟩
            have xI : GI w.params h₁ (Hot env (HZ H₀ I g bs) own1) g bs ks lss := x.mono (fun b o hb e => hk₁' b o (fun q => hb (q ▸ IH bs)) e) (fun b o hb e => hk₁' b o (hb.elim (fun q => q ▸ gI) (bI b)) e) (fun _ _ _ q => q) fun _ q => q
            have rv' : Rep w.params h₁ (Hot env (HZ H₀ I g bs) own1) v dv' := by
              refine rv.mono (fun b o hb e => hk₁' b o (nI b o e) (keepF b o (k12 b o e) (fun f => hb (.inr (f.imp id .inl))) (nI b o e) fun q => hb (.inl (.inr q)))) fun b o e q => ?_
              rcases q with (q | q | q | q) | q
              · exact .inl (.inl q)
              · exact absurd q (nI b o e)
              · exact .inl (.inr q)
              · have := hnb b q; rw [k12 b o e] at this; cases this
              · exact .inr q
            refine wpAny_assign_Name (store_plain (s := { s with heap := h₁, toks := tk₁ }) SI hst (oN "row" (by decide)) (fun _ _ e => e) rv' fun h₂ tk₂ a ha hs S₂ => ?_)
            have aI : a ≠ I := fun q => nIf (q ▸ ha)
            have zfr : ∀ b, (b = g ∨ b ∈ bs) → b ≠ a := fun b hb q => (zf b (.inr hb)).1 (q ▸ ha)
            have x₂ : GI w.params h₂ (Hot env (HZ H₀ I g bs) own1) g bs ks lss := xI.mono (fun b o hb e => (hs.2 b fun q => hb (.inr (q ▸ ha.imp id .inl))).trans e) (fun b o hb e => (hs.2 b (zfr b hb)).trans e) (fun _ _ _ q => q) fun _ q => q
            have hst₂ : Stt (done.length + 1) h₂ := W.frame _ _ _ hst₁ fun b hb o' e => by
              refine (hs.2 b fun q => ?_).trans e
              rcases hfp b hb with e2 | ⟨hn2, o2', e2⟩
              · exact aI (q ▸ e2)
              · exact hn2 (.inr ((q ▸ ha : frm env b).imp id .inl))
            simp only [grpD] at hg
            split at hg
            · rename_i k fr hcall
              split at hg
              · rename_i hok
                have l1 : (setv σ' "row" (false, dv')).lookup "row" = some (false, dv') := by rw [lookup_setv]; rfl
                have l2 : (setv σ' "row" (false, dv')).lookup "places" = some (false, pl) := by rw [lookup_setv, if_neg (by decide), hσ _ (by decide) (by decide)]; exact lpl
                refine wpAny_mono (grp_body (s := { s with heap := h₂, toks := tk₂ }) G C hh hu b1 b2 b3 S₂ x₂ zf ((upd_ne (by decide)).trans hmg') (oN "own" (by decide)) (o1 ["row", "places"] (by decide)) l1 l2 hcall hok) (fun f s₃ q => ?_) fun _ _ e => e
                obtain ⟨rfl, h₃, tk₃, rfl, T⟩ := q
                obtain ⟨bs', m₃, σ₃, S₃, hσ₃, hmg₃, x₃, zf₃, nb₃⟩ := T.more
                have nbn : ∀ y ∈ bs', h2.get? y = none := fun y hy => by
                  rcases nb₃ y hy with q | q
                  · exact hnb y q
                  · cases e : h2.get? y with
                    | none => rfl
                    | some o =>
                      exfalso
                      by_cases hyI : y = I
                      · obtain ⟨o', e'⟩ := hlive _ _ hst₂
                        have q : h₂.get? y = none := q
                        rw [hyI, e'] at q; cases q
                      · obtain ⟨o1', e1'⟩ := exF y o e hyI
                        have e2' := hk₁' y o1' hyI e1'
                        have q : h₂.get? y = none := q
                        by_cases hya : y = a
                        · obtain ⟨o3, e3⟩ := frame_ex S₂.rep ha; rw [hya, e3] at q; cases q
                        · rw [(hs.2 y hya).trans e2'] at q; cases q
                have keep3 : ∀ y o, h2.get? y = some o → ¬ frm env y → y ≠ I → y ≠ g → h₃.get? y = some o := fun y o e hf hI hg' => by
                  have hyb : y ∉ bs := fun q => by have := hnb y q; rw [e] at this; cases this
                  exact T.keep y o ((hs.2 y fun q => hf (q ▸ ha)).trans (hk₁' y o hI (keepF y o e hf hI hg'))) hf hg' hyb
                have ex3 : ∀ y o, h2.get? y = some o → y ≠ I → ∃ o', h₃.get? y = some o' := fun y o e hI => by
                  obtain ⟨o1', e1'⟩ := exF y o e hI
                  have e2' := hk₁' y o1' hI e1'
                  have : ∃ o2, h₂.get? y = some o2 := by
                    by_cases hya : y = a
                    · exact hya ▸ frame_ex S₂.rep ha
                    · exact ⟨_, (hs.2 y hya).trans e2'⟩
                  obtain ⟨o2, e2⟩ := this
                  exact T.ex y o2 e2
                have hst₃ : Stt (done.length + 1) h₃ := W.frame _ _ _ hst₂ fun b hb o' e => by
                  rcases hfp b hb with e2 | ⟨hn2, o2', e2⟩
                  · subst e2
                    exact T.keep b o' e nIf (Ne.symm gI) fun q => bI b q rfl
                  · refine T.keep b o' e (fun q => hn2 (.inr (q.imp id .inl))) (fun q => hn2 (.inl (.inr q))) fun q => ?_
                    have := hnb b q; rw [k12 b o2' e2] at this; cases this
                refine ⟨rest'.length + 1, by simp, h₃, tk₃, done ++ [dv'], rest', bs', _, _, m₃, σ₃, rfl, by rw [hdr]; simp, by simpa using hst₃, S₃, fun y q1 q2 => ?_, hmg₃, x₃, zf₃, nbn, keep3, ex3, hg, rfl⟩
                rw [hσ₃ y q1 q2, lookup_setv, if_neg q1]
                exact hσ y q1 q2
              · cases hg
            · cases hg
        · cases hF
      · cases hF
    · cases hF
  · cases hev
end
end Mine
namespace Mine
open PySem PySem.SeqAt
section
variable {prog : Program} {w : World} {A : Around} {base : Heap} {mg mb : Str → Option Value} {cf : CF}
mutual
theorem all_S (G : GOk mg mb base) (C : CSound prog w base mg cf A) (hh : A.handled = none) (hu : A.units + 1 < cLine) (ms : MS) : SS prog w A base cf ms := by
  match ms with
  | .assign x e => exact ss_assign G C hh hu x e
  | .append x e => exact ss_append G C hh hu x e
  | .setk x k e => exact ss_setk G C hh hu x k e
  | .grp => exact ss_grp G C hh hu
  | .bad => exact fun s env st H₀ ent own m σ r E hc S hev => by simp only [xs_assign, xs_append, xs_setk, xs_ite, xs_for_, xs_ret, xs_bad, xs_grp] at hev; cases hev
  | .ite c t f => exact ss_ite G C hh hu (all_Ss G C hh hu t) (all_Ss G C hh hu f)
  | .for_ x src body => exact ss_for G C hh hu (all_Ss G C hh hu body)
  | .ret e => exact ss_ret G C hh hu e
termination_by structural ms
theorem all_Ss (G : GOk mg mb base) (C : CSound prog w base mg cf A) (hh : A.handled = none) (hu : A.units + 1 < cLine) (ms : List MS) : SSs prog w A base cf ms := by
  match ms with
  | [] => exact sss_nil
  | a :: r => exact sss_cons (all_S G C hh hu a) (all_Ss G C hh hu r)
termination_by structural ms
end
end
end Mine
namespace Mine
open PySem

theorem lookup_zip_mem {α : Type} : ∀ (ns : List Str) (vs : List α), ns.length = vs.length → ∀ x ∈ ns, ((ns.zip vs).lookup x).isSome = true
  | [], _, _, x, h => nomatch h
  | n :: ns, [], h, _, _ => by simp at h
  | n :: ns, v :: vs, h, x, hx => by
    rw [List.zip_cons_cons, lookup_cons']
    split
    · rfl
    · rename_i hne
      rcases List.mem_cons.mp hx with e | e
      · exact absurd e hne
      · exact lookup_zip_mem ns vs (by simpa using h) x e
theorem filterMap_zip {α : Type} : ∀ (ns : List Str) (vs : List α), ns.Nodup → ns.length = vs.length → ns.filterMap (fun n => ((ns.zip vs).lookup n).map (n, ·)) = ns.zip vs
  | [], [], _, _ => rfl
  | [], _ :: _, _, h => by simp at h
  | _ :: _, [], _, h => by simp at h
  | n :: ns, v :: vs, hn, h => by
    rw [List.zip_cons_cons, List.filterMap_cons, lookup_cons', if_pos rfl]
    simp only [Option.map_some]
    congr 1
    rw [List.nodup_cons] at hn
    have ih := filterMap_zip ns vs hn.2 (by simpa using h)
    have cg : ∀ (l : List Str), (∀ x ∈ l, x ∈ ns) → l.filterMap (fun m => (((n, v) :: ns.zip vs).lookup m).map (m, ·)) = l.filterMap (fun m => ((ns.zip vs).lookup m).map (m, ·)) := by
      intro l
      induction l with
      | nil => intro _; rfl
      | cons x l il =>
        intro hl
        rw [List.filterMap_cons, List.filterMap_cons, lookup_cons', if_neg (show x ≠ n from fun e => hn.1 (e ▸ hl x (.head _))), il fun y hy => hl y (.tail _ hy)]
    rw [cg ns fun _ h => h]; exact ih

theorem bindArgs_plain {fd : FuncData} {vals : List Value} (h1 : fd.params.posonlyargs = []) (h2 : fd.params.kwonlyargs = []) (h3 : fd.params.vararg = none) (h4 : fd.params.kwarg = none) (h5 : fd.defaults = .none)
    (hnd : (fd.params.args.map (·.arg)).Nodup) (hl : (fd.params.args.map (·.arg)).length = vals.length) : bindArgs fd ⟨vals, []⟩ = pure ((fd.params.args.map (·.arg)).zip vals) := by
  unfold bindArgs
  simp only [h1, h2, h3, h4, h5, List.map_nil, List.nil_append, List.append_nil]
  have hm : List.filter (fun n => (List.lookup n (((fd.params.args.map (·.arg)).zip vals))).isNone) (fd.params.args.map (·.arg)) = [] := by
    rw [List.filter_eq_nil_iff]
    intro x hx
    have := lookup_zip_mem _ vals hl x hx
    simp only [Option.isNone_iff_eq_none]
    intro e
    rw [e] at this
    cases this
  have hs : seqItems? Value.none = (pure none : Sem (Option (Array Value))) := rfl
  simp only [List.forIn_nil, pure_bind, hs, Option.getD_none, List.drop_nil, List.length_nil, Nat.sub_zero, List.take_length]
  have hg : decide (vals.length > (List.map (fun x => x.arg) fd.params.args).length) = false := by simp; rw [← hl]; simp
  rw [hm, hg]
  simp only [Bool.false_and, Bool.false_eq_true, if_false, List.isEmpty_nil, Bool.not_true, List.zip_nil_right, List.forIn_nil, pure_bind]
  rw [filterMap_zip _ _ hnd hl]
end Mine
namespace Mine
open PySem PySem.SeqAt

/-- a def of the text, and its mini form -/
structure FnOk (base : Heap) (mg : Str → Option Value) (f : String) (fn : Fn) : Prop where
  ok : ∃ a o fd body, mg (Str.ofString f) = some (.ref a) ∧ base.get? a = some o ∧ o.data = .func fd ∧ fd.body = .stmts body ∧ fd.closure = [] ∧ fd.globals = mainGlobals ∧ fd.builtins = builtinsNs ∧ base.CodeRec fd.code fd.qualname ∧
    fd.params.posonlyargs = [] ∧ fd.params.kwonlyargs = [] ∧ fd.params.vararg = none ∧ fd.params.kwarg = none ∧ fd.defaults = .none ∧ fd.params.args.map (·.arg) = fn.params.map Str.ofString ∧ fn.params.Nodup ∧
    fd.scope.kind = .function ∧ fd.scope.isCoroutine = false ∧ fd.scope.isGenerator = false ∧ (fd.scope.names.map (·.1)).Nodup ∧ (∀ p ∈ fd.scope.names, p.2 ≠ .free) ∧
    (∀ x ∈ fn.params, fd.scope.names.lookup (Str.ofString x) = some .local ∨ fd.scope.names.lookup (Str.ofString x) = some .cell) ∧ chkSs (fun x => fd.scope.names.lookup x) body fn.body = true

theorem bindL_eq {k : KD} : ∀ (binds : List (Str × Value)) (m : Str → Option Value) (x : Str), (binds.map (·.1)).Nodup → k x = some .local → bindL k binds m x = (binds.lookup x).or (m x)
  | [], m, x, _, _ => by simp [bindL]
  | (n, v) :: r, m, x, hn, hk => by
    unfold bindL
    simp only [List.map_cons, List.nodup_cons] at hn
    rw [bindL_eq r _ x hn.2 hk, lookup_cons']
    by_cases h : x = n
    · subst h
      have : r.lookup x = none := by
        cases q : r.lookup x with
        | none => rfl
        | some c => exact absurd (List.mem_map_of_mem (f := (·.1)) (mem_of_lookup q)) hn.1
      rw [this, if_pos rfl, if_pos hk]
      simp
    · rw [if_neg h]
      split
      · simp [h]
      · rfl
theorem bindC_eq {k : KD} : ∀ (binds : List (Str × Value)) (m : Str → Option Value) (x : Str), (binds.map (·.1)).Nodup → k x ≠ some .local → bindC k binds m x = (binds.lookup x).or (m x)
  | [], m, x, _, _ => by simp [bindC]
  | (n, v) :: r, m, x, hn, hk => by
    unfold bindC
    simp only [List.map_cons, List.nodup_cons] at hn
    rw [bindC_eq r _ x hn.2 hk, lookup_cons']
    by_cases h : x = n
    · subst h
      have : r.lookup x = none := by
        cases q : r.lookup x with
        | none => rfl
        | some c => exact absurd (List.mem_map_of_mem (f := (·.1)) (mem_of_lookup q)) hn.1
      rw [this, if_pos rfl, if_neg hk]
      simp
    · rw [if_neg h]
      split
      · rfl
      · simp [h]

theorem lookup_zip_map {h : Heap} {P : Params} {H : Addr → Prop} : ∀ (ns : List String) (vs : List Value) (ds : List D) (x : String) (d : D), RepAll P h H vs ds → (ns.zip ds).lookup x = some d → ∃ v, ((ns.map Str.ofString).zip vs).lookup (Str.ofString x) = some v ∧ Rep P h H v d
  | [], _, _, x, d, _, e => by simp at e
  | n :: ns, _, _, x, d, .nil, e => by simp at e
  | n :: ns, _, _, x, d, .cons hv hr, e => by
    rw [List.zip_cons_cons, List.lookup_cons] at e
    rw [List.map_cons, List.zip_cons_cons, lookup_cons']
    by_cases h : x = n
    · subst h
      simp only [beq_self_eq_true] at e
      cases e
      exact ⟨_, if_pos rfl, hv⟩
    · have hb : (x == n) = false := by simpa using h
      rw [hb] at e
      rw [if_neg (fun q => h (ofString_inj q))]
      exact lookup_zip_map ns _ _ x d hr e

theorem lookup_start (x : String) : ∀ (ns : List String) (ds : List D), ((ns.zip ds).map fun p => (p.1, (false, p.2))).lookup x = ((ns.zip ds).lookup x).map fun d => (false, d)
  | [], _ => rfl
  | _ :: _, [] => rfl
  | n :: ns, d :: ds => by
    have ih := lookup_start x ns ds
    rw [List.zip_cons_cons, List.map_cons, List.lookup_cons, List.lookup_cons]
    by_cases h : x = n
    · subst h; simp
    · have hb : (x == n) = false := by simpa using h
      simp only [hb]
      exact ih

section
variable {prog : Program} {w : World} {base : Heap} {mg mb : Str → Option Value} {P : List (String × Fn)} {X : CF}

theorem call_fn (G : GOk mg mb base) {A : Around} {cf : CF} (hh : A.handled = none) (hd : A.depth < recursionLimit) (hu : A.units + 4 < cLine) (C : ∀ env, CSound prog w base mg cf (A.deeper env)) {f : String} {fn : Fn} (F : FnOk base mg f fn) {ds : List D} (hl : ds.length = fn.params.length)
    {r : Fl × St} (hev : exSs cf fn.body ((fn.params.zip ds).map fun p => (p.1, (false, p.2))) = some r) {d : D} {fr : Bool} (hr : (∃ σ, r = (.ret fr d, σ)) ∨ (∃ σ, r = (.next, σ) ∧ d = .none ∧ fr = false)) :
    ∃ a o fd, mg (Str.ofString f) = some (.ref a) ∧ base.get? a = some o ∧ o.data = .func fd ∧
    ∀ (s : Shared) (H : Addr → Prop) (vs : List Value) (E : Value → Shared → Prop), HOk base s.heap H → RepAll w.params s.heap H vs ds → wpAny (model prog w) A (PySem.call (.ref a) vs) (PostF w s H d fr) E s := by
  obtain ⟨a, o, fd, body, f1, f2, f3, f4, f5, f6, f7, f8, f9, f10, f11, f12, f13, f14, f15, f16, f17, f18, f19, f20, f21, f22⟩ := F.ok
  refine ⟨a, o, fd, f1, f2, f3, fun s H vs E hw hvs => ?_⟩
  have hnames : (fd.params.args.map (·.arg)).Nodup := by
    rw [f14]
    exact List.pairwise_map.mpr (f15.imp fun hne e => hne (ofString_inj e))
  have hlen : (fd.params.args.map (·.arg)).length = vs.length := by rw [f14, List.length_map, hvs.length, hl]
  have hb := bindArgs_plain (vals := vs) f9 f10 f11 f12 f13 hnames hlen
  have hbn : ((((fd.params.args.map (·.arg)).zip vs)).map (·.1)) = fd.params.args.map (·.arg) := by
    rw [List.map_fst_zip (by omega)]
  refine wpAny_call (codeAny_call_cells (binds := (fd.params.args.map (·.arg)).zip vs) hd (hw.keep _ _ f2) f3 (G.lim.keeps hw.keep) (f8.keeps hw.keep) f4 hb f5 ?_ ?_ f17 f18 f16)
  · intro x hx
    have hx' : x.1 ∈ fn.params.map Str.ofString := by rw [← f14, ← hbn]; exact List.mem_map_of_mem hx
    obtain ⟨z, hz, e⟩ := List.mem_map.mp hx'
    rcases f21 z hz with q | q
    · exact .inl (by rw [← e]; exact q)
    · refine .inr ⟨by rw [← e]; exact q, ?_⟩
      obtain ⟨c, hc⟩ := cellsFrom_has fd.scope.names (s.heap.objs.size + 1) (Str.ofString z) (mem_of_lookup q)
      obtain ⟨c', hc'⟩ := lookup_some_of_mem hc
      rw [← e, hc']; rfl
  · intro s₁ ic
    obtain ⟨h₁, tk₁, rfl, hk⟩ := ic.toInCall.done
    have Lsz : @Eq Nat (callEnvC fd s.heap.objs.size a).locals s.heap.objs.size := rfl
    have cge : ∀ x c, (callEnvC fd s.heap.objs.size a).cells.lookup x = some c → @LT.lt Nat _ s.heap.objs.size c := fun x c hc => ic.above x c (mem_of_lookup hc)
    have newN : ∀ c, @LE.le Nat _ s.heap.objs.size c → s.heap.get? c = none := fun c hc => Heap.get?_none_of_le hc
    have kindEq : ∀ x, (callEnvC fd s.heap.objs.size a).kindOf x = fd.scope.names.lookup x := fun _ => rfl
    have R : EnvRep h₁ (callEnvC fd s.heap.objs.size a) (fun x => ((fd.params.args.map (·.arg)).zip vs).lookup x) := by
      refine ⟨f16, f6, f7, ⟨_, ic.toInCall.ns, fun x hx => ?_⟩, fun x hx => ?_, fun x y c h1 h2 => ?_, fun x c hc e => ?_, fun x c hc => ?_⟩
      · rw [bindL_eq _ _ x (by rw [hbn]; exact hnames) hx]; simp
      · have hcell : fd.scope.names.lookup x = some .cell := by
          rcases hx with q | q
          · exact q
          · exact absurd rfl (f20 _ (mem_of_lookup q))
        obtain ⟨c, hc⟩ := cellsFrom_has fd.scope.names (s.heap.objs.size + 1) x (mem_of_lookup hcell)
        obtain ⟨c', hc'⟩ := lookup_some_of_mem hc
        refine ⟨c', hc', ?_⟩
        have := ic.cell x c' hc'
        rw [bindC_eq _ _ x (by rw [hbn]; exact hnames) (by rw [kindEq, hcell]; simp)] at this
        simpa using this
      · exact name_of_addr ic.apart (mem_of_lookup h1) (mem_of_lookup h2)
      · have := cge x c hc
        have e' : @Eq Nat c s.heap.objs.size := e
        omega
      · obtain ⟨o', e', _⟩ := ic.cell x c hc
        exact ⟨o', e'⟩
    have hot : ∀ b, Hot (callEnvC fd s.heap.objs.size a) H (fun _ => none) b → H b ∨ frm (callEnvC fd s.heap.objs.size a) b := by
      rintro b (q | q | q | ⟨x, q⟩)
      · exact .inl q
      · exact .inr (.inl q)
      · exact .inr (.inr q)
      · cases q
    have frn : ∀ b, frm (callEnvC fd s.heap.objs.size a) b → s.heap.get? b = none := by
      rintro b (q | ⟨x, q⟩)
      · exact newN b (by rw [q]; exact Nat.le_refl _)
      · exact newN b (Nat.le_of_lt (cge x b q))
    have S : StOk w base s.heap h₁ (callEnvC fd s.heap.objs.size a) H (fun _ => none) (fun x => ((fd.params.args.map (·.arg)).zip vs).lookup x) ((fn.params.zip ds).map fun p => (p.1, (false, p.2))) := by
      refine ⟨R, fun x d' e => ?_, fun x d' e => ?_, ⟨fun b o' e => hk b o' (hw.keep b o' e), fun b q => ?_, fun b o' e q => ?_⟩, hk, ⟨frn _ (.inl rfl), fun x c hc => frn c (.inr ⟨x, hc⟩)⟩, fun x c e => (by cases e), fun x y c e => (by cases e), fun x c e => (by cases e)⟩
      · rw [lookup_start] at e
        simp only [Option.map_eq_some_iff, Prod.mk.injEq] at e
        obtain ⟨d'', e1, _, e2⟩ := e
        subst e2
        obtain ⟨v, e3, e4⟩ := lookup_zip_map fn.params vs ds x d'' hvs e1
        refine ⟨v, by rw [f14]; exact e3, e4.mono (fun b o' _ e => hk b o' e) fun b o' e q => ?_⟩
        rcases hot b q with q | q
        · exact q
        · rw [frn b q] at e; cases e
      · rw [lookup_start] at e
        simp only [Option.map_eq_some_iff, Prod.mk.injEq] at e
        obtain ⟨_, _, e1, _⟩ := e
        cases e1
      · rcases hot b q with q | q
        · obtain ⟨b', o', h1, h2⟩ := hw.ex b q
          exact ⟨b', o', h1, hk _ _ h2⟩
        · obtain ⟨o', ho'⟩ := frame_ex R q
          exact ⟨b, o', Nat.le_refl _, ho'⟩
      · rcases hot b q with q | q
        · exact hw.off b o' e q
        · have := frn b q
          rw [hw.keep b o' e] at this; cases this
    refine wpAny_mono (all_Ss G (C (callEnvC fd s.heap.objs.size a)) (A := A.deeper (callEnvC fd s.heap.objs.size a)) hh (by show A.units + 3 + 1 < cLine; exact hu) fn.body { s with heap := h₁, toks := tk₁ } (callEnvC fd s.heap.objs.size a) body H s.heap (fun _ => none) _ _ r _ f22 S hev) (fun fl s' q => ?_) fun _ _ e => e
    obtain ⟨h', tk', rfl, k, x, q⟩ := q
    rcases hr with ⟨σ, rfl⟩ | ⟨σ, rfl, rfl, rfl⟩
    · obtain ⟨v, rfl, q1, q2, q3⟩ := q
      refine ⟨⟨h', tk', rfl, q2⟩, q1, fun hf => ?_⟩
      exact q3 hf
    · obtain ⟨rfl, own', m', S', _⟩ := q
      exact ⟨⟨h', tk', rfl, S'.keep⟩, .none, fun e => by cases e⟩

/-- all calls, to the depth n -/
theorem callN_sound (G : GOk mg mb base) (HF : ∀ f fn, P.lookup f = some fn → FnOk base mg f fn) (HX : ∀ A, AOk A 0 → CSound prog w base mg X A) : ∀ (n : Nat) (A : Around), AOk A n → CSound prog w base mg (callN P X n) A
  | 0, A, hA => ⟨fun f ds d fr h => (by simp only [callN] at h; exact nomatch h), (HX A hA).glob⟩
  | n + 1, A, hA => by
    have hA0 : AOk A 0 := ⟨hA.handled, by have := hA.depth; omega, by have := hA.units; omega⟩
    refine ⟨fun f ds d fr h => ?_, (HX A hA0).glob⟩
    simp only [callN] at h
    split at h
    · exact (HX A hA0).call f ds d fr h
    · rename_i fn hfn
      split at h
      · rename_i hl
        have C : ∀ env, CSound prog w base mg (callN P X n) (A.deeper env) := fun env => callN_sound G HF HX n (A.deeper env) ⟨hA.handled, by
          have := hA.depth
          show A.depth + 1 + n + 20 < recursionLimit
          omega, by
          have := hA.units
          show A.units + 3 + 3 * n + 100 < cLine
          omega⟩
        have hd : A.depth < recursionLimit := by have := hA.depth; omega
        have hu : A.units + 4 < cLine := by have := hA.units; omega
        split at h
        · rename_i fr' d' σ hev
          cases h
          exact call_fn G hA.handled hd hu C (HF f fn hfn) hl hev (.inl ⟨σ, rfl⟩)
        · rename_i σ hev
          cases h
          exact call_fn G hA.handled hd hu C (HF f fn hfn) hl hev (.inr ⟨σ, rfl, rfl, rfl⟩)
        · cases h
      · cases h
end
end Mine
namespace Mine
open PySem PySem.SeqAt PySem.W PyProof.Rows

noncomputable def chkFn (d : DefRec) (fn : Fn) : Bool :=
  d.params.posonlyargs.isEmpty && d.params.kwonlyargs.isEmpty && d.params.vararg.isNone && d.params.kwarg.isNone && d.params.args.map (·.arg) == fn.params.map Str.ofString && decide fn.params.Nodup &&
  d.scope.kind == .function && !d.scope.isCoroutine && !d.scope.isGenerator && decide (d.scope.names.map (·.1)).Nodup && d.scope.names.all (fun p => p.2 != .free) &&
  fn.params.all (fun x => d.scope.names.lookup (Str.ofString x) == some .local || d.scope.names.lookup (Str.ofString x) == some .cell) && chkSs (fun x => d.scope.names.lookup x) d.body fn.body
noncomputable def chkProg (recs : List DefRec) (P : List (String × Fn)) : Bool := P.all fun q => match recs.find? (fun d => d.name == Str.ofString q.1) with
  | some d => chkFn d q.2
  | none => false
noncomputable def bltFree (p : Program) (loose : List Str) : Bool := bltNames.all fun f => !startupNames.contains (Str.ofString f) && !loose.contains (Str.ofString f) && !((recsOf p).map (·.name)).contains (Str.ofString f) && !((litsOf p).map (·.1)).contains (Str.ofString f) && !((clssOf p loose).map (·.name)).contains (Str.ofString f)

theorem mem_of_lookupS {α : Type} : ∀ {l : List (String × α)} {x : String} {c : α}, l.lookup x = some c → (x, c) ∈ l
  | (y, d) :: r, x, c, h => by
    rw [List.lookup_cons] at h
    by_cases e : x = y
    · subst e
      simp only [beq_self_eq_true] at h
      cases h
      exact .head _
    · have hb : (x == y) = false := by simpa using e
      rw [hb] at h
      exact .tail _ (mem_of_lookupS h)

theorem fnOk_of {p : Program} {loose : List Str} {mean : ExcName → Option Value} {mg mb : Str → Option Value} {h : Heap} (T : Top p loose mean mg mb h) {P : List (String × Fn)} (hP : chkProg (recsOf p) P = true) {f : String} {fn : Fn} (hf : P.lookup f = some fn) : FnOk h mg f fn := by
  unfold chkProg at hP
  have := List.all_eq_true.mp hP _ (mem_of_lookupS hf)
  dsimp only at this
  cases hd : (recsOf p).find? (fun d => d.name == Str.ofString f) with
  | none => rw [hd] at this; cases this
  | some d =>
    rw [hd] at this
    have hn : d.name = Str.ofString f := by simpa using List.find?_some hd
    obtain ⟨a, o, pm, code, doc, h1, h2, h3, h4⟩ := T.fn d (List.mem_of_find?_eq_some hd)
    simp only [chkFn, Bool.and_eq_true, decide_eq_true_eq, beq_iff_eq, List.isEmpty_iff, Option.isNone_iff_eq_none, Bool.not_eq_true', List.all_eq_true, bne_iff_ne, Bool.or_eq_true] at this
    obtain ⟨⟨⟨⟨⟨⟨⟨⟨⟨⟨⟨⟨c1, c2⟩, c3⟩, c4⟩, c5⟩, c6⟩, c7⟩, c8⟩, c9⟩, c10⟩, c11⟩, c12⟩, c13⟩ := this
    exact ⟨a, o, _, d.body, hn ▸ h1, h2, h3, rfl, rfl, rfl, rfl, h4, c1, c2, c3, c4, rfl, c5, c6, c7, c8, c9, c10, c11, c12, c13⟩

theorem gOk_of {p : Program} {loose : List Str} {mean : ExcName → Option Value} {mg mb : Str → Option Value} {h : Heap} (T : Top p loose mean mg mb h) (hB : bltFree p loose = true) : GOk mg mb h := by
  refine ⟨T.g, T.b, T.nolimit, fun f hf => ⟨?_, ?_⟩⟩
  · have := List.all_eq_true.mp hB f hf
    simp only [Bool.and_eq_true, Bool.not_eq_true', List.contains_eq_mem, decide_eq_false_iff_not] at this
    obtain ⟨⟨⟨⟨c1, c2⟩, c3⟩, c4⟩, c5⟩ := this
    exact T.free _ c1 c2 c3 c4 c5
  · rw [T.builtins]
    · have : (bltNames.all fun f => bootBuiltins (Str.ofString f) == some (bltVal f)) = true := by decide +kernel
      simpa using List.all_eq_true.mp this f hf
    · have : (bltNames.all fun f => Str.ofString f != Str.ofString "__name__") = true := by decide +kernel
      simpa using List.all_eq_true.mp this f hf

theorem wellInts {P : Params} {h : Heap} {H : Addr → Prop} : ∀ {vs : List Value} {ns : List Int}, WellAll P h vs (ofPys (ns.map PyData.int)) → RepAll P h H vs (ns.map .int)
  | vs, [], hw => by cases hw; exact .nil
  | vs, n :: ns, hw => by
    cases hw with
    | cons h1 h2 =>
      cases h1
      exact .cons (.int _ _) (wellInts h2)

theorem law_fin {l : OpenLaw} {w : World} {s₀ s₁ : Shared} {mg mb : Str → Option Value} {p : Program} {loose : List Str} {mean mean' : ExcName → Option Value} {P : List (String × Fn)} {X : CF} (N : Nat) (T : Top p loose mean mg mb s₁.heap)
    (hP : chkProg (recsOf p) P = true) (hB : bltFree p loose = true) (hN : N ≤ 600) (HX : ∀ A, AOk A 0 → CSound l.prog w s₁.heap mg X A)
    {fa a : Addr} {ns : List Int} (hmg : mg (Str.ofString "law") = some (.ref fa)) (hg : s₁.gens = #[]) (hw : Well w.params s₁.heap (.ref a) (ofPy (PyData.list (ns.map PyData.int)))) (hlen : ¬ ((63 : Nat) : Int) < (ns.length : Int))
    (hpure : ∃ fr, (callN P X N).call "law" [.list (ns.map .int)] = some (.bool true, fr)) :
    wpAny (model l.row.toRowW.prog w) callerA (call (.ref fa) [.ref a]) (fun v s' => GoodWG l.row.toRowW.claim (classAt s₀.heap) mean' [ofPy (PyData.list (ns.map PyData.int))] s₁ (.ok (.ret v)) s')
      (fun e s' => GoodWG l.row.toRowW.claim (classAt s₀.heap) mean' [ofPy (PyData.list (ns.map PyData.int))] s₁ (.error e) s') s₁ := by
  obtain ⟨fr, hp⟩ := hpure
  have G := gOk_of T hB
  have hA : AOk callerA N := ⟨rfl, by
    show 1 + claimMargin + N + 20 < recursionLimit
    have e1 : claimMargin = 300 := rfl
    have e2 : recursionLimit = 1000 := rfl
    omega, by
    show 4 + 3 * N + 100 < cLine
    have e2 : cLine = 9900 := rfl
    omega⟩
  have C := callN_sound (prog := l.prog) (w := w) G (fun f fn hf => fnOk_of T hP hf) HX N callerA hA
  obtain ⟨a', o, fd, h1, h2, h3, h4⟩ := C.call "law" _ _ fr hp
  rw [hmg] at h1
  cases h1
  have hrep : Rep w.params s₁.heap (fun _ => False) (.ref a) (.list (ns.map .int)) := by
    cases hw with
    | list ho hr =>
      refine .list ho (fun q => q) ?_ (wellInts (by simpa using hr))
      simp only [List.length_map]
      have : ns.length ≤ 63 := by omega
      exact Nat.le_trans this (by decide)
  refine wpAny_mono (h4 s₁ (fun _ => False) [.ref a] _ ⟨fun _ _ e => e, fun _ q => q.elim, fun _ _ _ q => q⟩ (.cons hrep .nil)) (fun v s' q => ?_) fun _ _ e => e
  obtain ⟨⟨h', tk, rfl, hk⟩, rv, _⟩ := q
  cases rv
  exact GoodW.toG ⟨.inl ⟨.bool true, .bool true, [], rfl, fun _ => rfl, .bool true, postW_of (r := l.row.toRowW) rfl (w_eq_bool (w_res rfl) w_lit) rfl, fun _ => ⟨.nil, fun _ h => nomatch h⟩⟩, hk, rfl, hg⟩
end Mine
namespace Mine
open PySem
noncomputable def fin (r : Option (Fl × St)) : Option (D × Bool) := match r with
  | some (.ret fr d, _) => some (d, fr)
  | some (.next, _) => some (.none, false)
  | _ => none
theorem call_eq {P : List (String × Fn)} {X : CF} {f : String} {fn : Fn} (n : Nat) (args : List D) (h : P.lookup f = some fn) (hl : args.length = fn.params.length) :
    (callN P X (n + 1)).call f args = fin (exSs (callN P X n) fn.body ((fn.params.zip args).map fun p => (p.1, (false, p.2)))) := by
  simp only [callN, h, hl, if_true, fin]
  all_goals (split <;> rename_i q <;> simp [q])
theorem call_x {P : List (String × Fn)} {X : CF} {f : String} (n : Nat) (args : List D) (h : P.lookup f = none) :
    (callN P X (n + 1)).call f args = X.call f args := by simp only [callN, h]
theorem glob_x (P : List (String × Fn)) (X : CF) (n : Nat) (x : String) : (callN P X n).glob x = X.glob x := by cases n <;> rfl

noncomputable def thenS (r : Option (Fl × St)) (k : St → Option (Fl × St)) : Option (Fl × St) := match r with
  | some (.next, σ) => k σ
  | x => x
theorem thenS_next (σ : St) (k) : thenS (some (.next, σ)) k = k σ := rfl
theorem thenS_ret (fr d) (σ : St) (k) : thenS (some (.ret fr d, σ)) k = some (.ret fr d, σ) := rfl
theorem x_nil (cf : CF) (σ : St) : exSs cf [] σ = some (.next, σ) := by simp [xss_nil, xss_cons]
theorem x_cons (cf : CF) (s : MS) (r : List MS) (σ : St) : exSs cf (s :: r) σ = thenS (exS cf s σ) (exSs cf r) := by
  simp only [xss_nil, xss_cons, thenS]
  all_goals (split <;> rename_i q <;> simp_all)
theorem x_app (cf : CF) (a b : List MS) (σ : St) : exSs cf (a ++ b) σ = thenS (exSs cf a σ) (exSs cf b) := by
  induction a generalizing σ with
  | nil => simp [x_nil, thenS]
  | cons s a ih =>
    rw [List.cons_append, x_cons, x_cons]
    generalize exS cf s σ = z
    unfold thenS
    cases z with
    | none => rfl
    | some p =>
      obtain ⟨fl, σ'⟩ := p
      cases fl <;> simp [ih, thenS]
theorem x_assign (cf : CF) (x : String) (e : ME) (r : List MS) (σ : St) : exSs cf (.assign x e :: r) σ = (match evF cf (vis σ) e with
    | some (d, fr) => exSs cf r (setv (settle d e.names σ) x (fr, d))
    | none => none) := by
  rw [x_cons]
  simp only [xs_assign, xs_append, xs_setk, xs_ite, xs_for_, xs_ret, xs_bad, xs_grp]
  split <;> simp_all [thenS]
theorem x_append (cf : CF) (x : String) (e : ME) (r : List MS) (σ : St) : exSs cf (.append x e :: r) σ = (match evE cf (vis σ) e with
    | some d => (match (settle d e.names σ).lookup x with
      | some (true, .list ds) => if ds.length < big then exSs cf r (setv (settle d e.names σ) x (true, .list (ds ++ [d]))) else none
      | _ => none)
    | none => none) := by
  rw [x_cons]
  simp only [xs_assign, xs_append, xs_setk, xs_ite, xs_for_, xs_ret, xs_bad, xs_grp]
  split
  · rename_i q
    try simp only [q]
    split
    · rename_i q2
      try simp only [q2]
      split <;> rename_i q3
      · simp [thenS]
      · first | rfl | simp [thenS] | simp [thenS, q3]
    · rename_i q2
      first
      | rfl
      | (split
         · rename_i q3; exact absurd q3 (q2 _)
         · rfl)
  · rename_i q
    first | rfl | simp only [q, thenS]
theorem x_setk (cf : CF) (x : String) (k e : ME) (r : List MS) (σ : St) : exSs cf (.setk x k e :: r) σ = (match evE cf (vis σ) e with
    | some d => (match evE cf (vis σ) k with
      | some dk => (match (settle dk k.names (settle d e.names σ)).lookup x with
        | some (true, .dict ks vs) => if (keyOk dk ks && decide (ks.length < big)) = true then exSs cf r (setv (settle dk k.names (settle d e.names σ)) x (true, .dict (dput ks vs dk d).1 (dput ks vs dk d).2)) else none
        | _ => none)
      | none => none)
    | none => none) := by
  rw [x_cons]
  simp only [xs_assign, xs_append, xs_setk, xs_ite, xs_for_, xs_ret, xs_bad, xs_grp]
  split
  · rename_i q
    try simp only [q]
    split
    · rename_i q1
      try simp only [q1]
      split
      · rename_i q2
        try simp only [q2]
        split <;> rename_i q3
        · simp [thenS]
        · first | rfl | simp [thenS]
      · rename_i q2
        first
        | rfl
        | (split
           · rename_i q3; exact absurd q3 (q2 _ _)
           · rfl)
    · rename_i q1
      first | rfl | simp only [q1, thenS]
  · rename_i q
    first | rfl | simp only [q, thenS]
theorem x_ite (cf : CF) (c : ME) (t f : List MS) (r : List MS) (σ : St) : exSs cf (.ite c t f :: r) σ = (match evE cf (vis σ) c with
    | some d => (match truth d with
      | some true => exSs cf (t ++ r) σ
      | some false => exSs cf (f ++ r) σ
      | none => none)
    | none => none) := by
  rw [x_cons]
  simp only [xs_assign, xs_append, xs_setk, xs_ite, xs_for_, xs_ret, xs_bad, xs_grp]
  split
  · split <;> simp_all [thenS, x_app]
  · simp_all [thenS]
noncomputable def bodyF (cf : CF) (body : List MS) (x : String) : D → St → Option (Fl × St) := fun it σ => exSs cf body (setv σ x (false, it))
noncomputable def loopS (r : Option (Fl × St)) (k : St → Option (Fl × St)) : Option (Fl × St) := match r with
  | some (.next, σ) => k σ
  | x => x
theorem loopS_next (σ : St) (k) : loopS (some (.next, σ)) k = k σ := rfl
theorem loopS_ret (fr d) (σ : St) (k) : loopS (some (.ret fr d, σ)) k = some (.ret fr d, σ) := rfl
theorem forB_nil (cf : CF) (body : List MS) (x : String) (σ : St) : forD (bodyF cf body x) [] σ = some (.next, σ) := rfl
theorem forB_cons (cf : CF) (body : List MS) (x : String) (it : D) (r : List D) (σ : St) : forD (bodyF cf body x) (it :: r) σ = loopS (exSs cf body (setv σ x (false, it))) (forD (bodyF cf body x) r) := by
  show (match exSs cf body (setv σ x (false, it)) with
    | some (.next, σ') => forD (bodyF cf body x) r σ'
    | x => x) = _
  generalize exSs cf body (setv σ x (false, it)) = z
  unfold loopS
  split <;> rfl
theorem x_for (cf : CF) (x : String) (src : ME) (body : List MS) (r : List MS) (σ : St) : exSs cf (.for_ x src body :: r) σ = (match evE cf (vis σ) src with
    | some d => (match d.items with
      | some its => thenS (forD (bodyF cf body x) its (freeze src.names σ)) (exSs cf r)
      | none => none)
    | none => none) := by
  rw [x_cons]
  simp only [xs_assign, xs_append, xs_setk, xs_ite, xs_for_, xs_ret, xs_bad, xs_grp]
  split
  · split
    · rename_i q1 _ _ q2
      try simp only [q1, q2]
      rfl
    · rename_i q1 _ q2
      try simp only [q1, q2]
      rfl
  · first | rfl | simp_all [thenS]
theorem x_grp (cf : CF) (r : List MS) (σ : St) : exSs cf (.grp :: r) σ = (match grpS cf σ with
    | some σ' => exSs cf r σ'
    | none => none) := by
  rw [x_cons]
  simp only [xs_assign, xs_append, xs_setk, xs_ite, xs_for_, xs_ret, xs_bad, xs_grp]
  cases grpS cf σ <;> rfl
theorem x_ret (cf : CF) (e : ME) (r : List MS) (σ : St) : exSs cf (.ret e :: r) σ = (match (match e with
    | .var x => (match σ.lookup x with | some (fr, d) => some (d, fr) | none => none)
    | e => evF cf (vis σ) e) with
    | some (d, fr) => some (.ret fr d, σ)
    | none => none) := by
  rw [x_cons]
  cases e <;> simp only [xs_assign, xs_append, xs_setk, xs_ite, xs_for_, xs_ret, xs_bad, xs_grp]
  all_goals (split <;> rename_i q <;> first | rfl | simp only [q, thenS])
/-- a loop that keeps a state of one kind -/
theorem forD_inv (f : D → St → Option (Fl × St)) (I : List D → List D → St → Prop) : ∀ (its pre : List D) (σ : St), I pre its σ →
    (∀ pre it r σ, I pre (it :: r) σ → ∃ σ', f it σ = some (.next, σ') ∧ I (pre ++ [it]) r σ') →
    ∃ σ', forD f its σ = some (.next, σ') ∧ I (pre ++ its) [] σ'
  | [], pre, σ, h, _ => ⟨σ, rfl, by simpa using h⟩
  | it :: r, pre, σ, h, hs => by
    obtain ⟨σ', q, h'⟩ := hs pre it r σ h
    obtain ⟨σ'', q', h''⟩ := forD_inv f I r (pre ++ [it]) σ' h' hs
    refine ⟨σ'', ?_, by simpa using h''⟩
    simp [forD, q, q']
end Mine
namespace Mine
open PySem
section
variable (cf : CF) (ρ : List (String × D))
theorem e_var (x : String) : evE cf ρ (.var x) = ρ.lookup x := rfl
theorem e_glob (x : String) : evE cf ρ (.glob x) = cf.glob x := rfl
theorem e_int (i : Int) : evE cf ρ (.int i) = some (.int i) := rfl
theorem e_str (i : String) : evE cf ρ (.str i) = some (.str (Str.ofString i)) := rfl
theorem e_bool (i : Bool) : evE cf ρ (.bool i) = some (.bool i) := rfl
theorem e_none : evE cf ρ .none = some .none := rfl
theorem evF_var (x : String) : evF cf ρ (.var x) = (evE cf ρ (.var x)).map fun d => (d, false) := rfl
theorem evF_glob (x : String) : evF cf ρ (.glob x) = (evE cf ρ (.glob x)).map fun d => (d, false) := rfl
theorem evF_int (x : Int) : evF cf ρ (.int x) = (evE cf ρ (.int x)).map fun d => (d, false) := rfl
theorem evF_str (x : String) : evF cf ρ (.str x) = (evE cf ρ (.str x)).map fun d => (d, false) := rfl
theorem evF_bool (x : Bool) : evF cf ρ (.bool x) = (evE cf ρ (.bool x)).map fun d => (d, false) := rfl
theorem evF_none : evF cf ρ .none = (evE cf ρ .none).map fun d => (d, false) := rfl
theorem evF_cmp (op : CmpOp) (a b : ME) : evF cf ρ (.cmp op a b) = (evE cf ρ (.cmp op a b)).map fun d => (d, false) := rfl
theorem evF_bop (op : BoolOp) (a : List ME) : evF cf ρ (.bop op a) = (evE cf ρ (.bop op a)).map fun d => (d, false) := rfl
theorem evF_not (a : ME) : evF cf ρ (.not a) = (evE cf ρ (.not a)).map fun d => (d, false) := rfl
theorem evF_neg (a : ME) : evF cf ρ (.neg a) = (evE cf ρ (.neg a)).map fun d => (d, false) := rfl
theorem evF_tup (a : List ME) : evF cf ρ (.tup a) = (evE cf ρ (.tup a)).map fun d => (d, false) := rfl
theorem evF_sub (a b : ME) : evF cf ρ (.sub a b) = (evE cf ρ (.sub a b)).map fun d => (d, false) := rfl
theorem evF_isi (a : ME) (b : String) : evF cf ρ (.isi a b) = (evE cf ρ (.isi a b)).map fun d => (d, false) := rfl
theorem evF_blt (f : String) (a : List ME) : evF cf ρ (.blt f a) = (evE cf ρ (.blt f a)).map fun d => (d, false) := rfl
noncomputable def o2 (f : D → D → Option D) (a b : Option D) : Option D := match a with
  | some x => (match b with | some y => f x y | none => none)
  | none => none
theorem o2_some (f : D → D → Option D) (a b : D) : o2 f (some a) (some b) = f a b := rfl
theorem e_bin (op : Operator) (a b : ME) : evE cf ρ (.bin op a b) = o2 (binD op) (evE cf ρ a) (evE cf ρ b) := rfl
theorem e_cmp (op : CmpOp) (a b : ME) : evE cf ρ (.cmp op a b) = o2 (cmpD op) (evE cf ρ a) (evE cf ρ b) := rfl
theorem e_sub (a b : ME) : evE cf ρ (.sub a b) = o2 subD (evE cf ρ a) (evE cf ρ b) := rfl
theorem e_bop (op : BoolOp) (es : List ME) : evE cf ρ (.bop op es) = evBop cf ρ op es := rfl
noncomputable def o1 (f : D → Option D) (a : Option D) : Option D := match a with
  | some x => f x
  | none => none
theorem o1_some (f : D → Option D) (a : D) : o1 f (some a) = f a := rfl
theorem e_not (a : ME) : evE cf ρ (.not a) = o1 (fun x => (truth x).map fun t => .bool (!t)) (evE cf ρ a) := rfl
noncomputable def negD : D → Option D
  | .int i => some (.int (-i))
  | _ => none
theorem e_neg (a : ME) : evE cf ρ (.neg a) = o1 negD (evE cf ρ a) := by
  rw [evE]
  generalize evE cf ρ a = z
  cases z with
  | none => rfl
  | some d => cases d <;> rfl
noncomputable def oL (f : List D → Option D) (a : Option (List D)) : Option D := match a with
  | some x => f x
  | none => none
theorem oL_some (f : List D → Option D) (a : List D) : oL f (some a) = f a := rfl
theorem e_tup (es : List ME) : evE cf ρ (.tup es) = oL (fun ds => if ds.length ≤ big then some (.tup ds) else none) (evEs cf ρ es) := rfl
theorem e_lst (es : List ME) : evE cf ρ (.lst es) = oL (fun ds => if ds.length ≤ big then some (.list ds) else none) (evEs cf ρ es) := rfl
theorem e_dct (ks vs : List ME) : evE cf ρ (.dct ks vs) = (match evEs cf ρ ks with
    | some ds => (match evEs cf ρ vs with
      | some es => if (ds.all D.isCell && ds.length == es.length && decide (ds.length ≤ 15)) = true then some (.dict (dputs ds es).1 (dputs ds es).2) else none
      | none => none)
    | none => none) := rfl
theorem e_blt (f : String) (es : List ME) : evE cf ρ (.blt f es) = oL (bltD f) (evEs cf ρ es) := rfl
theorem e_call (f : String) (es : List ME) : evE cf ρ (.call f es) = oL (fun ds => (cf.call f ds).map (·.1)) (evEs cf ρ es) := rfl
theorem e_lcp (a : ME) : evE cf ρ (.lcp a) = o1 (fun x => (lstD x).map .list) (evE cf ρ a) := rfl
theorem e_isi (a : ME) (T : String) : evE cf ρ (.isi a T) = o1 (fun x => (isiD x T).map .bool) (evE cf ρ a) := rfl
theorem e_sl (a l h : ME) : evE cf ρ (.sl a l h) = o1 (fun x => o2 (slD x) (evE cf ρ l) (evE cf ρ h)) (evE cf ρ a) := rfl
noncomputable def compF (elt : ME) (x : String) (cs : List ME) : D → Option (Option D) := fun it => match evCs cf ((x, it) :: ρ) cs with
  | some true => (match evE cf ((x, it) :: ρ) elt with | some y => some (some y) | none => none)
  | some false => some none
  | none => none
theorem e_comp (elt : ME) (x : String) (src : ME) (cs : List ME) : evE cf ρ (.comp elt x src cs) = o1 (fun d => (match d.items with
      | some its => if its.length ≤ big then (compM (compF cf ρ elt x cs) its).map .list else none
      | none => none)) (evE cf ρ src) := rfl
theorem es_nil : evEs cf ρ [] = some [] := rfl
noncomputable def oC (a : Option D) (b : Option (List D)) : Option (List D) := match a with
  | some d => (match b with | some ds => some (d :: ds) | none => none)
  | none => none
theorem oC_some (a : D) (b : List D) : oC (some a) (some b) = some (a :: b) := rfl
theorem es_cons (e : ME) (r : List ME) : evEs cf ρ (e :: r) = oC (evE cf ρ e) (evEs cf ρ r) := rfl
theorem b_one (op : BoolOp) (e : ME) : evBop cf ρ op [e] = evE cf ρ e := rfl
noncomputable def oB (s : Bool) (r : Option D) (a : Option D) : Option D := match a with
  | some d => (match truth d with
    | some t => if t = s then some d else r
    | none => none)
  | none => none
theorem oB_bool (s : Bool) (r : Option D) (t : Bool) : oB s r (some (.bool t)) = if t = s then some (.bool s) else r := by
  unfold oB truth
  by_cases h : t = s
  · subst h; rfl
  · simp [h]
theorem b_and (e e2 : ME) (r : List ME) : evBop cf ρ .And (e :: e2 :: r) = oB false (evBop cf ρ .And (e2 :: r)) (evE cf ρ e) := rfl
theorem b_or (e e2 : ME) (r : List ME) : evBop cf ρ .Or (e :: e2 :: r) = oB true (evBop cf ρ .Or (e2 :: r)) (evE cf ρ e) := rfl
theorem c_nil : evCs cf ρ [] = some true := rfl
noncomputable def oI (k k' : Option (Fl × St)) (a : Option D) : Option (Fl × St) := match a with
  | some d => (match truth d with
    | some t => if t = true then k else k'
    | none => none)
  | none => none
theorem oI_bool (k k' : Option (Fl × St)) (t : Bool) : oI k k' (some (.bool t)) = if t = true then k else k' := rfl
theorem x_if (c : ME) (t f r : List MS) (σ : St) : exSs cf (.ite c t f :: r) σ = oI (exSs cf (t ++ r) σ) (exSs cf (f ++ r) σ) (evE cf (vis σ) c) := by
  rw [x_ite]
  unfold oI
  cases evE cf (vis σ) c with
  | none => rfl
  | some d =>
    show (match truth d with | some true => _ | some false => _ | none => _) = _
    cases h : truth d with
    | none => simp [h]
    | some b => cases b <;> simp [h]
end
theorem compM_ok (f : D → Option (Option D)) (Q : D → D → Prop) : ∀ (its : List D), (∀ it ∈ its, ∃ d, Q it d ∧ f it = some (some d)) → ∃ ds, compM f its = some ds ∧ ds.length = its.length ∧ ∀ d ∈ ds, ∃ it ∈ its, Q it d
  | [], _ => ⟨[], rfl, rfl, fun _ h => nomatch h⟩
  | it :: r, h => by
    obtain ⟨d, q, e⟩ := h it (by simp)
    obtain ⟨ds, e2, hl, hq⟩ := compM_ok f Q r fun i hi => h i (by simp [hi])
    refine ⟨d :: ds, by simp [compM, e, e2], by simp [hl], ?_⟩
    intro d' hd
    rcases List.mem_cons.mp hd with rfl | hd
    · exact ⟨it, by simp, q⟩
    · obtain ⟨i, hi, q'⟩ := hq d' hd
      exact ⟨i, by simp [hi], q'⟩
theorem compM_map (f : D → Option (Option D)) (g : D → D) : ∀ (its : List D), (∀ it ∈ its, f it = some (some (g it))) → compM f its = some (its.map g)
  | [], _ => rfl
  | it :: r, h => by simp [compM, h it (by simp), compM_map f g r fun i hi => h i (by simp [hi])]
theorem compF_nil {cf : CF} {ρ : List (String × D)} {elt : ME} {x : String} {it d : D} (h : evE cf ((x, it) :: ρ) elt = some d) : compF cf ρ elt x [] it = some (some d) := by
  unfold compF; simp [c_nil, h]
theorem items_rng (n : Nat) : D.items (.rng 0 n) = some ((List.range n).map fun (i : Nat) => D.int (i : Int)) := by
  simp [D.items]
end Mine
namespace Mine
open PySem
/-! rules of the evaluator -/
noncomputable def Run (cf : CF) (ss : List MS) (σ : St) (d : D) (fr : Bool) : Prop := fin (exSs cf ss σ) = some (d, fr)
noncomputable def Nxt (cf : CF) (ss : List MS) (σ σ' : St) : Prop := exSs cf ss σ = some (.next, σ')
noncomputable def ME.isVar : ME → Bool
  | .var _ => true
  | _ => false
/-- one step of a run -/
structure Stp (cf : CF) (s : MS) (σ σ' : St) : Prop where
  go : ∀ r, exSs cf (s :: r) σ = exSs cf r σ'
section
variable {cf : CF} {ρ : List (String × D)} {σ σ' : St} {a b c e : ME} {d x y : D} {i j : Int} {fr : Bool} {r t f body : List MS} {z : String}
theorem v_map (h : evE cf ρ e = some d) (hc : isCallE e = none) (hf : frF e d = fr) : evF cf ρ e = some (d, fr) := by
  unfold evF; rw [hc, h]; show some (d, frF e d) = _; rw [hf]
theorem v_call {g : String} {as : List ME} {ds : List D} (h : evEs cf ρ as = some ds) (hc : cf.call g ds = some (d, fr)) : evF cf ρ (.call g as) = some (d, fr) := by
  rw [evF_call, h]; exact hc
theorem v_callE {g : String} {as : List ME} {ds : List D} (h : evEs cf ρ as = some ds) (hc : cf.call g ds = some (d, fr)) : evE cf ρ (.call g as) = some d := by
  rw [e_call, h]; show (cf.call g ds).map _ = _; rw [hc]; rfl
theorem v_cons {es : List ME} {ds : List D} (h : evE cf ρ e = some d) (hs : evEs cf ρ es = some ds) : evEs cf ρ (e :: es) = some (d :: ds) := by
  rw [es_cons, h, hs]; rfl
theorem v_bin {op : Operator} (ha : evE cf ρ a = some x) (hb : evE cf ρ b = some y) (h : binD op x y = some d) : evE cf ρ (.bin op a b) = some d := by
  rw [e_bin, ha, hb]; exact h
theorem b_mul (h : -lim < j ∧ j < lim) : binD .Mult (.int i) (.int j) = some (.int (i * j)) := if_pos (.inr h)
theorem b_mulL (h : -lim < i ∧ i < lim) : binD .Mult (.int i) (.int j) = some (.int (i * j)) := if_pos (.inl h)
theorem b_div (h : 0 < j ∧ j < lim) : binD .FloorDiv (.int i) (.int j) = some (.int (i / j)) := if_pos h
theorem b_mod (h : 0 < j) : binD .Mod (.int i) (.int j) = some (.int (i % j)) := if_pos h
theorem b_pow (h : -powLim < i ∧ i < powLim ∧ 0 ≤ j ∧ j ≤ 100) : binD .Pow (.int i) (.int j) = some (.int (i ^ j.toNat)) := if_pos h
theorem b_add : binD .Add (.int i) (.int j) = some (.int (i + j)) := rfl
theorem b_sb : binD .Sub (.int i) (.int j) = some (.int (i - j)) := rfl
theorem v_cmp {op : CmpOp} (ha : evE cf ρ a = some x) (hb : evE cf ρ b = some y) (h : cmpD op x y = some d) : evE cf ρ (.cmp op a b) = some d := by
  rw [e_cmp, ha, hb]; exact h
theorem v_sub (ha : evE cf ρ a = some x) (hb : evE cf ρ b = some y) (h : subD x y = some d) : evE cf ρ (.sub a b) = some d := by
  rw [e_sub, ha, hb]; exact h
theorem v_sl {l h : ME} {u v : D} (ha : evE cf ρ a = some x) (hl : evE cf ρ l = some u) (hh : evE cf ρ h = some v) (hd : slD x u v = some d) : evE cf ρ (.sl a l h) = some d := by
  rw [e_sl, ha, hl, hh]; exact hd
theorem v_not {k : Bool} (ha : evE cf ρ a = some x) (h : truth x = some k) : evE cf ρ (.not a) = some (.bool (!k)) := by
  rw [e_not, ha]; show (truth x).map _ = _; rw [h]; rfl
theorem v_isi {T : String} {k : Bool} (ha : evE cf ρ a = some x) (h : isiD x T = some k) : evE cf ρ (.isi a T) = some (.bool k) := by
  rw [e_isi, ha]; show (isiD x T).map _ = _; rw [h]; rfl
theorem v_blt {g : String} {as : List ME} {ds : List D} (ha : evEs cf ρ as = some ds) (h : bltD g ds = some d) : evE cf ρ (.blt g as) = some d := by
  rw [e_blt, ha]; exact h
theorem v_tup {as : List ME} {ds : List D} (ha : evEs cf ρ as = some ds) (h : ds.length ≤ big) : evE cf ρ (.tup as) = some (.tup ds) := by
  rw [e_tup, ha]; exact if_pos h
theorem v_lst {as : List ME} {ds : List D} (ha : evEs cf ρ as = some ds) (h : ds.length ≤ big) : evE cf ρ (.lst as) = some (.list ds) := by
  rw [e_lst, ha]; exact if_pos h
theorem v_lcp {ds : List D} (ha : evE cf ρ a = some x) (h : lstD x = some ds) : evE cf ρ (.lcp a) = some (.list ds) := by
  rw [e_lcp, ha]; show (lstD x).map _ = _; rw [h]; rfl
theorem v_comp {elt src : ME} {cs : List ME} {its ds : List D} (ha : evE cf ρ src = some x) (hi : x.items = some its) (hl : its.length ≤ big) (h : compM (compF cf ρ elt z cs) its = some ds) : evE cf ρ (.comp elt z src cs) = some (.list ds) := by
  rw [e_comp, ha]; show (match x.items with | some its => _ | none => _) = _; rw [hi]; show (if its.length ≤ big then _ else _) = _; rw [if_pos hl, h]; rfl

theorem v_and {k l : Bool} {r' : List ME} (ha : evE cf ρ a = some (.bool k)) (hb : k = true → evE cf ρ (.bop .And (b :: r')) = some (.bool l)) : evE cf ρ (.bop .And (a :: b :: r')) = some (.bool (k && l)) := by
  rw [e_bop, b_and, ha, oB_bool]
  cases k with
  | false => rfl
  | true => exact hb rfl
theorem v_or {k l : Bool} {r' : List ME} (ha : evE cf ρ a = some (.bool k)) (hb : k = false → evE cf ρ (.bop .Or (b :: r')) = some (.bool l)) : evE cf ρ (.bop .Or (a :: b :: r')) = some (.bool (k || l)) := by
  rw [e_bop, b_or, ha, oB_bool]
  cases k with
  | true => rfl
  | false => exact hb rfl
theorem v_bop1 {op : BoolOp} (ha : evE cf ρ a = some d) : evE cf ρ (.bop op [a]) = some d := ha
/-! statements -/
theorem p_assign (h : evF cf (vis σ) e = some (d, fr)) : Stp cf (.assign z e) σ (setv (settle d e.names σ) z (fr, d)) := ⟨fun r => by rw [x_assign, h]⟩
theorem p_append {ds : List D} (h : evE cf (vis σ) e = some d) (hl : (settle d e.names σ).lookup z = some (true, .list ds)) (hb : ds.length < big) : Stp cf (.append z e) σ (setv (settle d e.names σ) z (true, .list (ds ++ [d]))) := ⟨fun r => by rw [x_append, h]; simp only [hl, if_pos hb]⟩
theorem p_setk {k : ME} {dk : D} {ks vs : List D} (h : evE cf (vis σ) e = some d) (hk : evE cf (vis σ) k = some dk) (hl : (settle dk k.names (settle d e.names σ)).lookup z = some (true, .dict ks vs)) (hb : (keyOk dk ks && decide (ks.length < big)) = true) :
    Stp cf (.setk z k e) σ (setv (settle dk k.names (settle d e.names σ)) z (true, .dict (dput ks vs dk d).1 (dput ks vs dk d).2)) := ⟨fun r => by rw [x_setk, h, hk]; simp only [hl, hb, if_true]⟩
theorem p_grp (h : grpS cf σ = some σ') : Stp cf .grp σ σ' := ⟨fun r => by rw [x_grp, h]⟩
theorem r_step {s : MS} (h : Stp cf s σ σ') (k : Run cf r σ' d fr) : Run cf (s :: r) σ d fr := by unfold Run; rw [h.go]; exact k
theorem n_step {s : MS} {σ'' : St} (h : Stp cf s σ σ') (k : Nxt cf r σ' σ'') : Nxt cf (s :: r) σ σ'' := by unfold Nxt; rw [h.go]; exact k
theorem n_nil : Nxt cf [] σ σ := x_nil cf σ
theorem x_ifb {k : Bool} (h : evE cf (vis σ) c = some x) (hx : truth x = some k) : exSs cf (.ite c t f :: r) σ = if k = true then exSs cf (t ++ r) σ else exSs cf (f ++ r) σ := by
  rw [x_if, h]; show (match truth x with | some t => _ | none => _) = _; rw [hx]
theorem r_if {k : Bool} (h : evE cf (vis σ) c = some x) (hx : truth x = some k) (ht : k = true → Run cf (t ++ r) σ d fr) (hf : k = false → Run cf (f ++ r) σ d fr) : Run cf (.ite c t f :: r) σ d fr := by
  unfold Run; rw [x_ifb h hx]
  cases k with
  | true => exact ht rfl
  | false => exact hf rfl
theorem n_if {k : Bool} {σ' : St} (h : evE cf (vis σ) c = some x) (hx : truth x = some k) (ht : k = true → Nxt cf (t ++ r) σ σ') (hf : k = false → Nxt cf (f ++ r) σ σ') : Nxt cf (.ite c t f :: r) σ σ' := by
  unfold Nxt; rw [x_ifb h hx]
  cases k with
  | true => exact ht rfl
  | false => exact hf rfl
theorem r_ret (h : evF cf (vis σ) e = some (d, fr)) (hv : e.isVar = false) : Run cf (.ret e :: r) σ d fr := by
  unfold Run; rw [x_ret]
  cases e <;> first | (cases hv; done) | (simp only [h]; rfl)
theorem r_retv (h : σ.lookup z = some (fr, d)) : Run cf (.ret (.var z) :: r) σ d fr := by
  unfold Run; rw [x_ret]; simp only [h]; rfl
theorem r_for {src : ME} {its : List D} (hs : evE cf (vis σ) src = some x) (hi : x.items = some its) (h : forD (bodyF cf body z) its (freeze src.names σ) = some (.next, σ')) (k : Run cf r σ' d fr) : Run cf (.for_ z src body :: r) σ d fr := by
  unfold Run; rw [x_for, hs]; simp only [hi, h, thenS_next]; exact k
theorem r_forR {src : ME} {its : List D} (hs : evE cf (vis σ) src = some x) (hi : x.items = some its) (h : forD (bodyF cf body z) its (freeze src.names σ) = some (.ret fr d, σ')) : Run cf (.for_ z src body :: r) σ d fr := by
  unfold Run; rw [x_for, hs]; simp only [hi, h, thenS_ret]; rfl
theorem run_call {P : List (String × Fn)} {X : CF} {g : String} {ps : List String} {bd : List MS} {n : Nat} {args : List D} (h : P.lookup g = some ⟨ps, bd⟩) (hl : args.length = ps.length) (k : Run (callN P X n) bd ((ps.zip args).map fun p => (p.1, (false, p.2))) d fr) :
    (callN P X (n + 1)).call g args = some (d, fr) := by rw [call_eq n args h hl]; exact k
theorem no_tf {k : Bool} {α : Prop} (h : k = true) (h' : k = false) : α := by rw [h] at h'; cases h'
theorem bin_ss {u v : Str} (h : u.length + v.length ≤ big) : binD .Add (.str u) (.str v) = some (.str (u ++ v)) := if_pos h
theorem bin_tt {u v : List D} (h : u.length + v.length ≤ big) : binD .Add (.tup u) (.tup v) = some (.tup (u ++ v)) := if_pos h
theorem bin_ll {u v : List D} (h : u.length + v.length ≤ big) : binD .Add (.list u) (.list v) = some (.list (u ++ v)) := if_pos h
theorem bin_sm {u : Str} {k : Int} (h : 0 ≤ k ∧ k ≤ 1000 ∧ u.length ≤ 1000) : binD .Mult (.str u) (.int k) = some (.str (Txt.mul u k)) := if_pos h
theorem sub_s {u : Str} {k : Int} (h : 0 ≤ k ∧ k < u.length ∧ u.length ≤ big) : subD (.str u) (.int k) = some (.str (charAt u k.toNat)) := if_pos h
theorem sub_l {u : List D} {k : Nat} (h : k < u.length) (he : u[k]? = some d) : subD (.list u) (.int k) = some d := by
  show (idx k u.length).bind _ = _
  have : idx (k : Int) u.length = some k := by unfold idx; have : (k : Int) < u.length := by omega
                                               simp [this]
  rw [this]; exact he
theorem sub_t {u : List D} {k : Nat} (h : k < u.length) (he : u[k]? = some d) : subD (.tup u) (.int k) = some d := sub_l h he
theorem blt_rng {k : Nat} (h : k ≤ big) : bltD "range" [.int k] = some (.rng 0 k) := by
  show (if _ then _ else _) = _
  exact if_pos (by omega)
theorem len_s {u : Str} (h : u.length ≤ big) : bltD "len" [.str u] = some (.int u.length) := if_pos h
/-! runs that end in one of many answers -/
noncomputable def Rex (cf : CF) (ss : List MS) (σ : St) (Q : D → Bool → Prop) : Prop := ∃ d fr, Q d fr ∧ Run cf ss σ d fr
variable {Q : D → Bool → Prop}
theorem q_step {s : MS} (h : Stp cf s σ σ') (k : Rex cf r σ' Q) : Rex cf (s :: r) σ Q := let ⟨d, fr, q, k⟩ := k; ⟨d, fr, q, r_step h k⟩
theorem q_if {k : Bool} (h : evE cf (vis σ) c = some x) (hx : truth x = some k) (ht : k = true → Rex cf (t ++ r) σ Q) (hf : k = false → Rex cf (f ++ r) σ Q) : Rex cf (.ite c t f :: r) σ Q := by
  cases k with
  | true => obtain ⟨d, fr, q, k⟩ := ht rfl; exact ⟨d, fr, q, r_if h hx (fun _ => k) nofun⟩
  | false => obtain ⟨d, fr, q, k⟩ := hf rfl; exact ⟨d, fr, q, r_if h hx nofun fun _ => k⟩
theorem q_ret (h : evF cf (vis σ) e = some (d, fr)) (hv : e.isVar = false) (q : Q d fr) : Rex cf (.ret e :: r) σ Q := ⟨d, fr, q, r_ret h hv⟩
theorem q_retv (h : σ.lookup z = some (fr, d)) (q : Q d fr) : Rex cf (.ret (.var z) :: r) σ Q := ⟨d, fr, q, r_retv h⟩
theorem q_norm (h : σ = σ') (k : Rex cf r σ' Q) : Rex cf r σ Q := h ▸ k
theorem q_for {src : ME} {its : List D} (hs : evE cf (vis σ) src = some x) (hi : x.items = some its) (h : forD (bodyF cf body z) its (freeze src.names σ) = some (.next, σ')) (k : Rex cf r σ' Q) : Rex cf (.for_ z src body :: r) σ Q :=
  let ⟨d, fr, q, k⟩ := k; ⟨d, fr, q, r_for hs hi h k⟩
theorem q_forR {src : ME} {its : List D} (hs : evE cf (vis σ) src = some x) (hi : x.items = some its) (h : forD (bodyF cf body z) its (freeze src.names σ) = some (.ret fr d, σ')) (q : Q d fr) : Rex cf (.for_ z src body :: r) σ Q := ⟨d, fr, q, r_forR hs hi h⟩
theorem rex_call {P : List (String × Fn)} {X : CF} {g : String} {ps : List String} {bd : List MS} {n : Nat} {args : List D} (h : P.lookup g = some ⟨ps, bd⟩) (hl : args.length = ps.length) (k : Rex (callN P X n) bd ((ps.zip args).map fun p => (p.1, (false, p.2))) Q) :
    ∃ d fr, Q d fr ∧ (callN P X (n + 1)).call g args = some (d, fr) := let ⟨d, fr, q, k⟩ := k; ⟨d, fr, q, run_call h hl k⟩
theorem rex_eq {P : List (String × Fn)} {X : CF} {g : String} {ps : List String} {bd : List MS} {n : Nat} {args : List D} (h : P.lookup g = some ⟨ps, bd⟩) (hl : args.length = ps.length) (k : Rex (callN P X n) bd ((ps.zip args).map fun p => (p.1, (false, p.2))) fun d' fr' => d' = d ∧ fr' = fr) :
    (callN P X (n + 1)).call g args = some (d, fr) := by obtain ⟨_, _, ⟨rfl, rfl⟩, k⟩ := k; exact run_call h hl k
theorem v_rows {elt src : ME} {k : Nat} (hk : k ≤ 1000) (R : D → Prop) (hs : evE cf ρ src = some (.int k)) (h : ∀ i : Nat, i < k → ∃ d, R d ∧ evE cf ((z, .int i) :: ρ) elt = some d) :
    ∃ ds : List D, ds.length = k ∧ (∀ d ∈ ds, R d) ∧ evE cf ρ (.blt "tuple" [.comp elt z (.blt "range" [src]) []]) = some (.tup ds) := by
  obtain ⟨ds, e, hl, hq⟩ := compM_ok (compF cf ρ elt z []) (fun _ d => R d) ((List.range k).map fun (i : Nat) => D.int (i : Int)) (by
    intro it hit
    obtain ⟨i, hi, rfl⟩ := List.mem_map.mp hit
    obtain ⟨d, q, e⟩ := h i (List.mem_range.mp hi)
    exact ⟨d, q, compF_nil e⟩)
  have hb : k ≤ big := Nat.le_trans hk (by decide)
  have hl' : ((List.range k).map fun (i : Nat) => D.int (i : Int)).length = k := by simp
  refine ⟨ds, hl.trans hl', fun d hd => let ⟨_, _, q⟩ := hq d hd; q, ?_⟩
  exact v_blt (v_cons (v_comp (v_blt (v_cons hs (es_nil _ _)) (blt_rng hb)) (items_rng k) (Nat.le_trans (Nat.le_of_eq hl') hb) e) (es_nil _ _)) rfl
/-! a block's outcome -/
noncomputable def Out (cf : CF) (ss : List MS) (σ : St) (R : Fl → St → Prop) : Prop := ∃ fl σ', R fl σ' ∧ exSs cf ss σ = some (fl, σ')
variable {R : Fl → St → Prop}
theorem o_step {s : MS} (h : Stp cf s σ σ') (k : Out cf r σ' R) : Out cf (s :: r) σ R := let ⟨fl, s', q, k⟩ := k; ⟨fl, s', q, (h.go r).trans k⟩
theorem o_if {k : Bool} (h : evE cf (vis σ) c = some x) (hx : truth x = some k) (ht : k = true → Out cf (t ++ r) σ R) (hf : k = false → Out cf (f ++ r) σ R) : Out cf (.ite c t f :: r) σ R := by
  unfold Out; rw [x_ifb h hx]
  cases k with
  | true => exact ht rfl
  | false => exact hf rfl
theorem o_ret (h : evF cf (vis σ) e = some (d, fr)) (hv : e.isVar = false) (q : R (.ret fr d) σ) : Out cf (.ret e :: r) σ R := by
  refine ⟨_, _, q, ?_⟩
  rw [x_ret]
  cases e <;> first | (cases hv; done) | (simp only [h])
theorem o_nil (q : R .next σ) : Out cf [] σ R := ⟨_, _, q, x_nil cf σ⟩
theorem o_norm (h : σ = σ') (k : Out cf r σ' R) : Out cf r σ R := h ▸ k
theorem p_cell (h : evF cf (vis σ) e = some (d, fr)) (hc : d.isCell = true) : Stp cf (.assign z e) σ (setv σ z (fr, d)) := by
  have := p_assign (z := z) h
  unfold settle at this
  rwa [if_pos (by cases d <;> first | rfl | cases hc)] at this
/-- a loop that looks for one item -/
theorem loop_find (p : D → Bool) (I : St → Prop) (fr : Bool) (d : D) : ∀ (its : List D), (∀ it ∈ its, ∀ σ, I σ → Out cf body (setv σ z (false, it)) fun fl σ' => if p it = true then fl = .ret fr d else fl = .next ∧ I σ') →
    ∀ σ, I σ → ∃ σ', (its.any p = true → forD (bodyF cf body z) its σ = some (.ret fr d, σ')) ∧ (its.any p = false → I σ' ∧ forD (bodyF cf body z) its σ = some (.next, σ'))
  | [], _, σ, hσ => ⟨σ, nofun, fun _ => ⟨hσ, rfl⟩⟩
  | it :: r, h, σ, hσ => by
    obtain ⟨fl, σ₁, q, e⟩ := h it (.head _) σ hσ
    rw [List.any_cons, forB_cons, e]
    cases hp : p it with
    | true =>
      rw [if_pos hp] at q
      subst q
      exact ⟨σ₁, fun _ => rfl, nofun⟩
    | false =>
      rw [if_neg (by rw [hp]; exact Bool.false_ne_true)] at q
      obtain ⟨rfl, i1⟩ := q
      exact loop_find p I fr d r (fun i hi => h i (.tail _ hi)) σ₁ i1
theorem loop_inv (I : List D → St → Prop) : ∀ (its pre : List D) (σ : St), I pre σ → (∀ a it b σ, pre ++ its = a ++ it :: b → I a σ → Out cf body (setv σ z (false, it)) fun fl σ' => fl = .next ∧ I (a ++ [it]) σ') →
    ∃ σ', I (pre ++ its) σ' ∧ forD (bodyF cf body z) its σ = some (.next, σ')
  | [], pre, σ, h, _ => ⟨σ, by simpa using h, rfl⟩
  | it :: r, pre, σ, h, hs => by
    obtain ⟨fl, σ₁, ⟨rfl, i1⟩, e⟩ := hs pre it r σ rfl h
    obtain ⟨σ₂, i2, e2⟩ := loop_inv I r (pre ++ [it]) σ₁ i1 fun a i b s h => hs a i b s (by simpa using h)
    exact ⟨σ₂, by simpa using i2, by rw [forB_cons, e]; exact e2⟩
end

/-! states known by what they hold -/
noncomputable def HasR (ρ : List (String × D)) (x : String) (d : D) : Prop := ρ.lookup x = some d
noncomputable def Has (σ : St) (x : String) (d : D) : Prop := ∃ fr, σ.lookup x = some (fr, d)
noncomputable def OwnV (σ : St) (x : String) (d : D) : Prop := σ.lookup x = some (true, d)
section
variable {cf : CF} {ρ : List (String × D)} {σ : St} {x y : String} {d e : D} {v : Bool × D} {ns : List String} {fr : Bool}
theorem hr_eq : HasR ((x, d) :: ρ) x d := by unfold HasR; rw [List.lookup_cons, beq_self_eq_true]
theorem hr_ne (h : (x == y) = false) (k : HasR ρ x d) : HasR ((y, e) :: ρ) x d := by unfold HasR; rw [List.lookup_cons, h]; exact k
theorem hr_vis (h : Has σ x d) : HasR (vis σ) x d := by obtain ⟨fr, h⟩ := h; unfold HasR; rw [lookup_vis, h]; rfl
theorem h_eq : Has (setv σ x (fr, d)) x d := ⟨fr, by rw [lookup_setv, if_pos rfl]⟩
theorem h_ne (h : (x == y) = false) (k : Has σ x d) : Has (setv σ y v) x d := let ⟨fr, k⟩ := k; ⟨fr, by rw [lookup_setv, if_neg (by rintro rfl; rw [beq_self_eq_true] at h; cases h)]; exact k⟩
theorem h_fr (k : Has σ x d) : Has (freeze ns σ) x d := let ⟨fr, k⟩ := k; ⟨_, by rw [lookup_freeze, k]; rfl⟩
theorem h_st (k : Has σ x d) : Has (settle e ns σ) x d := by unfold settle; split; exact k; exact h_fr k
theorem h_cons : Has ((x, (fr, d)) :: σ) x d := ⟨fr, by rw [List.lookup_cons, beq_self_eq_true]⟩
theorem h_consn (h : (x == y) = false) (k : Has σ x d) : Has ((y, v) :: σ) x d := let ⟨fr, k⟩ := k; ⟨fr, by rw [List.lookup_cons, h]; exact k⟩
theorem h_own (k : OwnV σ x d) : Has σ x d := ⟨true, k⟩
theorem w_eq : OwnV (setv σ x (true, d)) x d := by unfold OwnV; rw [lookup_setv, if_pos rfl]
theorem w_ne (h : (x == y) = false) (k : OwnV σ x d) : OwnV (setv σ y v) x d := by unfold OwnV; rw [lookup_setv, if_neg (by rintro rfl; rw [beq_self_eq_true] at h; cases h)]; exact k
theorem w_fr (h : ns.contains x = false) (k : OwnV σ x d) : OwnV (freeze ns σ) x d := by unfold OwnV; rw [lookup_freeze, k]; show some (true && !ns.contains x, d) = _; rw [h]; rfl
theorem w_st (h : ns.contains x = false) (k : OwnV σ x d) : OwnV (settle e ns σ) x d := by unfold settle; split; exact k; exact w_fr h k
theorem o_for {src : ME} {z : String} {body r : List MS} {its : List D} {σ' : St} {R : Fl → St → Prop} (hs : evE cf (vis σ) src = some d) (hi : d.items = some its) (h : forD (bodyF cf body z) its (freeze src.names σ) = some (.next, σ')) (k : Out cf r σ' R) : Out cf (.for_ z src body :: r) σ R := by
  unfold Out; rw [x_for, hs]; simp only [hi, h, thenS_next]; exact k
theorem v_neg1 : evE cf ρ (.neg (.int 1)) = some (.int (-1)) := rfl
theorem v_var (h : HasR ρ x d) : evE cf ρ (.var x) = some d := h
end

set_option maxRecDepth 100000
set_option maxHeartbeats 4000000
noncomputable def X0 : CF := ⟨fun _ _ => none, fun _ => none⟩
noncomputable def fn_before : Fn := ⟨["one", "other"], [
    .ite (.cmp .NotEq (.isi (.var "one") "str") (.isi (.var "other") "str")) [.ret (.isi (.var "other") "str")] [],
    .ret (.cmp .Lt (.var "one") (.var "other"))]⟩
noncomputable def fn_law_before : Fn := ⟨["_law_one", "_law_other"], [
    .ite (.bop .And [.isi (.var "_law_one") "str", .isi (.var "_law_other") "str"]) [.ret (.cmp .Lt (.var "_law_one") (.var "_law_other"))] [],
    .ite (.bop .Or [.isi (.var "_law_one") "str", .isi (.var "_law_other") "str"]) [.ret (.isi (.var "_law_other") "str")] [],
    .ret (.cmp .Lt (.var "_law_one") (.var "_law_other"))]⟩
noncomputable def fn_law_alike : Fn := ⟨["_law_one", "_law_other"], [
    .ite (.bop .Or [.isi (.var "_law_one") "str", .isi (.var "_law_other") "str"]) [.ret (.bop .And [.isi (.var "_law_one") "str", .isi (.var "_law_other") "str", .cmp .Eq (.var "_law_one") (.var "_law_other")])] [],
    .ret (.cmp .Eq (.var "_law_one") (.var "_law_other"))]⟩
noncomputable def fn_law_sign_by : Fn := ⟨["_law_cell"], [
    .assign "_law_some" (.str " !\"#$&'()*+,-./0123456789:;<=>?@ABCDEFGHIJKLMNOPQRSTUVWXYZ[\\]^_`"),
    .assign "_law_some" (.bin .Add (.var "_law_some") (.str "abcdefghijklmnopqrstuvwxyz{|}~")),
    .ret (.sub (.var "_law_some") (.bin .Mod (.var "_law_cell") (.int 94)))]⟩
noncomputable def fn_law_cell_at : Fn := ⟨["_law_script", "_law_k"], [
    .ite (.cmp .Lt (.var "_law_k") (.blt "len" [.var "_law_script"])) [.ret (.sub (.var "_law_script") (.var "_law_k"))] [],
    .ret (.int 0)]⟩
noncomputable def fn_law_thing_by : Fn := ⟨["_law_cell"], [
    .assign "_law_way" (.bin .Mod (.var "_law_cell") (.int 9)),
    .assign "_law_rest" (.bin .FloorDiv (.var "_law_cell") (.int 9)),
    .ite (.cmp .Lt (.var "_law_way") (.int 4)) [.ret (.bin .Sub (.bin .Mod (.var "_law_rest") (.int 4)) (.int 1))] [],
    .ite (.cmp .Eq (.var "_law_way") (.int 4)) [.ret (.bin .Sub (.bin .Mod (.var "_law_rest") (.int 2000001)) (.int 1000000))] [],
    .ite (.cmp .Eq (.var "_law_way") (.int 5)) [.ret (.sub (.lst [.str "a", .str "b", .str "1", .str "0", .str "-1", .str "col", .str "is", .str "count"]) (.bin .Mod (.var "_law_rest") (.int 8)))] [],
    .ite (.cmp .Eq (.var "_law_way") (.int 6)) [.ret (.bin .Mult (.call "_law_sign_by" [.var "_law_rest"]) (.bin .Mod (.bin .FloorDiv (.var "_law_rest") (.int 94)) (.int 100)))] [],
    .ite (.cmp .Eq (.var "_law_way") (.int 7)) [.ret (.bin .Add (.bin .Sub (.bin .Mod (.bin .Pow (.bin .Add (.bin .Mod (.var "_law_rest") (.bin .Pow (.int 10) (.int 60))) (.int 3)) (.int 9)) (.bin .Sub (.bin .Mult (.int 2) (.bin .Pow (.int 10) (.int 60))) (.int 1))) (.bin .Pow (.int 10) (.int 60))) (.int 1))] [],
    .assign "_law_word" (.sl (.str "any word") .none (.bin .Mod (.var "_law_rest") (.int 9))),
    .assign "_law_at" (.bin .Mod (.bin .FloorDiv (.var "_law_rest") (.int 9)) (.bin .Add (.blt "len" [.var "_law_word"]) (.int 1))),
    .ret (.bin .Add (.bin .Add (.sl (.var "_law_word") .none (.var "_law_at")) (.call "_law_sign_by" [.bin .FloorDiv (.var "_law_rest") (.int 81)])) (.sl (.var "_law_word") (.var "_law_at") .none))]⟩
noncomputable def fn_law_mixed : Fn := ⟨["_law_cell", "_law_k"], [
    .ret (.bin .Mod (.bin .Pow (.bin .Mod (.bin .Add (.bin .Mult (.var "_law_cell") (.int 48271)) (.bin .Mult (.bin .Add (.var "_law_k") (.int 1)) (.int 1299721))) (.int 2147483647)) (.int 5)) (.int 2147483647))]⟩
structure BG (P : List (String × Fn)) : Prop where
  sign : P.lookup "_law_sign_by" = some fn_law_sign_by
  cell : P.lookup "_law_cell_at" = some fn_law_cell_at
  thing : P.lookup "_law_thing_by" = some fn_law_thing_by
  mixed : P.lookup "_law_mixed" = some fn_law_mixed
structure BC (P : List (String × Fn)) : Prop where
  before : P.lookup "before" = some fn_before
  lalike : P.lookup "_law_alike" = some fn_law_alike
  lbefore : P.lookup "_law_before" = some fn_law_before
local macro_rules | `(tactic| walk_at "h") => `(tactic| repeat' (first | (with_reducible (first | assumption | exact h_eq | exact hr_eq | exact w_eq | exact h_cons | apply h_own; assumption)) | ((with_reducible (first | apply h_ne | apply hr_ne | apply w_ne | apply h_consn | apply w_st | apply w_fr)); (focus (exact rfl))) | (with_reducible (first | apply hr_vis | apply h_st | apply h_fr))))
local macro_rules | `(tactic| walk_at "v") => `(tactic| repeat' (first | (with_reducible (first | assumption | apply e_int | apply e_str | apply e_bool | apply e_none | apply es_nil)) | ((with_reducible apply v_var); (focus (walk_at "h"; done))) | ((with_reducible apply v_var); exact rfl) | ((with_reducible refine (e_glob _ _ _).trans ?_); (with_reducible assumption)) | (with_reducible (first | exact v_neg1 | apply v_cons | apply v_bin | exact b_add | exact b_sb | apply b_mod | apply b_div)) | ((with_reducible apply b_mulL); (focus decide)) | (with_reducible (first | apply b_mul | apply v_cmp | apply v_sub | apply v_sl | apply v_not | apply v_isi | apply v_blt | apply v_tup | apply v_lst | apply v_lcp | apply v_callE | apply v_call | apply v_bop1)) | ((with_reducible (first | apply v_and | apply v_or)); rotate_left; intro _; rotate_right) | (with_reducible apply v_map) | ((with_reducible (first | show cmpD _ _ _ = _ | show truth _ = _ | show isiD _ _ = _ | show frF _ _ = _ | show isCallE _ = _ | show bltD _ _ = _ | show lstD _ = _ | show subD _ _ = _)); exact rfl) | decide | exact Nat.le_of_ble_eq_true rfl))
local macro_rules | `(tactic| walk_at "a") => `(tactic| first | ((with_reducible apply p_cell); (focus (walk_at "v"; done)); (with_reducible assumption)) | ((with_reducible apply p_assign); walk_at "v"; done))
local macro_rules | `(tactic| walk_at "i") => `(tactic| ((focus (walk_at "v"; done)); (focus (exact rfl)); (focus (intro hh; first | exact no_tf hh (by assumption) | exact absurd hh (by decide) | skip)); rotate_left; (focus (intro hh; first | exact no_tf (by assumption) hh | exact absurd hh (by decide) | skip))))
local macro_rules | `(tactic| walk_at "s") => `(tactic| repeat' (first | ((first | apply r_step | apply q_step | apply o_step); (focus (walk_at "a"))) | ((first | apply r_if | apply q_if | apply o_if); walk_at "i") | ((first | apply r_retv | apply q_retv); (focus (exact rfl))) | ((first | apply r_ret | apply q_ret | apply o_ret); (focus (walk_at "v"; done)); (focus (exact rfl))) | apply o_nil))
noncomputable def signs : Str := Str.ofString " !\"#$&'()*+,-./0123456789:;<=>?@ABCDEFGHIJKLMNOPQRSTUVWXYZ[\\]^_`" ++ Str.ofString "abcdefghijklmnopqrstuvwxyz{|}~"
theorem signs_len : signs.length = 94 := by decide +kernel
theorem emod_nat (c : Int) {k : Nat} (h : 0 < k) : ∃ m : Nat, c % (k : Int) = m ∧ m < k := ⟨(c % k).toNat, (Int.toNat_of_nonneg (Int.emod_nonneg _ (by omega))).symm, by have := Int.emod_nonneg c (b := (k : Int)) (by omega); have := Int.emod_lt_of_pos c (b := (k : Int)) (by omega); omega⟩
section
variable {P : List (String × Fn)} {X : CF}
theorem sign_by (B : BG P) (n : Nat) (c : Int) : ∃ x : Str, x.length = 1 ∧ (callN P X (n + 1)).call "_law_sign_by" [.int c] = some (.str x, false) := by
  have h1 : (Str.ofString " !\"#$&'()*+,-./0123456789:;<=>?@ABCDEFGHIJKLMNOPQRSTUVWXYZ[\\]^_`").length + (Str.ofString "abcdefghijklmnopqrstuvwxyz{|}~").length ≤ big := by decide +kernel
  have h2 : 0 ≤ c % 94 ∧ c % 94 < (signs.length : Int) ∧ signs.length ≤ big := by rw [signs_len]; refine ⟨by omega, by omega, by decide⟩
  refine ⟨charAt signs (c % 94).toNat, rfl, run_call B.sign rfl ?_⟩
  have q : binD .Add (.str (Str.ofString " !\"#$&'()*+,-./0123456789:;<=>?@ABCDEFGHIJKLMNOPQRSTUVWXYZ[\\]^_`")) (.str (Str.ofString "abcdefghijklmnopqrstuvwxyz{|}~")) = some (.str signs) := bin_ss h1
  have q2 := sub_s h2
  walk_at "s"
noncomputable def alikeV (a b : D) : Bool := cellEq a b
noncomputable def beforeV (a b : D) : Bool := match a with
  | .int i => (match b with | .int j => decide (i < j) | _ => true)
  | .str x => (match b with | .str y => decide (x.cps.toList < y.cps.toList) | _ => false)
  | _ => false
theorem cellCases {a : D} {C : D → Prop} (ha : a.isCell = true) (hi : ∀ i, C (.int i)) (hs : ∀ x, C (.str x)) : C a := by
  cases a <;> first | exact hi _ | exact hs _ | cases ha
theorem lalike_eq (B : BC P) (n : Nat) (a b : D) (ha : a.isCell = true) (hb : b.isCell = true) : (callN P X (n + 1)).call "_law_alike" [a, b] = some (.bool (alikeV a b), false) := by
  refine run_call B.lalike rfl ?_
  cases a <;> first | (cases ha; done) | (cases b <;> first | (cases hb; done) | rfl)
theorem before_eq (B : BC P) (n : Nat) (a b : D) (ha : a.isCell = true) (hb : b.isCell = true) : (callN P X (n + 1)).call "before" [a, b] = some (.bool (beforeV a b), false) := by
  refine run_call B.before rfl ?_
  cases a <;> first | (cases ha; done) | (cases b <;> first | (cases hb; done) | rfl)
theorem lbefore_eq (B : BC P) (n : Nat) (a b : D) (ha : a.isCell = true) (hb : b.isCell = true) : (callN P X (n + 1)).call "_law_before" [a, b] = some (.bool (beforeV a b), false) := by
  refine run_call B.lbefore rfl ?_
  cases a <;> first | (cases ha; done) | (cases b <;> first | (cases hb; done) | rfl)
theorem cell_at (B : BG P) (n : Nat) (ns : List Int) (k : Nat) : (callN P X (n + 1)).call "_law_cell_at" [.list (ns.map .int), .int k] = some (.int (ns.getD k 0), false) := by
  have hl : (ns.map D.int).length = ns.length := List.length_map ..
  refine run_call B.cell rfl ?_
  by_cases h : k < ns.length
  · have h1 : decide ((k : Int) < (ns.map D.int).length) = true := decide_eq_true (by omega)
    have h2 : subD (.list (ns.map .int)) (.int k) = some (.int (ns.getD k 0)) := sub_l (by omega) (by simp [h])
    walk_at "s"
  · have h1 : decide ((k : Int) < (ns.map D.int).length) = false := decide_eq_false (by omega)
    have h2 : ns.getD k 0 = 0 := by simp [h]
    rw [h2]
    walk_at "s"
theorem mixed (B : BG P) (n : Nat) (c k : Int) : ∃ r : Int, 0 ≤ r ∧ (callN P X (n + 1)).call "_law_mixed" [.int c, .int k] = some (.int r, false) := by
  have hp : -powLim < (c * 48271 + (k + 1) * 1299721) % 2147483647 ∧ (c * 48271 + (k + 1) * 1299721) % 2147483647 < powLim ∧ (0 : Int) ≤ 5 ∧ (5 : Int) ≤ 100 := by
    have h1 : (2147483647 : Int) < powLim := by decide +kernel
    generalize powLim = pl at *
    generalize c * 48271 + (k + 1) * 1299721 = z
    omega
  have q := b_pow hp
  refine ⟨((c * 48271 + (k + 1) * 1299721) % 2147483647) ^ (5 : Int).toNat % 2147483647, Int.emod_nonneg _ (by decide), run_call B.mixed rfl ?_⟩
  walk_at "s"
end
noncomputable def Good (d : D) : Prop := (∃ i : Int, d = .int i ∧ -(10 ^ 61) < i ∧ i < 10 ^ 61) ∨ ∃ x : Str, d = .str x ∧ x.length ≤ 200
theorem Good.cell {d : D} (h : Good d) : d.isCell = true := by rcases h with ⟨i, rfl, _⟩ | ⟨x, rfl, _⟩ <;> rfl

theorem len_append (x y : Str) : (x ++ y).length = x.length + y.length := by
  show (x.cps ++ y.cps).size = _
  simp [Str.length]
theorem mul_len {x : Str} (hx : x.length = 1) {n : Int} (h0 : 0 ≤ n) (h1 : n ≤ 100) : (Txt.mul x n).length ≤ 100 := by
  unfold Txt.mul
  split
  · decide
  · split
    · omega
    · show ((List.replicate n.toNat x.cps).foldl (· ++ ·) #[]).size ≤ 100
      have : ∀ (k : Nat) (a : Array Nat), ((List.replicate k x.cps).foldl (· ++ ·) a).size = a.size + k := by
        intro k
        induction k with
        | zero => intro a; simp
        | succ k ih =>
          intro a
          rw [List.replicate_succ, List.foldl_cons, ih]
          have : x.cps.size = 1 := hx
          simp; omega
      rw [this]; simp; omega

theorem slD_hi (x : Str) (j : Int) (h : x.length ≤ big) : ∃ W : Str, W.length ≤ x.length ∧ slD (.str x) .none (.int j) = some (.str W) := ⟨_, Txt.slice_le _ _ _, if_pos h⟩
theorem slD_lo (x : Str) (j : Int) (h : x.length ≤ big) : ∃ W : Str, W.length ≤ x.length ∧ slD (.str x) (.int j) .none = some (.str W) := ⟨_, Txt.slice_le _ _ _, if_pos h⟩
noncomputable def T60 : Int := 10 ^ 60
theorem list_pick {l : List D} (hn : 0 < l.length) (c : Int) {R : D → Prop} (h : ∀ d ∈ l, R d) : ∃ d, R d ∧ subD (.list l) (.int (c % (l.length : Int))) = some d := by
  obtain ⟨m, e, hm⟩ := emod_nat c hn
  rw [e]
  exact ⟨l[m], h _ (List.getElem_mem hm), sub_l hm (List.getElem?_eq_getElem hm)⟩
theorem thing_by {P : List (String × Fn)} {X : CF} (B : BG P) (n : Nat) (c : Int) : ∃ d, Good d ∧ (callN P X (n + 2)).call "_law_thing_by" [.int c] = some (d, false) := by
  obtain ⟨x, hx, hs⟩ := sign_by (X := X) B n (c / 9)
  obtain ⟨x', hx', hs'⟩ := sign_by (X := X) B n (c / 9 / 81)
  obtain ⟨y, ⟨y', rfl, hy⟩, q5⟩ := list_pick (l := [.str (Str.ofString "a"), .str (Str.ofString "b"), .str (Str.ofString "1"), .str (Str.ofString "0"), .str (Str.ofString "-1"), .str (Str.ofString "col"), .str (Str.ofString "is"), .str (Str.ofString "count")]) (by decide) (c / 9) (R := fun d => ∃ x : Str, d = .str x ∧ x.length ≤ 200) (by
    intro d hd
    simp only [List.mem_cons, List.not_mem_nil, or_false] at hd
    rcases hd with rfl | rfl | rfl | rfl | rfl | rfl | rfl | rfl <;> exact ⟨_, rfl, by decide +kernel⟩)
  have q5' : subD (.list [.str (Str.ofString "a"), .str (Str.ofString "b"), .str (Str.ofString "1"), .str (Str.ofString "0"), .str (Str.ofString "-1"), .str (Str.ofString "col"), .str (Str.ofString "is"), .str (Str.ofString "count")]) (.int (c / 9 % 8)) = some (.str y') := q5
  have hm : 0 ≤ c / 9 / 94 % 100 ∧ c / 9 / 94 % 100 ≤ 100 := by omega
  have q6 := bin_sm (u := x) (k := c / 9 / 94 % 100) ⟨hm.1, Int.le_trans hm.2 (by decide), by rw [hx]; decide⟩
  have p1 : binD .Pow (.int 10) (.int 60) = some (.int T60) := b_pow (i := 10) (j := 60) (by decide +kernel)
  have t0 : 0 < T60 := by decide +kernel
  have hz : 0 ≤ c / 9 % T60 ∧ c / 9 % T60 < T60 := ⟨Int.emod_nonneg _ (by decide +kernel), Int.emod_lt_of_pos _ t0⟩
  have p2 : binD .Pow (.int (c / 9 % T60 + 3)) (.int 9) = some (.int ((c / 9 % T60 + 3) ^ (9 : Int).toNat)) := b_pow (by
    have h2 : T60 + 3 < powLim := by decide +kernel
    generalize powLim = pl at *
    omega)
  have p3 : binD .Mult (.int 2) (.int T60) = some (.int (2 * T60)) := b_mulL (by decide)
  have t1 : 0 < 2 * T60 - 1 := by omega
  obtain ⟨W, hW, w1⟩ := slD_hi (Str.ofString "any word") (c / 9 % 9) (by decide +kernel)
  have hW8 : W.length ≤ 8 := Nat.le_trans hW (by decide +kernel)
  have hWb : W.length ≤ big := Nat.le_trans hW8 (by decide)
  have w2 := len_s hWb
  have w3 : (0 : Int) < (W.length : Int) + 1 := by omega
  obtain ⟨U, hU, w4⟩ := slD_hi W (c / 9 / 9 % ((W.length : Int) + 1)) hWb
  obtain ⟨V, hV, w5⟩ := slD_lo W (c / 9 / 9 % ((W.length : Int) + 1)) hWb
  have hb0 : (16 : Nat) + 1 ≤ big := by decide
  have w6 := bin_ss (u := U) (v := x') (by omega)
  have w7 := bin_ss (u := U ++ x') (v := V) (by rw [len_append]; omega)
  have g1 : -(10 : Int) ^ 61 < c / 9 % 4 - 1 ∧ c / 9 % 4 - 1 < 10 ^ 61 := by omega
  have g2 : -(10 : Int) ^ 61 < c / 9 % 2000001 - 1000000 ∧ c / 9 % 2000001 - 1000000 < 10 ^ 61 := by omega
  have g3 : -(10 : Int) ^ 61 < (c / 9 % T60 + 3) ^ (9 : Int).toNat % (2 * T60 - 1) - T60 + 1 ∧ (c / 9 % T60 + 3) ^ (9 : Int).toNat % (2 * T60 - 1) - T60 + 1 < 10 ^ 61 := by
    have h1 := Int.emod_nonneg ((c / 9 % T60 + 3) ^ (9 : Int).toNat) (b := 2 * T60 - 1) (by omega)
    have h2 := Int.emod_lt_of_pos ((c / 9 % T60 + 3) ^ (9 : Int).toNat) t1
    generalize (c / 9 % T60 + 3) ^ (9 : Int).toNat % (2 * T60 - 1) = v at *
    have e2 : (10 : Int) ^ 61 = 10 * T60 := by decide +kernel
    rw [e2]
    generalize T60 = tt at *
    omega
  have g4 : (U ++ x' ++ V).length ≤ 200 := by rw [len_append, len_append]; omega
  have g5 := Nat.le_trans (mul_len hx hm.1 hm.2) (show 100 ≤ 200 by decide)
  have key : Rex (callN P X (n + 1)) fn_law_thing_by.body [("_law_cell", (false, .int c))] fun d fr => Good d ∧ fr = false := by
    clear hm hz hW hW8 hWb hU hV hb0 hx hx' q5
    walk_at "s"
    all_goals first
      | exact ⟨.inl ⟨_, rfl, g1⟩, rfl⟩
      | exact ⟨.inl ⟨_, rfl, g2⟩, rfl⟩
      | exact ⟨.inr ⟨_, rfl, hy⟩, rfl⟩
      | exact ⟨.inr ⟨_, rfl, g5⟩, rfl⟩
      | exact ⟨.inl ⟨_, rfl, g3⟩, rfl⟩
      | exact ⟨.inr ⟨_, rfl, g4⟩, rfl⟩
  obtain ⟨d, fr, ⟨hd, rfl⟩, hr⟩ := rex_call (X := X) (n := n + 1) (args := [.int c]) B.thing rfl key
  exact ⟨d, hd, hr⟩
theorem ofS_eq (a b : String) : (Str.ofString a = Str.ofString b) = (a = b) := propext ⟨ofString_inj, fun h => by rw [h]⟩
theorem ofS_beq (a b : String) : (Str.ofString a == Str.ofString b) = (a == b) := by
  rw [Bool.eq_iff_iff, beq_iff_eq, beq_iff_eq, ofS_eq]
theorem idx_nat {p n : Nat} (h : p < n) : idx (p : Int) n = some p := by
  unfold idx
  have : (p : Int) < (n : Int) := by omega
  simp [this]
theorem str_tri (x y : Str) : (decide (y.cps.toList < x.cps.toList) || (x == y)) = !decide (x.cps.toList < y.cps.toList) := by
  rw [Bool.eq_iff_iff]
  simp only [Bool.or_eq_true, decide_eq_true_eq, beq_iff_eq, Bool.not_eq_true', decide_eq_false_iff_not]
  constructor
  · rintro (h | rfl)
    · exact List.lt_asymm h
    · exact List.lt_irrefl _
  · intro h
    by_cases h2 : y.cps.toList < x.cps.toList
    · exact .inl h2
    · refine .inr ?_
      have : x.cps.toList = y.cps.toList := List.le_antisymm (List.not_lt.mp h2) (List.not_lt.mp h)
      cases x; cases y
      congr 1
      exact Array.toList_inj.mp this
theorem tri {a b : D} (ha : a.isCell = true) (hb : b.isCell = true) : (beforeV b a || alikeV a b) = !beforeV a b := by
  cases a <;> first | (cases ha; done) | (cases b <;> first | (cases hb; done) | rfl | exact str_tri _ _ | skip)
  rename_i i j
  show (decide (j < i) || i == j) = !decide (i < j)
  rw [Bool.eq_iff_iff]; simp; omega
theorem alike_comm {a b : D} (ha : a.isCell = true) (hb : b.isCell = true) : alikeV a b = alikeV b a := by
  cases a <;> first | (cases ha; done) | (cases b <;> first | (cases hb; done) | rfl | exact Bool.beq_comm)
theorem Good.getD {row : List D} (hr : ∀ d ∈ row, Good d) {p : Nat} (h : p < row.length) : Good (row.getD p .none) := by
  rw [List.getD_eq_getElem?_getD, List.getElem?_eq_getElem h]
  exact hr _ (List.getElem_mem h)
theorem leaf_t {k : Bool} {A B : Prop} (hh : k = true) (h : A) : if k = true then A else B := by rw [if_pos hh]; exact h
theorem leaf_f {k : Bool} {A B : Prop} (hh : k = false) (h : B) : if k = true then A else B := by rw [if_neg (by rw [hh]; exact Bool.false_ne_true)]; exact h
theorem r_norm {cf : CF} {r : List MS} {σ σ' : St} {d : D} {fr : Bool} (h : σ = σ') (k : Run cf r σ' d fr) : Run cf r σ d fr := h ▸ k
theorem getD_at {row : List D} {p : Nat} (h : p < row.length) : subD (.tup row) (.int p) = some (row.getD p .none) := sub_t h (by rw [List.getD_eq_getElem?_getD, List.getElem?_eq_getElem h]; rfl)

set_option maxRecDepth 100000
set_option maxHeartbeats 400000
noncomputable def fn_told_of : Fn := ⟨["one", "rows"], [
    .assign "word" (.sub (.var "one") (.int 0)),
    .assign "place" (.sub (.var "one") (.int 1)),
    .ite (.cmp .Eq (.var "word") (.str "count")) [.ret (.blt "len" [.var "rows"])] [],
    .ite (.cmp .Eq (.var "word") (.str "sum")) [.ret (.blt "sum" [.comp (.sub (.var "row") (.var "place")) "row" (.var "rows") [.not (.isi (.sub (.var "row") (.var "place")) "str")]])] [],
    .assign "found" (.sub (.sub (.var "rows") (.int 0)) (.var "place")),
    .for_ "row" (.var "rows") [.ite (.bop .And [.cmp .Eq (.var "word") (.str "least"), .call "before" [.sub (.var "row") (.var "place"), .var "found"]]) [.assign "found" (.sub (.var "row") (.var "place"))] [], .ite (.bop .And [.cmp .Eq (.var "word") (.str "most"), .call "before" [.var "found", .sub (.var "row") (.var "place")]]) [.assign "found" (.sub (.var "row") (.var "place"))] []],
    .ret (.var "found")]⟩
noncomputable def fn_law_cell_is : Fn := ⟨["_law_found", "_law_due"], [
    .ite (.bop .Or [.isi (.var "_law_due") "str", .isi (.var "_law_found") "bool"]) [.ret (.bop .And [.isi (.var "_law_found") "str", .isi (.var "_law_due") "str", .cmp .Eq (.var "_law_found") (.var "_law_due")])] [],
    .ret (.bop .And [.isi (.var "_law_found") "int", .cmp .Eq (.var "_law_found") (.var "_law_due")])]⟩
noncomputable def fn_grouped : Fn := ⟨["rows", "places", "sums"], [
    .assign "groups" (.dct [] []),
    .grp,
    .assign "found" (.lst []),
    .for_ "own" (.var "groups") [.assign "told" (.comp (.call "told_of" [.var "one", .sub (.var "groups") (.var "own")]) "one" (.var "sums") []), .append "found" (.bin .Add (.var "own") (.blt "tuple" [.var "told"]))],
    .ret (.var "found")]⟩
noncomputable def fn_cells_at : Fn := ⟨["row", "places"], [
    .ret (.blt "tuple" [.comp (.sub (.var "row") (.var "place")) "place" (.var "places") []])]⟩
noncomputable def fn_law_right : Fn := ⟨["_law_word", "_law_found", "_law_cells"], [
    .ite (.cmp .Eq (.var "_law_word") (.str "count")) [.ret (.call "_law_cell_is" [.var "_law_found", .blt "len" [.var "_law_cells"]])] [],
    .ite (.cmp .Eq (.var "_law_word") (.str "sum")) [.ret (.call "_law_cell_is" [.var "_law_found", .blt "sum" [.comp (.var "_law_cell") "_law_cell" (.var "_law_cells") [.not (.isi (.var "_law_cell") "str")]]])] [],
    .ite (.not (.comp (.var "_law_cell") "_law_cell" (.var "_law_cells") [.call "_law_cell_is" [.var "_law_found", .var "_law_cell"]])) [.ret (.bool false)] [],
    .ite (.cmp .Eq (.var "_law_word") (.str "least")) [.ret (.not (.comp (.var "_law_cell") "_law_cell" (.var "_law_cells") [.call "_law_before" [.var "_law_cell", .var "_law_found"]]))] [],
    .ret (.not (.comp (.var "_law_cell") "_law_cell" (.var "_law_cells") [.call "_law_before" [.var "_law_found", .var "_law_cell"]]))]⟩
noncomputable def fn_law_row_is : Fn := ⟨["_law_found", "_law_due"], [
    .ite (.bop .Or [.not (.isi (.var "_law_found") "tuple"), .cmp .NotEq (.blt "len" [.var "_law_found"]) (.blt "len" [.var "_law_due"])]) [.ret (.bool false)] [],
    .ret (.not (.comp (.var "_law_k") "_law_k" (.blt "range" [.blt "len" [.var "_law_due"]]) [.not (.call "_law_cell_is" [.sub (.var "_law_found") (.var "_law_k"), .sub (.var "_law_due") (.var "_law_k")])]))]⟩
noncomputable def fn_stepped : Fn := ⟨["query", "rows"], [
    .assign "word" (.sub (.var "query") (.int 0)),
    .ite (.cmp .Eq (.var "word") (.str "sieve")) [.bad] [],
    .ite (.cmp .Eq (.var "word") (.str "pick")) [.ret (.comp (.call "cells_at" [.var "row", .sub (.var "query") (.int 1)]) "row" (.var "rows") [])] [],
    .ite (.cmp .Eq (.var "word") (.str "group")) [.ret (.call "grouped" [.var "rows", .sub (.var "query") (.int 1), .sub (.var "query") (.int 2)])] [],
    .ite (.cmp .Eq (.var "word") (.str "order")) [.bad] [],
    .ite (.cmp .Eq (.var "word") (.str "once")) [.bad] [],
    .ret (.sl (.var "rows") .none (.sub (.var "query") (.int 1)))]⟩
noncomputable def fn_law_rows_by : Fn := ⟨["_law_cell", "_law_wide", "_law_many"], [
    .assign "_law_rows" (.lst []),
    .for_ "_law_at" (.blt "range" [.var "_law_many"]) [.assign "_law_like" (.bin .Sub (.var "_law_at") (.bin .FloorDiv (.bin .Mod (.var "_law_at") (.int 3)) (.int 2))), .ite (.cmp .Eq (.bin .Mod (.var "_law_at") (.int 5)) (.int 4)) [.assign "_law_like" (.int 0)] [], .append "_law_rows" (.blt "tuple" [.comp (.call "_law_thing_by" [.call "_law_mixed" [.var "_law_cell", .bin .Add (.bin .Mult (.int 13) (.var "_law_like")) (.var "_law_k")]]) "_law_k" (.blt "range" [.var "_law_wide"]) []])],
    .ret (.var "_law_rows")]⟩
noncomputable def fn_law_rows_of : Fn := ⟨["_law_cell"], [
    .ret (.sub (.lst [.int 5, .int 7, .int 4, .int 8, .int 6, .int 2, .int 0]) (.bin .Mod (.bin .FloorDiv (.var "_law_cell") (.int 5)) (.int 7)))]⟩
noncomputable def fn_law_fits : Fn := ⟨["_law_found", "_law_head", "_law_group", "_law_sums"], [
    .ite (.bop .Or [.not (.isi (.var "_law_found") "tuple"), .cmp .NotEq (.blt "len" [.var "_law_found"]) (.bin .Add (.blt "len" [.var "_law_head"]) (.blt "len" [.var "_law_sums"]))]) [.ret (.bool false)] [],
    .ite (.not (.call "_law_row_is" [.sl (.var "_law_found") .none (.blt "len" [.var "_law_head"]), .var "_law_head"])) [.ret (.bool false)] [],
    .for_ "_law_k" (.blt "range" [.blt "len" [.var "_law_sums"]]) [.ite (.not (.call "_law_right" [.sub (.sub (.var "_law_sums") (.var "_law_k")) (.int 0), .sub (.var "_law_found") (.bin .Add (.blt "len" [.var "_law_head"]) (.var "_law_k")), .comp (.sub (.var "_law_row") (.sub (.sub (.var "_law_sums") (.var "_law_k")) (.int 1))) "_law_row" (.var "_law_group") []])) [.ret (.bool false)] []],
    .ret (.bool true)]⟩
noncomputable def fn_law_rows_are : Fn := ⟨["_law_found", "_law_due"], [
    .ite (.bop .Or [.not (.isi (.var "_law_found") "list"), .cmp .NotEq (.blt "len" [.var "_law_found"]) (.blt "len" [.var "_law_due"])]) [.ret (.bool false)] [],
    .ret (.not (.comp (.var "_law_k") "_law_k" (.blt "range" [.blt "len" [.var "_law_due"]]) [.not (.call "_law_row_is" [.sub (.var "_law_found") (.var "_law_k"), .sub (.var "_law_due") (.var "_law_k")])]))]⟩
noncomputable def fn_answer : Fn := ⟨["query", "tables"], [
    .assign "word" (.sub (.var "query") (.int 0)),
    .ite (.cmp .NotIn (.var "word") (.glob "STEPS")) [.bad] [],
    .ite (.cmp .Eq (.var "word") (.str "table")) [.ite (.cmp .NotIn (.sub (.var "query") (.int 1)) (.var "tables")) [.bad] [], .ret (.lcp (.sub (.var "tables") (.sub (.var "query") (.int 1))))] [],
    .ite (.cmp .Eq (.var "word") (.str "join")) [.assign "first" (.call "answer" [.sub (.var "query") (.int 1), .var "tables"]), .bad] [],
    .ite (.cmp .Eq (.var "word") (.str "both")) [.assign "first" (.call "answer" [.sub (.var "query") (.int 1), .var "tables"]), .ret (.bin .Add (.var "first") (.call "answer" [.sub (.var "query") (.int 2), .var "tables"]))] [],
    .ret (.call "stepped" [.var "query", .call "answer" [.sub (.var "query") (.neg (.int 1)), .var "tables"]])]⟩
noncomputable def fn_law_table_by : Fn := ⟨["_law_script", "_law_k"], [
    .assign "_law_cell" (.call "_law_cell_at" [.var "_law_script", .var "_law_k"]),
    .assign "_law_many" (.call "_law_rows_of" [.var "_law_cell"]),
    .ite (.cmp .Eq (.bin .Mod (.bin .FloorDiv (.var "_law_cell") (.int 35)) (.int 6)) (.int 1)) [.assign "_law_many" (.bin .Mod (.bin .FloorDiv (.var "_law_cell") (.int 210)) (.int 70))] [],
    .ret (.call "_law_rows_by" [.call "_law_cell_at" [.var "_law_script", .bin .Add (.var "_law_k") (.int 1)], .call "_law_wide_by" [.var "_law_cell"], .var "_law_many"])]⟩
noncomputable def fn_law_wide_by : Fn := ⟨["_law_cell"], [
    .ite (.cmp .Eq (.bin .Mod (.bin .FloorDiv (.var "_law_cell") (.int 35)) (.int 6)) (.int 2)) [.ret (.bin .Mod (.bin .FloorDiv (.var "_law_cell") (.int 210)) (.int 13))] [],
    .ret (.sub (.lst [.int 2, .int 1, .int 3, .int 2, .int 0]) (.bin .Mod (.var "_law_cell") (.int 5)))]⟩
noncomputable def fn_law : Fn := ⟨["_law_script"], [
    .assign "_law_wide" (.call "_law_wide_by" [.call "_law_cell_at" [.var "_law_script", .int 0]]),
    .assign "_law_rows" (.call "_law_table_by" [.var "_law_script", .int 0]),
    .assign "_law_cell" (.call "_law_cell_at" [.var "_law_script", .int 2]),
    .assign "_law_more" (.call "_law_cell_at" [.var "_law_script", .int 3]),
    .assign "_law_places" (.comp (.bin .Mod (.call "_law_mixed" [.var "_law_cell", .var "_law_k"]) (.blt "max" [.int 1, .var "_law_wide"])) "_law_k" (.blt "range" [.bin .Mult (.bin .Add (.bin .Mod (.var "_law_cell") (.int 4)) (.bin .Mult (.bin .FloorDiv (.bin .Mod (.bin .FloorDiv (.var "_law_cell") (.int 4)) (.int 9)) (.int 8)) (.int 9))) (.blt "min" [.int 1, .var "_law_wide"])]) []),
    .assign "_law_words" (.lst [.str "count", .str "sum", .str "least", .str "most"]),
    .assign "_law_sums" (.lst []),
    .for_ "_law_k" (.blt "range" [.bin .Mult (.bin .Add (.bin .Mod (.var "_law_more") (.int 6)) (.bin .Mult (.bin .FloorDiv (.bin .Mod (.bin .FloorDiv (.var "_law_more") (.int 6)) (.int 9)) (.int 8)) (.int 7))) (.blt "min" [.int 1, .var "_law_wide"])]) [.append "_law_sums" (.tup [.sub (.var "_law_words") (.bin .Mod (.call "_law_mixed" [.var "_law_more", .var "_law_k"]) (.int 4)), .bin .Mod (.call "_law_mixed" [.var "_law_more", .bin .Add (.int 20) (.var "_law_k")]) (.blt "max" [.int 1, .var "_law_wide"])])],
    .assign "_law_handed" (.dct [.str "t"] [.lcp (.var "_law_rows")]),
    .assign "_law_found" (.call "answer" [.tup [.str "group", .blt "tuple" [.var "_law_places"], .blt "tuple" [.var "_law_sums"], .tup [.str "table", .str "t"]], .var "_law_handed"]),
    .ite (.not (.call "_law_rows_are" [.sub (.var "_law_handed") (.str "t"), .var "_law_rows"])) [.ret (.bool false)] [],
    .assign "_law_at" (.int 0),
    .for_ "_law_k" (.blt "range" [.blt "len" [.var "_law_rows"]]) [.assign "_law_head" (.comp (.sub (.sub (.var "_law_rows") (.var "_law_k")) (.var "_law_place")) "_law_place" (.var "_law_places") []), .assign "_law_like" (.lst []), .for_ "_law_n" (.blt "range" [.blt "len" [.var "_law_rows"]]) [.ite (.not (.comp (.var "_law_place") "_law_place" (.var "_law_places") [.not (.call "_law_alike" [.sub (.sub (.var "_law_rows") (.var "_law_n")) (.var "_law_place"), .sub (.sub (.var "_law_rows") (.var "_law_k")) (.var "_law_place")])])) [.append "_law_like" (.var "_law_n")] []], .ite (.cmp .Eq (.sub (.var "_law_like") (.int 0)) (.var "_law_k")) [.ite (.bop .Or [.not (.isi (.var "_law_found") "list"), .cmp .GtE (.var "_law_at") (.blt "len" [.var "_law_found"])]) [.ret (.bool false)] [], .ite (.not (.call "_law_fits" [.sub (.var "_law_found") (.var "_law_at"), .var "_law_head", .comp (.sub (.var "_law_rows") (.var "_law_n")) "_law_n" (.var "_law_like") [], .var "_law_sums"])) [.ret (.bool false)] [], .assign "_law_at" (.bin .Add (.var "_law_at") (.int 1))] []],
    .ret (.bop .And [.isi (.var "_law_found") "list", .cmp .Eq (.blt "len" [.var "_law_found"]) (.var "_law_at")])]⟩
noncomputable def PP : List (String × Fn) := [("before", fn_before), ("told_of", fn_told_of), ("_law_sign_by", fn_law_sign_by), ("_law_before", fn_law_before), ("_law_cell_is", fn_law_cell_is), ("grouped", fn_grouped), ("cells_at", fn_cells_at), ("_law_thing_by", fn_law_thing_by), ("_law_right", fn_law_right), ("_law_row_is", fn_law_row_is), ("stepped", fn_stepped), ("_law_rows_by", fn_law_rows_by), ("_law_rows_of", fn_law_rows_of), ("_law_fits", fn_law_fits), ("_law_alike", fn_law_alike), ("_law_rows_are", fn_law_rows_are), ("answer", fn_answer), ("_law_mixed", fn_law_mixed), ("_law_table_by", fn_law_table_by), ("_law_cell_at", fn_law_cell_at), ("_law_wide_by", fn_law_wide_by), ("law", fn_law)]
noncomputable def steps : List D := [.str (Str.ofString "table"), .str (Str.ofString "sieve"), .str (Str.ofString "pick"), .str (Str.ofString "join"), .str (Str.ofString "group"), .str (Str.ofString "order"), .str (Str.ofString "both"), .str (Str.ofString "once"), .str (Str.ofString "first")]
noncomputable def X6 : CF := ⟨fun _ _ => none, fun x => if x = "STEPS" then some (.tup steps) else none⟩
theorem bg : BG PP := ⟨rfl, rfl, rfl, rfl⟩
theorem bc : BC PP := ⟨rfl, rfl, rfl⟩
theorem compM_filter (f : D → Option (Option D)) (p : D → Bool) : ∀ (its : List D), (∀ it ∈ its, f it = some (if p it = true then some it else none)) → compM f its = some (its.filter p)
  | [], _ => rfl
  | it :: r, h => by
    rw [compM, h it (.head _)]
    show (match compM f r with | none => none | some ds => _) = _
    rw [compM_filter f p r fun i hi => h i (.tail _ hi)]
    cases hp : p it <;> simp [hp]
theorem compF_one {cf : CF} {ρ : List (String × D)} {elt c : ME} {x : String} {it y d : D} {k : Bool} (hc : evE cf ((x, it) :: ρ) c = some d) (ht : truth d = some k) (he : k = true → evE cf ((x, it) :: ρ) elt = some y) : compF cf ρ elt x [c] it = some (if k = true then some y else none) := by
  have e : evCs cf ((x, it) :: ρ) [c] = some k := by
    show (match evE cf ((x, it) :: ρ) c with | some d => (match truth d with | some t => if t then some true else some false | none => none) | none => none) = _
    rw [hc]; show (match truth d with | some t => _ | none => _) = _; rw [ht]; cases k <;> rfl
  unfold compF; rw [e]
  cases k with
  | true => show (match evE cf ((x, it) :: ρ) elt with | some y => _ | none => _) = _; rw [he rfl]; rfl
  | false => rfl
/-- rows of m cells -/
noncomputable def Row (m : Nat) (r : D) : Prop := ∃ cs, r = .tup cs ∧ cs.length = m ∧ ∀ d ∈ cs, Good d
noncomputable def Rows (m : Nat) (rows : List D) : Prop := ∀ r ∈ rows, Row m r
noncomputable def wideV (c : Int) : Nat := if (c / 35 % 6 == 2) = true then (c / 210 % 13).toNat else [2, 1, 3, 2, 0].getD (c % 5).toNat 0
theorem wide_le (c : Int) : wideV c ≤ 12 := by
  unfold wideV
  split
  · omega
  · obtain ⟨m, e, hm⟩ := emod_nat c (k := 5) (by decide)
    have e : c % 5 = m := e
    rw [e, Int.toNat_natCast]
    exact (by decide : ∀ m < 5, [2, 1, 3, 2, 0].getD m 0 ≤ 12) m hm
section
variable {X : CF}
theorem wide_by (n : Nat) (c : Int) : (callN PP X (n + 1)).call "_law_wide_by" [.int c] = some (.int (wideV c), false) := by
  refine run_call (by rfl : PP.lookup "_law_wide_by" = some fn_law_wide_by) rfl ?_
  unfold wideV
  cases h : (c / 35 % 6 == 2) with
  | true =>
    rw [if_pos rfl]
    have e : ((c / 210 % 13).toNat : Int) = c / 210 % 13 := by omega
    rw [e]
    walk_at "s"
  | false =>
    rw [if_neg Bool.false_ne_true]
    obtain ⟨m, e, hm⟩ := emod_nat c (k := 5) (by decide)
    have e : c % 5 = m := e
    have q : subD (.list [.int 2, .int 1, .int 3, .int 2, .int 0]) (.int (c % 5)) = some (.int ([2, 1, 3, 2, 0].getD (c % 5).toNat 0 : Nat)) := by
      rw [e, Int.toNat_natCast]
      refine sub_l (by simpa using hm) ?_
      match m, hm with
      | 0, _ => rfl
      | 1, _ => rfl
      | 2, _ => rfl
      | 3, _ => rfl
      | 4, _ => rfl
    walk_at "s"
theorem rows_of (n : Nat) (c : Int) : ∃ m : Nat, m ≤ 8 ∧ (callN PP X (n + 1)).call "_law_rows_of" [.int c] = some (.int m, false) := by
  obtain ⟨d, ⟨m, rfl, hm⟩, q⟩ := list_pick (l := [.int 5, .int 7, .int 4, .int 8, .int 6, .int 2, .int 0]) (by decide) (c / 5) (R := fun d => ∃ m : Nat, d = .int m ∧ m ≤ 8) (by
    intro d hd
    simp only [List.mem_cons, List.not_mem_nil, or_false] at hd
    rcases hd with rfl | rfl | rfl | rfl | rfl | rfl | rfl <;> first | exact ⟨5, rfl, by decide⟩ | exact ⟨7, rfl, by decide⟩ | exact ⟨4, rfl, by decide⟩ | exact ⟨8, rfl, by decide⟩ | exact ⟨6, rfl, by decide⟩ | exact ⟨2, rfl, by decide⟩ | exact ⟨0, rfl, by decide⟩)
  have q : subD (.list [.int 5, .int 7, .int 4, .int 8, .int 6, .int 2, .int 0]) (.int (c / 5 % 7)) = some (.int m) := q
  refine ⟨m, hm, run_call (by rfl : PP.lookup "_law_rows_of" = some fn_law_rows_of) rfl ?_⟩
  walk_at "s"
theorem rows_by (n : Nat) (c : Int) (m k : Nat) (hm : m ≤ 12) (hk : k ≤ 70) : ∃ rows, Rows m rows ∧ rows.length ≤ 70 ∧ (callN PP X (n + 3)).call "_law_rows_by" [.int c, .int m, .int k] = some (.list rows, true) := by
  have hk' : k ≤ big := Nat.le_trans hk (by decide)
  obtain ⟨σ', ⟨rows, l, h1, h2, rfl⟩, h3⟩ := loop_inv (cf := callN PP X (n + 2)) (body := [.assign "_law_like" (.bin .Sub (.var "_law_at") (.bin .FloorDiv (.bin .Mod (.var "_law_at") (.int 3)) (.int 2))), .ite (.cmp .Eq (.bin .Mod (.var "_law_at") (.int 5)) (.int 4)) [.assign "_law_like" (.int 0)] [], .append "_law_rows" (.blt "tuple" [.comp (.call "_law_thing_by" [.call "_law_mixed" [.var "_law_cell", .bin .Add (.bin .Mult (.int 13) (.var "_law_like")) (.var "_law_k")]]) "_law_k" (.blt "range" [.var "_law_wide"]) []])]) (z := "_law_at")
    (fun a σ => ∃ rows l, Rows m rows ∧ rows.length = a.length ∧ σ = ("_law_cell", (false, .int c)) :: ("_law_wide", (false, .int m)) :: ("_law_many", (false, .int k)) :: ("_law_rows", (true, .list rows)) :: l) ((List.range k).map fun (i : Nat) => D.int (i : Int)) [] [("_law_cell", (false, .int c)), ("_law_wide", (false, .int m)), ("_law_many", (false, .int k)), ("_law_rows", (true, .list []))] ⟨[], [], (fun _ h => nomatch h), rfl, rfl⟩ (by
    rintro a it b σ hab ⟨rows, l, h1, h2, rfl⟩
    have hla : rows.length < big := by
      have := congrArg List.length hab
      simp at this
      have : rows.length < k := by omega
      omega
    obtain ⟨i, _, rfl⟩ : ∃ i : Nat, i ∈ List.range k ∧ D.int (i : Int) = it := List.mem_map.mp (by rw [List.nil_append] at hab; rw [hab]; simp)
    have tail : ∀ (L : Int) l, Out (callN PP X (n + 2)) [.append "_law_rows" (.blt "tuple" [.comp (.call "_law_thing_by" [.call "_law_mixed" [.var "_law_cell", .bin .Add (.bin .Mult (.int 13) (.var "_law_like")) (.var "_law_k")]]) "_law_k" (.blt "range" [.var "_law_wide"]) []])]
        (("_law_cell", (false, .int c)) :: ("_law_wide", (false, .int m)) :: ("_law_many", (false, .int k)) :: ("_law_rows", (true, .list rows)) :: setv l "_law_like" (false, .int L)) fun fl σ' => fl = .next ∧ ∃ rows l, Rows m rows ∧ rows.length = (a ++ [D.int (i : Int)]).length ∧ σ' = ("_law_cell", (false, .int c)) :: ("_law_wide", (false, .int m)) :: ("_law_many", (false, .int k)) :: ("_law_rows", (true, .list rows)) :: l := by
      intro L l
      have hv : ∀ (i : Nat), evE (callN PP X (n + 2)) (("_law_k", .int i) :: vis (("_law_cell", (false, .int c)) :: ("_law_wide", (false, .int m)) :: ("_law_many", (false, .int k)) :: ("_law_rows", (true, .list rows)) :: setv l "_law_like" (false, .int L))) (.var "_law_like") = some (.int L) := by
        intro i; rw [e_var]; show (vis (setv l "_law_like" (false, .int L))).lookup "_law_like" = _; rw [lookup_vis, lookup_setv]; rfl
      obtain ⟨cs, q1, q2, q3⟩ := v_rows (cf := callN PP X (n + 2)) (ρ := vis (("_law_cell", (false, .int c)) :: ("_law_wide", (false, .int m)) :: ("_law_many", (false, .int k)) :: ("_law_rows", (true, .list rows)) :: setv l "_law_like" (false, .int L))) (elt := .call "_law_thing_by" [.call "_law_mixed" [.var "_law_cell", .bin .Add (.bin .Mult (.int 13) (.var "_law_like")) (.var "_law_k")]]) (z := "_law_k") (src := .var "_law_wide") (k := m) (Nat.le_trans hm (by decide)) Good rfl (by
        intro i _
        have hv' := hv i
        obtain ⟨r, _, hr⟩ := mixed (X := X) bg (n + 1) c (13 * L + i)
        obtain ⟨d, gd, hd⟩ := thing_by (X := X) bg n r
        exact ⟨d, gd, by walk_at "v"⟩)
      refine o_step (p_append q3 rfl hla) (o_nil ⟨rfl, rows ++ [.tup cs], _, ?_, ?_, rfl⟩)
      · intro r hr
        rcases List.mem_append.mp hr with hr | hr
        · exact h1 r hr
        · exact ⟨cs, List.mem_singleton.mp hr, q1, q2⟩
      · simp [h2]
    have hv : evE (callN PP X (n + 2)) (vis (("_law_cell", (false, .int c)) :: ("_law_wide", (false, .int m)) :: ("_law_many", (false, .int k)) :: ("_law_rows", (true, .list rows)) :: setv l "_law_at" (false, .int i))) (.var "_law_at") = some (.int i) := by
      rw [e_var]; show (vis (setv l "_law_at" (false, .int i))).lookup "_law_at" = _; rw [lookup_vis, lookup_setv]; rfl
    refine o_norm (σ' := ("_law_cell", (false, .int c)) :: ("_law_wide", (false, .int m)) :: ("_law_many", (false, .int k)) :: ("_law_rows", (true, .list rows)) :: setv l "_law_at" (false, .int i)) rfl ?_
    refine o_step (p_assign (d := .int (i - i % 3 / 2)) (fr := false) (by walk_at "v")) ?_
    have hv2 : evE (callN PP X (n + 2)) (vis (setv (settle (.int ((i : Int) - i % 3 / 2)) (ME.names (.bin .Sub (.var "_law_at") (.bin .FloorDiv (.bin .Mod (.var "_law_at") (.int 3)) (.int 2)))) (("_law_cell", (false, .int c)) :: ("_law_wide", (false, .int m)) :: ("_law_many", (false, .int k)) :: ("_law_rows", (true, .list rows)) :: setv l "_law_at" (false, .int i))) "_law_like" (false, .int (i - i % 3 / 2)))) (.var "_law_at") = some (.int i) := by
      rw [e_var]; show (vis (setv (setv l "_law_at" (false, .int i)) "_law_like" (false, .int (i - i % 3 / 2)))).lookup "_law_at" = _; rw [lookup_vis, lookup_setv, lookup_setv]; rfl
    refine o_if (k := (i : Int) % 5 == 4) (by walk_at "v") rfl (fun _ => ?_) fun _ => tail _ _
    exact o_step (p_assign (e_int _ _ _ |> fun h => v_map h rfl rfl)) (tail 0 _))
  refine ⟨rows, h1, by rw [h2]; simp; exact hk, run_call (by rfl : PP.lookup "_law_rows_by" = some fn_law_rows_by) rfl ?_⟩
  refine r_step (p_assign (v_map (v_lst (es_nil _ _) (Nat.zero_le _)) rfl rfl)) ?_
  refine r_for (x := .rng 0 k) (v_blt (v_cons (d := .int k) rfl (es_nil _ _)) (blt_rng hk')) (items_rng k) h3 ?_
  exact r_retv rfl
theorem table_by (n : Nat) (ns : List Int) : ∃ rows, Rows (wideV (ns.getD 0 0)) rows ∧ rows.length ≤ 70 ∧ (callN PP X (n + 4)).call "_law_table_by" [.list (ns.map .int), .int 0] = some (.list rows, true) := by
  have c0 := cell_at (X := X) bg (n + 2) ns 0
  have c1 : (callN PP X (n + 3)).call "_law_cell_at" [.list (ns.map .int), .int (0 + 1)] = some (.int (ns.getD 1 0), false) := cell_at (X := X) bg (n + 2) ns 1
  have w0 := wide_by (X := X) (n + 2) (ns.getD 0 0)
  have hw := wide_le (ns.getD 0 0)
  have c0 : (callN PP X (n + 3)).call "_law_cell_at" [.list (ns.map .int), .int 0] = some (.int (ns.getD 0 0), false) := c0
  obtain ⟨m, hm, r0⟩ := rows_of (X := X) (n + 2) (ns.getD 0 0)
  obtain ⟨m2, e2, hm2⟩ := emod_nat (ns.getD 0 0 / 210) (k := 70) (by decide)
  have e2 : ns.getD 0 0 / 210 % 70 = m2 := e2
  obtain ⟨rows1, a1, a2, a3⟩ := rows_by (X := X) n (ns.getD 1 0) (wideV (ns.getD 0 0)) m hw (Nat.le_trans hm (by decide))
  obtain ⟨rows2, b1, b2, b3⟩ := rows_by (X := X) n (ns.getD 1 0) (wideV (ns.getD 0 0)) m2 hw (Nat.le_of_lt hm2)
  rw [← e2] at b3
  generalize wideV (ns.getD 0 0) = wd at *
  generalize ns.getD 0 0 = z0 at *
  generalize ns.getD 1 0 = z1 at *
  generalize D.list (ns.map .int) = S at *
  have key : Rex (callN PP X (n + 3)) fn_law_table_by.body [("_law_script", (false, S)), ("_law_k", (false, .int 0))] fun d fr => ∃ rows, Rows wd rows ∧ rows.length ≤ 70 ∧ d = .list rows ∧ fr = true := by
    walk_at "s"
    all_goals first | exact ⟨rows1, a1, a2, rfl, rfl⟩ | exact ⟨rows2, b1, b2, rfl, rfl⟩
  obtain ⟨d, fr, ⟨rows, q1, q2, rfl, rfl⟩, hr⟩ := rex_call (X := X) (n := n + 3) (args := [S, .int 0]) (by rfl : PP.lookup "_law_table_by" = some fn_law_table_by) rfl key
  exact ⟨rows, q1, q2, hr⟩
end

noncomputable def rowOf : D → List D
  | .tup cs => cs
  | _ => []
/-- places of a row of m cells -/
noncomputable def Plc (m : Nat) (ps : List D) : Prop := ∀ d ∈ ps, ∃ p : Nat, p < m ∧ d = .int p
noncomputable def atV (r : D) (pl : D) : D := match pl with
  | .int p => (rowOf r).getD p.toNat .none
  | _ => .none
noncomputable def keyV (ps : List D) (r : D) : D := .tup (ps.map (atV r))
theorem at_e {m : Nat} {r : D} (hr : Row m r) {p : Nat} (hp : p < m) : subD r (.int p) = some (atV r (.int p)) := by
  obtain ⟨cs, rfl, hl, _⟩ := hr
  exact getD_at (by omega)
theorem at_cell {m : Nat} {r : D} (hr : Row m r) {p : Nat} (hp : p < m) : (atV r (.int p)).isCell = true := by
  obtain ⟨cs, rfl, hl, hg⟩ := hr
  exact (Good.getD hg (by omega)).cell
theorem key_tk {m : Nat} {r : D} (hr : Row m r) {ps : List D} (hp : Plc m ps) : (keyV ps r).isTK = true := by
  refine List.all_eq_true.mpr fun d hd => ?_
  obtain ⟨pl, h, rfl⟩ := List.mem_map.mp hd
  obtain ⟨p, hlt, rfl⟩ := hp pl h
  exact at_cell hr hlt
theorem keyEq_iff {a b : D} (ha : a.isTK = true) (hb : b.isTK = true) : keyEq a b = true ↔ a = b := by
  obtain ⟨a, rfl⟩ := tk_ck ha
  obtain ⟨b, rfl⟩ := tk_ck hb
  rw [keyEq_tk, decide_eq_true_iff]
  exact ⟨fun h => h ▸ rfl, ofTK_inj⟩
theorem keyEq_self {a : D} (ha : a.isTK = true) : keyEq a a = true := (keyEq_iff ha ha).mpr rfl
theorem keyEq_comm {a b : D} (ha : a.isTK = true) (hb : b.isTK = true) : keyEq a b = keyEq b a := by
  rw [Bool.eq_iff_iff, keyEq_iff ha hb, keyEq_iff hb ha]; exact eq_comm
/-- each key once -/
noncomputable def onceV (l : List D) : List D := l.foldl (fun acc r => gnewK acc r) []
theorem onceV_snoc (l : List D) (r : D) : onceV (l ++ [r]) = gnewK (onceV l) r := by
  unfold onceV; rw [List.foldl_append]; rfl
theorem any_iff {l : List D} {k : D} (hl : ∀ x ∈ l, x.isTK = true) (hk : k.isTK = true) : (l.any fun x => keyEq x k) = true ↔ k ∈ l := by
  rw [List.any_eq_true]
  constructor
  · rintro ⟨x, h, e⟩; rw [(keyEq_iff (hl x h) hk).mp e] at h; exact h
  · exact fun h => ⟨k, h, keyEq_self hk⟩
structure Once (l ks : List D) : Prop where
  tk : ∀ x ∈ ks, x.isTK = true
  mem : ∀ x, x ∈ ks ↔ x ∈ l
  nd : ks.Nodup
theorem gnewK_in {ks : List D} {k : D} (hl : ∀ x ∈ ks, x.isTK = true) (hk : k.isTK = true) (h : k ∈ ks) : gnewK ks k = ks := by
  unfold gnewK; rw [if_pos ((any_iff hl hk).mpr h)]
theorem gnewK_out {ks : List D} {k : D} (hl : ∀ x ∈ ks, x.isTK = true) (hk : k.isTK = true) (h : k ∉ ks) : gnewK ks k = ks ++ [k] := by
  unfold gnewK; rw [if_neg fun e => h ((any_iff hl hk).mp e)]
theorem Once.snoc {l ks : List D} (h : Once l ks) {k : D} (hk : k.isTK = true) : Once (l ++ [k]) (gnewK ks k) := by
  by_cases hm : k ∈ ks
  · rw [gnewK_in h.tk hk hm]
    refine ⟨h.tk, fun x => ?_, h.nd⟩
    rw [h.mem, List.mem_append, List.mem_singleton]
    exact ⟨.inl, fun e => e.elim id fun e => e ▸ (h.mem k).mp hm⟩
  · rw [gnewK_out h.tk hk hm]
    refine ⟨fun x hx => ?_, fun x => ?_, ?_⟩
    · rcases List.mem_append.mp hx with hx | hx
      · exact h.tk x hx
      · rw [List.mem_singleton.mp hx]; exact hk
    · rw [List.mem_append, List.mem_append, h.mem]
    · rw [List.nodup_append]
      refine ⟨h.nd, by simp, fun x hx y hy => ?_⟩
      rw [List.mem_singleton.mp hy]; rintro rfl; exact hm hx
theorem once_of : ∀ (n : Nat) (l : List D), l.length = n → (∀ x ∈ l, x.isTK = true) → Once l (onceV l)
  | 0, l, hn, _ => by
    rw [List.length_eq_zero_iff.mp hn]
    exact ⟨(fun _ h => nomatch h), (fun _ => ⟨(fun h => nomatch h), (fun h => nomatch h)⟩), .nil⟩
  | n + 1, l, hn, hl => by
    have hne : l ≠ [] := by rintro rfl; cases hn
    rw [← List.dropLast_concat_getLast hne] at hl ⊢
    rw [onceV_snoc]
    refine (once_of n l.dropLast (by simp [hn]) fun x hx => hl x (List.mem_append_left _ hx)).snoc (hl _ (by simp))
theorem onceV_pre (l : List D) : ∀ r : List D, ∃ s, onceV (l ++ r) = onceV l ++ s
  | [] => ⟨[], by simp⟩
  | x :: r => by
    obtain ⟨s, h⟩ := onceV_pre (l ++ [x]) r
    rw [List.append_assoc] at h
    refine ⟨(if ((onceV l).any fun y => keyEq y x) = true then [] else [x]) ++ s, ?_⟩
    show onceV (l ++ ([x] ++ r)) = _
    rw [h, onceV_snoc, gnewK, ← List.append_assoc]
    split <;> simp
theorem onceV_len : ∀ (n : Nat) (l : List D), l.length = n → (onceV l).length ≤ l.length
  | 0, l, hn => by rw [List.length_eq_zero_iff.mp hn]; exact Nat.le_refl _
  | n + 1, l, hn => by
    have hne : l ≠ [] := by rintro rfl; cases hn
    have ih := onceV_len n l.dropLast (by simp [hn])
    rw [← List.dropLast_concat_getLast hne, onceV_snoc, List.length_append]
    unfold gnewK
    split <;> simp <;> simp at ih <;> omega
/-! the groups -/
theorem gapp_map (f : D → List D) {k r : D} (hk : k.isTK = true) : ∀ (ks : List D), ks.Nodup → (∀ x ∈ ks, x.isTK = true) → gapp ks (ks.map f) k r = ks.map fun x => f x ++ if keyEq x k = true then [r] else []
  | [], _, _ => rfl
  | x :: ks, hn, ht => by
    rw [List.nodup_cons] at hn
    have hx := ht x (.head _)
    show (if keyEq x k = true then (f x ++ [r]) :: ks.map f else f x :: gapp ks (ks.map f) k r) = (f x ++ if keyEq x k = true then [r] else []) :: ks.map _
    split
    · rename_i e
      rw [(keyEq_iff hx hk).mp e] at hn
      congr 1
      apply List.map_congr_left
      intro y hy
      have : ¬ keyEq y k = true := fun e => hn.1 ((keyEq_iff (ht y (.tail _ hy)) hk).mp e ▸ hy)
      rw [if_neg this, List.append_nil]
    · rw [List.append_nil, gapp_map f hk ks hn.2 fun y hy => ht y (.tail _ hy)]
noncomputable def groupV (K : D → D) (a : List D) (k : D) : List D := a.filter fun r => keyEq k (K r)
theorem groupV_snoc (K : D → D) (a : List D) (r k : D) : groupV K (a ++ [r]) k = groupV K a k ++ if keyEq k (K r) = true then [r] else [] := by
  unfold groupV; rw [List.filter_append]; congr 1; show (match keyEq k (K r) with | true => _ | false => _) = _; cases keyEq k (K r) <;> rfl
theorem grp_step {K : D → D} {a : List D} {r : D} (ha : ∀ x ∈ a, (K x).isTK = true) (hr : (K r).isTK = true) : gapp (gnewK (onceV (a.map K)) (K r)) (gnewL (onceV (a.map K)) ((onceV (a.map K)).map (groupV K a)) (K r)) (K r) r = (onceV ((a ++ [r]).map K)).map (groupV K (a ++ [r])) := by
  have o := once_of _ (a.map K) rfl fun x hx => by obtain ⟨y, hy, rfl⟩ := List.mem_map.mp hx; exact ha y hy
  have o2 := o.snoc hr
  rw [List.map_append, List.map_cons, List.map_nil, onceV_snoc]
  have e : gnewL (onceV (a.map K)) ((onceV (a.map K)).map (groupV K a)) (K r) = (gnewK (onceV (a.map K)) (K r)).map (groupV K a) := by
    unfold gnewL gnewK
    split
    · rfl
    · rename_i h
      rw [List.map_append]
      congr 1
      show [[]] = [groupV K a (K r)]
      congr 1
      symm
      unfold groupV
      rw [List.filter_eq_nil_iff]
      intro x hx e
      refine h ((any_iff o.tk hr).mpr ?_)
      rw [o.mem, (keyEq_iff hr (ha x hx)).mp e]
      exact List.mem_map.mpr ⟨x, hx, rfl⟩
  rw [e, gapp_map _ hr _ o2.nd o2.tk]
  apply List.map_congr_left
  intro k _
  rw [groupV_snoc]
theorem grp_all {cf : CF} {pl : D} {K : D → D} : ∀ (rs a : List D), (∀ r ∈ a ++ rs, (K r).isTK = true) → (∀ r ∈ rs, ∃ fr, cf.call "cells_at" [r, pl] = some (K r, fr)) → (a ++ rs).length < big →
    grpD cf pl rs (onceV (a.map K)) ((onceV (a.map K)).map (groupV K a)) = some (onceV ((a ++ rs).map K), (onceV ((a ++ rs).map K)).map (groupV K (a ++ rs)))
  | [], a, _, _, _ => by rw [List.append_nil]; rfl
  | r :: rs, a, ht, hcall, hb => by
    obtain ⟨fr, e⟩ := hcall r (.head _)
    have hr := ht r (by simp)
    have h1 : ∀ x ∈ a, (K x).isTK = true := fun x hx => ht x (List.mem_append_left _ hx)
    have hl := onceV_len _ (a.map K) rfl
    rw [List.length_map] at hl
    rw [List.length_append, List.length_cons] at hb
    show (match cf.call "cells_at" [r, pl] with | some (k, _) => _ | none => _) = _
    rw [e]
    show (if _ then _ else _) = _
    rw [if_pos, grp_step h1 hr]
    · have ih := grp_all rs (a ++ [r]) (by simpa using ht) (fun x hx => hcall x (.tail _ hx)) (by simp; omega)
      have e2 : gnewK (onceV (a.map K)) (K r) = onceV ((a ++ [r]).map K) := by rw [List.map_append, List.map_cons, List.map_nil, onceV_snoc]
      rw [e2, ih]
      simp
    · simp only [Bool.and_eq_true, decide_eq_true_eq, List.all_eq_true]
      refine ⟨⟨hr, by omega⟩, fun l hl2 => ?_⟩
      obtain ⟨k, _, rfl⟩ := List.mem_map.mp hl2
      have : (groupV K a k).length ≤ a.length := List.length_filter_le ..
      omega
/-! order -/
theorem before_irr {a : D} (ha : a.isCell = true) : beforeV a a = false := by
  cases a <;> first | (cases ha; done) | skip
  · exact decide_eq_false (Int.lt_irrefl _)
  · exact decide_eq_false (List.lt_irrefl _)
theorem before_trans {a b c : D} (ha : a.isCell = true) (hb : b.isCell = true) (hc : c.isCell = true) (h1 : beforeV a b = true) (h2 : beforeV b c = true) : beforeV a c = true := by
  cases a <;> first | (cases ha; done) | (cases b <;> first | (cases hb; done) | (cases c <;> first | (cases hc; done) | rfl | (cases h1; done) | (cases h2; done) | skip))
  · exact decide_eq_true (Int.lt_trans (of_decide_eq_true h1) (of_decide_eq_true h2))
  · exact decide_eq_true (List.lt_trans (of_decide_eq_true h1) (of_decide_eq_true h2))
theorem cellEq_iff {a b : D} (ha : a.isCell = true) (h : cellEq a b = true) : a = b := by
  cases a <;> first | (cases ha; done) | (cases b <;> first | (cases h; done) | skip)
  · exact congrArg D.int (eq_of_beq h)
  · exact congrArg D.str (eq_of_beq h)
theorem cellEq_self {a : D} (ha : a.isCell = true) : cellEq a a = true := by
  cases a <;> first | (cases ha; done) | exact beq_self_eq_true _
theorem before_tot {a b : D} (ha : a.isCell = true) (hb : b.isCell = true) (h : beforeV a b = false) : beforeV b a = true ∨ b = a := by
  have t := tri ha hb
  rw [h, Bool.not_false, Bool.or_eq_true] at t
  exact t.imp id fun e => (cellEq_iff ha e).symm
/-- the first of the best cells -/
noncomputable def bestV (lt : D → D → Bool) (c0 : D) (cells : List D) : D := cells.foldl (fun f c => if lt c f = true then c else f) c0
theorem bestV_snoc (lt : D → D → Bool) (c0 : D) (cells : List D) (c : D) : bestV lt c0 (cells ++ [c]) = if lt c (bestV lt c0 cells) = true then c else bestV lt c0 cells := by
  unfold bestV; rw [List.foldl_append]; rfl
theorem best_ok {lt : D → D → Bool} (irr : ∀ a, a.isCell = true → lt a a = false) (tr : ∀ a b c, a.isCell = true → b.isCell = true → c.isCell = true → lt a b = true → lt b c = true → lt a c = true) (tot : ∀ a b, a.isCell = true → b.isCell = true → lt a b = false → lt b a = true ∨ b = a) : ∀ (cells : List D) (c0 : D), c0.isCell = true → (∀ c ∈ cells, c.isCell = true) →
    (bestV lt c0 cells ∈ c0 :: cells) ∧ ∀ c ∈ c0 :: cells, lt c (bestV lt c0 cells) = false
  | [], c0, h0, _ => ⟨.head _, fun c hc => by rw [List.mem_singleton.mp hc]; exact irr _ h0⟩
  | c :: cells, c0, h0, hc => by
    have hcc := hc c (.head _)
    show bestV lt (if lt c c0 = true then c else c0) cells ∈ _ ∧ ∀ x ∈ _, lt x (bestV lt (if lt c c0 = true then c else c0) cells) = false
    split
    · rename_i e
      obtain ⟨i1, i2⟩ := best_ok irr tr tot cells c hcc fun x hx => hc x (.tail _ hx)
      refine ⟨.tail _ i1, fun x hx => ?_⟩
      rcases List.mem_cons.mp hx with rfl | hx
      · have hb : (bestV lt c cells).isCell = true := by
          rcases List.mem_cons.mp i1 with h | h
          · rw [h]; exact hcc
          · exact hc _ (.tail _ h)
        cases hh : lt x (bestV lt c cells) with
        | false => rfl
        | true => have := tr _ _ _ hcc h0 hb e hh; rw [i2 c (.head _)] at this; cases this
      · exact i2 x hx
    · rename_i e
      obtain ⟨i1, i2⟩ := best_ok irr tr tot cells c0 h0 fun x hx => hc x (.tail _ hx)
      refine ⟨?_, fun x hx => ?_⟩
      · rcases List.mem_cons.mp i1 with h | h
        · rw [h]; exact .head _
        · exact .tail _ (.tail _ h)
      · rcases List.mem_cons.mp hx with rfl | hx
        · exact i2 _ (.head _)
        · rcases List.mem_cons.mp hx with rfl | hx
          · have hb : (bestV lt c0 cells).isCell = true := by
              rcases List.mem_cons.mp i1 with h | h
              · rw [h]; exact h0
              · exact hc _ (.tail _ h)
            cases hh : lt x (bestV lt c0 cells) with
            | false => rfl
            | true =>
              rcases tot _ _ h0 hb (i2 c0 (.head _)) with h | h
              · exact absurd (tr _ _ _ hcc hb h0 hh h) e
              · rw [h] at hh; exact absurd hh e
          · exact i2 x (.tail _ hx)

set_option maxRecDepth 100000
set_option maxHeartbeats 400000

section
variable {X : CF}
theorem cell_is (n : Nat) {a b : D} (ha : a.isCell = true) (hb : b.isCell = true) : (callN PP X (n + 1)).call "_law_cell_is" [a, b] = some (.bool (cellEq a b), false) := by
  refine run_call (by rfl : PP.lookup "_law_cell_is" = some fn_law_cell_is) rfl ?_
  cases a <;> first | (cases ha; done) | (cases b <;> first | (cases hb; done) | rfl)
theorem compM_none (f : D → Option (Option D)) : ∀ (its : List D), (∀ it ∈ its, f it = some none) → compM f its = some []
  | [], _ => rfl
  | it :: r, h => by rw [compM, h it (.head _)]; show (match compM f r with | none => none | some ds => _) = _; rw [compM_none f r fun i hi => h i (.tail _ hi)]
theorem neq_self (i : Int) : cmpD .NotEq (.int i) (.int i) = some (.bool false) := by show some (D.bool (!(i == i))) = _; rw [beq_self_eq_true]; rfl
/-- a comprehension over range(n) that finds nothing -/
theorem v_nothing {cf : CF} {ρ : List (String × D)} {src elt c : ME} {z : String} {k : Nat} (hk : k ≤ 1000) (hs : evE cf ρ src = some (.int k)) (h : ∀ i : Nat, i < k → evE cf ((z, .int i) :: ρ) c = some (.bool true)) :
    evE cf ρ (.not (.comp elt z (.blt "range" [src]) [.not c])) = some (.bool true) := by
  have hb : k ≤ big := Nat.le_trans hk (by decide)
  have hlen : ((List.range k).map fun (i : Nat) => D.int (i : Int)).length = k := by simp
  refine v_not (k := false) (v_comp (ds := []) (v_blt (v_cons (d := .int k) hs (es_nil _ _)) (blt_rng hb)) (items_rng k) (Nat.le_trans (Nat.le_of_eq hlen) hb) (compM_none _ _ ?_)) rfl
  intro it hit
  obtain ⟨i, hi, rfl⟩ := List.mem_map.mp hit
  exact compF_one (k := false) (y := .none) (v_not (h i (List.mem_range.mp hi)) rfl) rfl nofun
noncomputable def Flat (cs : List D) : Prop := cs.length ≤ 1000 ∧ ∀ d ∈ cs, d.isCell = true
/-- a row of found cells and the same cells, as a row or a list -/
theorem row_is (n : Nat) {cs : List D} (hf : Flat cs) {due : D} (hd : due = .tup cs ∨ due = .list cs) : (callN PP X (n + 2)).call "_law_row_is" [.tup cs, due] = some (.bool true, false) := by
  obtain ⟨hl, hc⟩ := hf
  have hcell := fun i (h : i < cs.length) => cell_is (X := X) n (hc _ (List.getElem_mem h)) (hc _ (List.getElem_mem h))
  have e := neq_self cs.length
  refine run_call (by rfl : PP.lookup "_law_row_is" = some fn_law_row_is) rfl ?_
  have hlen : bltD "len" [due] = some (.int cs.length) := by rcases hd with rfl | rfl <;> rfl
  have hsub : ∀ i (h : i < cs.length), subD due (.int i) = some cs[i] := by
    intro i h
    rcases hd with rfl | rfl
    · exact sub_t h (List.getElem?_eq_getElem h)
    · exact sub_l h (List.getElem?_eq_getElem h)
  refine r_if (k := false) (x := .bool (false || false)) (v_or (l := false) rfl fun _ => v_bop1 (v_cmp rfl (v_blt (v_cons (d := due) rfl (es_nil _ _)) hlen) e)) rfl nofun fun _ => ?_
  refine r_ret (v_map (v_nothing hl (v_blt (v_cons (d := due) rfl (es_nil _ _)) hlen) fun i hi => ?_) rfl rfl) rfl
  have q := hcell i hi
  rw [cellEq_self (hc _ (List.getElem_mem hi))] at q
  have q2 : subD (.tup cs) (.int i) = some cs[i] := sub_t hi (List.getElem?_eq_getElem hi)
  have q3 := hsub i hi
  walk_at "v"
theorem rows_are (n : Nat) {rows : List D} (hl : rows.length ≤ 1000) (hr : ∀ r ∈ rows, ∃ cs, r = .tup cs ∧ Flat cs) : (callN PP X (n + 3)).call "_law_rows_are" [.list rows, .list rows] = some (.bool true, false) := by
  have hrow : ∀ i (h : i < rows.length), (callN PP X (n + 2)).call "_law_row_is" [rows[i], rows[i]] = some (.bool true, false) := by
    intro i h
    obtain ⟨cs, e, hf⟩ := hr _ (List.getElem_mem h)
    rw [e]; exact row_is n hf (.inl rfl)
  refine run_call (by rfl : PP.lookup "_law_rows_are" = some fn_law_rows_are) rfl ?_
  have e := neq_self rows.length
  refine r_if (k := false) (x := .bool (false || false)) (v_or (l := false) rfl fun _ => v_bop1 (v_cmp rfl rfl e)) rfl nofun fun _ => ?_
  refine r_ret (v_map (v_nothing hl rfl fun i hi => ?_) rfl rfl) rfl
  have q := hrow i hi
  have q2 : subD (.list rows) (.int i) = some rows[i] := sub_l hi (List.getElem?_eq_getElem hi)
  walk_at "v"
noncomputable def sumWords : List String := ["count", "sum", "least", "most"]
/-- the intsV of some cells -/
noncomputable def intsV (cells : List D) : List D := cells.filter fun c => !(match c with | .str _ => true | _ => false)
noncomputable def sumV (cells : List D) : Int := ((sumD (intsV cells)).getD 0)
noncomputable def afterV (a b : D) : Bool := beforeV b a
noncomputable def toldV (w : String) (cells : List D) : D :=
  if w = "count" then .int cells.length else if w = "sum" then .int (sumV cells) else if w = "least" then bestV beforeV (cells.headD .none) cells else bestV afterV (cells.headD .none) cells
theorem sum_ok : ∀ {cells : List D}, (∀ c ∈ cells, c.isCell = true) → sumD (intsV cells) = some (sumV cells)
  | [], _ => rfl
  | c :: cells, h => by
    have ih := sum_ok fun x hx => h x (.tail _ hx)
    have hc := h c (.head _)
    unfold sumV at ih ⊢
    cases c <;> first | (cases hc; done) | skip
    · rename_i i
      show (sumD (intsV cells)).map (i + ·) = some (((sumD (intsV cells)).map (i + ·)).getD 0)
      rw [ih]; rfl
    · exact ih
theorem ints_e {cf : CF} {ρ : List (String × D)} {z : String} {src : ME} {its : List D} {x : D} (hs : evE cf ρ src = some x) (hi : x.items = some its) (hl : its.length ≤ 1000) {g : D → D} {elt : ME} (hg : ∀ it ∈ its, (g it).isCell = true ∧ evE cf ((z, it) :: ρ) elt = some (g it)) :
    evE cf ρ (.blt "sum" [.comp elt z src [.not (.isi elt "str")]]) = some (.int (sumV (its.map g))) := by
  refine v_blt (v_cons (v_comp (ds := intsV (its.map g)) hs hi (Nat.le_trans hl (by decide)) ?_) (es_nil _ _)) ?_
  · clear hi hl
    induction its with
    | nil => rfl
    | cons it its ih =>
      obtain ⟨h1, h2⟩ := hg it (.head _)
      have ih := ih fun i hi => hg i (.tail _ hi)
      have e : compF cf ρ elt z [.not (.isi elt "str")] it = some (if (!(match g it with | .str _ => true | _ => false)) = true then some (g it) else none) := by
        refine compF_one (v_not (v_isi h2 ?_) rfl) rfl fun _ => h2
        cases hh : g it <;> rw [hh] at h1 <;> first | (cases h1; done) | rfl
      rw [compM, e]
      show (match compM _ its with | none => none | some ds => _) = _
      rw [ih]
      show _ = some ((g it :: its.map g).filter _)
      rw [List.filter_cons]
      cases (!(match g it with | .str _ => true | _ => false)) <;> rfl
  · show (sumD (intsV (its.map g))).map D.int = _
    rw [sum_ok fun c hc => by obtain ⟨it, h, rfl⟩ := List.mem_map.mp hc; exact (hg it h).1]
    rfl
end

set_option maxRecDepth 100000
set_option maxHeartbeats 400000

noncomputable def toldBody : List MS := [.ite (.bop .And [.cmp .Eq (.var "word") (.str "least"), .call "before" [.sub (.var "row") (.var "place"), .var "found"]]) [.assign "found" (.sub (.var "row") (.var "place"))] [], .ite (.bop .And [.cmp .Eq (.var "word") (.str "most"), .call "before" [.var "found", .sub (.var "row") (.var "place")]]) [.assign "found" (.sub (.var "row") (.var "place"))] []]
noncomputable def ltOf (w : String) : D → D → Bool := if w = "least" then beforeV else afterV
section
variable {X : CF} {cf : CF} {σ : St}
theorem told_step {w : String} (hw : w = "least" ∨ w = "most") {c f r pl : D} (a1 : Has σ "word" (.str (Str.ofString w))) (a2 : Has σ "place" pl) (a3 : Has σ "found" f) (a4 : Has σ "row" r) (hs : subD r pl = some c) (hc : c.isCell = true)
    (h1 : cf.call "before" [c, f] = some (.bool (beforeV c f), false)) (h2 : cf.call "before" [f, c] = some (.bool (beforeV f c), false)) : Out cf toldBody σ fun fl σ' => fl = .next ∧ σ' = if ltOf w c f = true then setv σ "found" (false, c) else σ := by
  rcases hw with rfl | rfl
  · have e : ltOf "least" = beforeV := rfl
    rw [e]
    have no : ∀ {σ : St}, Has σ "word" (.str (Str.ofString "least")) → evE cf (vis σ) (.bop .And [.cmp .Eq (.var "word") (.str "most"), .call "before" [.var "found", .sub (.var "row") (.var "place")]]) = some (.bool (false && false)) := fun a => v_and (v_cmp (v_var (hr_vis a)) (e_str _ _ _) rfl) fun h => nomatch h
    refine o_if (k := beforeV c f) (x := .bool (true && beforeV c f)) (v_and (v_cmp (v_var (hr_vis a1)) (e_str _ _ _) rfl) fun _ => by walk_at "v") rfl (fun hh => ?_) fun hh => ?_
    · rw [hh, if_pos rfl]
      refine o_step (p_cell (fr := false) (by walk_at "v") hc) ?_
      exact o_if (k := false) (no (by walk_at "h")) rfl nofun fun _ => o_nil ⟨rfl, rfl⟩
    · rw [hh, if_neg Bool.false_ne_true]
      exact o_if (k := false) (no (by walk_at "h")) rfl nofun fun _ => o_nil ⟨rfl, rfl⟩
  · have e : ltOf "most" c f = beforeV f c := rfl
    rw [e]
    have no : ∀ {σ : St}, Has σ "word" (.str (Str.ofString "most")) → evE cf (vis σ) (.bop .And [.cmp .Eq (.var "word") (.str "least"), .call "before" [.sub (.var "row") (.var "place"), .var "found"]]) = some (.bool (false && false)) := fun a => v_and (v_cmp (v_var (hr_vis a)) (e_str _ _ _) rfl) fun h => nomatch h
    refine o_if (k := false) (no a1) rfl nofun fun _ => ?_
    refine o_if (k := beforeV f c) (x := .bool (true && beforeV f c)) (v_and (v_cmp (v_var (hr_vis a1)) (e_str _ _ _) rfl) fun _ => by walk_at "v") rfl (fun hh => ?_) fun hh => ?_
    · rw [hh, if_pos rfl]
      exact o_step (p_cell (fr := false) (by walk_at "v") hc) (o_nil ⟨rfl, rfl⟩)
    · rw [hh, if_neg Bool.false_ne_true]
      exact o_nil ⟨rfl, rfl⟩
theorem told_of (n : Nat) {m : Nat} {g0 : D} {grp : List D} (hr : Rows m (g0 :: grp)) (hl : (g0 :: grp).length ≤ 1000) {w : String} (hw : w ∈ sumWords) {p : Nat} (hp : p < m) :
    ∃ fr, (callN PP X (n + 2)).call "told_of" [.tup [.str (Str.ofString w), .int p], .list (g0 :: grp)] = some (toldV w ((g0 :: grp).map fun r => atV r (.int p)), fr) := by
  have hsub : ∀ r ∈ g0 :: grp, subD r (.int p) = some (atV r (.int p)) := fun r h => at_e (hr r h) hp
  have hcell : ∀ r ∈ g0 :: grp, (atV r (.int p)).isCell = true := fun r h => at_cell (hr r h) hp
  have key : Rex (callN PP X (n + 1)) fn_told_of.body [("one", (false, .tup [.str (Str.ofString w), .int p])), ("rows", (false, .list (g0 :: grp)))] fun d _ => d = toldV w ((g0 :: grp).map fun r => atV r (.int p)) := by
    refine q_step (p_assign (d := .str (Str.ofString w)) (fr := false) rfl) (q_step (p_assign (d := .int p) (fr := false) rfl) ?_)
    refine q_norm (σ' := [("one", (false, .tup [.str (Str.ofString w), .int p])), ("rows", (false, .list (g0 :: grp))), ("word", (false, .str (Str.ofString w))), ("place", (false, .int p))]) rfl ?_
    have hbest : w = "least" ∨ w = "most" → Rex (callN PP X (n + 1)) (fn_told_of.body.drop 4) [("one", (false, .tup [.str (Str.ofString w), .int p])), ("rows", (false, .list (g0 :: grp))), ("word", (false, .str (Str.ofString w))), ("place", (false, .int p))] fun d _ => d = bestV (ltOf w) (atV g0 (.int p)) ((g0 :: grp).map fun r => atV r (.int p)) := by
      intro hlm
      have hs0 := hsub g0 (.head _)
      have hc0 := hcell g0 (.head _)
      have hr0 : subD (.list (g0 :: grp)) (.int 0) = some g0 := sub_l (k := 0) (Nat.zero_lt_succ _) rfl
      refine q_step (p_cell (d := atV g0 (.int p)) (fr := false) (v_map (v_sub (x := g0) (y := .int p) (v_sub (x := .list (g0 :: grp)) (y := .int 0) rfl rfl hr0) rfl hs0) rfl rfl) hc0) ?_
      obtain ⟨σ', ⟨i1, i2, i3, i4⟩, h3⟩ := loop_inv (cf := callN PP X (n + 1)) (body := toldBody) (z := "row")
        (fun a σ => Has σ "word" (.str (Str.ofString w)) ∧ Has σ "place" (.int p) ∧ Has σ "found" (bestV (ltOf w) (atV g0 (.int p)) (a.map fun r => atV r (.int p))) ∧ (bestV (ltOf w) (atV g0 (.int p)) (a.map fun r => atV r (.int p))).isCell = true) (g0 :: grp) [] (freeze ["rows"] (setv [("one", (false, .tup [.str (Str.ofString w), .int p])), ("rows", (false, .list (g0 :: grp))), ("word", (false, .str (Str.ofString w))), ("place", (false, .int p))] "found" (false, atV g0 (.int p))))
        ⟨by walk_at "h", by walk_at "h", by apply h_fr; exact h_eq, hc0⟩ (by
          rintro a it b σ hab ⟨i1, i2, i3, i4⟩
          rw [List.nil_append] at hab
          have hit : it ∈ g0 :: grp := by rw [hab]; simp
          have hsi := hsub it hit
          have hci := hcell it hit
          have k1 := before_eq (X := X) bc n _ _ hci i4
          have k2 := before_eq (X := X) bc n _ _ i4 hci
          obtain ⟨fl, σ', ⟨rfl, e⟩, q⟩ := told_step (cf := callN PP X (n + 1)) (σ := setv σ "row" (false, it)) hlm (by walk_at "h") (by walk_at "h") (by walk_at "h") h_eq hsi hci k1 k2
          refine ⟨.next, σ', ⟨rfl, ?_⟩, q⟩
          subst e
          rw [List.map_append, List.map_cons, List.map_nil, bestV_snoc]
          split
          · exact ⟨by walk_at "h", by walk_at "h", h_eq, hci⟩
          · exact ⟨by walk_at "h", by walk_at "h", by walk_at "h", i4⟩)
      obtain ⟨fr, i3⟩ := i3
      exact q_for (x := .list (g0 :: grp)) (its := g0 :: grp) rfl rfl h3 (q_retv i3 rfl)
    simp only [sumWords, List.mem_cons, List.not_mem_nil, or_false] at hw
    rcases hw with rfl | rfl | rfl | rfl
    · refine q_if (k := true) rfl rfl (fun _ => ?_) nofun
      refine q_ret (d := .int ((g0 :: grp).length : Nat)) (fr := false) rfl rfl ?_
      unfold toldV
      rw [if_pos rfl, List.length_map]
    · refine q_if (k := false) rfl rfl nofun fun _ => q_if (k := true) rfl rfl (fun _ => ?_) nofun
      exact q_ret (v_map (ints_e (x := .list (g0 :: grp)) (its := g0 :: grp) (g := fun r => atV r (.int p)) rfl rfl hl fun it hit => ⟨hcell it hit, v_sub (x := it) (y := .int p) rfl rfl (hsub it hit)⟩) rfl rfl) rfl rfl
    · exact q_if (k := false) rfl rfl nofun fun _ => q_if (k := false) rfl rfl nofun fun _ => hbest (.inl rfl)
    · exact q_if (k := false) rfl rfl nofun fun _ => q_if (k := false) rfl rfl nofun fun _ => hbest (.inr rfl)
  obtain ⟨d, fr, rfl, hc⟩ := rex_call (X := X) (n := n + 1) (args := [.tup [.str (Str.ofString w), .int p], .list (g0 :: grp)]) (by rfl : PP.lookup "told_of" = some fn_told_of) rfl key
  exact ⟨fr, hc⟩
theorem filter_some {l : List D} {p : D → Bool} {x : D} (h : x ∈ l) (hp : p x = true) : (l.filter p).isEmpty = false := by
  cases hh : l.filter p with
  | nil => rw [List.filter_eq_nil_iff] at hh; exact absurd hp (hh x h)
  | cons => rfl
theorem filter_none {l : List D} {p : D → Bool} (h : ∀ x ∈ l, p x = false) : l.filter p = [] := List.filter_eq_nil_iff.mpr fun x hx => by rw [h x hx]; exact Bool.false_ne_true
theorem told_cell {w : String} {c0 : D} {cells : List D} (hc : ∀ c ∈ c0 :: cells, c.isCell = true) : (toldV w (c0 :: cells)).isCell = true := by
  have hb : ∀ {lt : D → D → Bool} {c : D} {l : List D}, c.isCell = true → (∀ x ∈ l, x.isCell = true) → (bestV lt c l).isCell = true := by
    intro lt c l
    induction l generalizing c with
    | nil => exact fun h _ => h
    | cons x l ih =>
      intro h1 h2
      show (bestV lt (if lt x c = true then x else c) l).isCell = true
      refine ih ?_ fun y hy => h2 y (.tail _ hy)
      split
      · exact h2 x (.head _)
      · exact h1
  unfold toldV
  split
  · rfl
  · split
    · rfl
    · split <;> exact hb (hc c0 (.head _)) hc
theorem right (n : Nat) {c0 : D} {cells : List D} (hc : ∀ c ∈ c0 :: cells, c.isCell = true) (hl : (c0 :: cells).length ≤ 1000) {w : String} (hw : w ∈ sumWords) :
    (callN PP X (n + 2)).call "_law_right" [.str (Str.ofString w), toldV w (c0 :: cells), .list (c0 :: cells)] = some (.bool true, false) := by
  have hlb : (c0 :: cells).length ≤ big := Nat.le_trans hl (by decide)
  have ht := told_cell (w := w) hc
  refine run_call (by rfl : PP.lookup "_law_right" = some fn_law_right) rfl ?_
  have hbest : ∀ (lt : D → D → Bool), (∀ a, a.isCell = true → lt a a = false) → (∀ a b c, a.isCell = true → b.isCell = true → c.isCell = true → lt a b = true → lt b c = true → lt a c = true) → (∀ a b, a.isCell = true → b.isCell = true → lt a b = false → lt b a = true ∨ b = a) → toldV w (c0 :: cells) = bestV lt c0 (c0 :: cells) →
      ((c0 :: cells).filter fun c => cellEq (toldV w (c0 :: cells)) c).isEmpty = false ∧ ((c0 :: cells).filter fun c => lt c (toldV w (c0 :: cells))) = [] := by
    intro lt h1 h2 h3 e
    have b := best_ok h1 h2 h3 (c0 :: cells) c0 (hc c0 (.head _)) hc
    rw [← e] at b
    have hm : toldV w (c0 :: cells) ∈ c0 :: cells := by
      rcases List.mem_cons.mp b.1 with h | h
      · rw [h]; exact .head _
      · exact h
    exact ⟨filter_some hm (cellEq_self ht), filter_none fun x hx => b.2 x (.tail _ hx)⟩
  have fil : ∀ {c : ME} {p : D → Bool}, (∀ it ∈ c0 :: cells, evE (callN PP X (n + 1)) (("_law_cell", it) :: vis [("_law_word", (false, .str (Str.ofString w))), ("_law_found", (false, toldV w (c0 :: cells))), ("_law_cells", (false, .list (c0 :: cells)))]) c = some (.bool (p it))) →
      evE (callN PP X (n + 1)) (vis [("_law_word", (false, .str (Str.ofString w))), ("_law_found", (false, toldV w (c0 :: cells))), ("_law_cells", (false, .list (c0 :: cells)))]) (.comp (.var "_law_cell") "_law_cell" (.var "_law_cells") [c]) = some (.list ((c0 :: cells).filter p)) := by
    intro c p h
    exact v_comp (x := .list (c0 :: cells)) (its := c0 :: cells) rfl rfl hlb (compM_filter _ p _ fun it hit => compF_one (h it hit) rfl fun _ => rfl)
  have f1 := fil (p := fun c => cellEq (toldV w (c0 :: cells)) c) (c := .call "_law_cell_is" [.var "_law_found", .var "_law_cell"]) fun it hit => v_callE (v_cons (d := toldV w (c0 :: cells)) rfl (v_cons (d := it) rfl (es_nil _ _))) (cell_is n ht (hc it hit))
  simp only [sumWords, List.mem_cons, List.not_mem_nil, or_false] at hw
  rcases hw with rfl | rfl | rfl | rfl
  · refine r_if (k := true) rfl rfl (fun _ => ?_) nofun
    have q := cell_is (X := X) n (a := toldV "count" (c0 :: cells)) (b := .int ((c0 :: cells).length : Nat)) rfl rfl
    rw [show cellEq (toldV "count" (c0 :: cells)) (.int ((c0 :: cells).length : Nat)) = true from beq_self_eq_true _] at q
    exact r_ret (v_call (v_cons (d := toldV "count" (c0 :: cells)) rfl (v_cons (d := .int ((c0 :: cells).length : Nat)) rfl (es_nil _ _))) q) rfl
  · refine r_if (k := false) rfl rfl nofun fun _ => r_if (k := true) rfl rfl (fun _ => ?_) nofun
    have q := cell_is (X := X) n (a := toldV "sum" (c0 :: cells)) (b := .int (sumV (c0 :: cells))) rfl rfl
    rw [show cellEq (toldV "sum" (c0 :: cells)) (.int (sumV (c0 :: cells))) = true from beq_self_eq_true _] at q
    have s := ints_e (cf := callN PP X (n + 1)) (ρ := vis [("_law_word", (false, .str (Str.ofString "sum"))), ("_law_found", (false, toldV "sum" (c0 :: cells))), ("_law_cells", (false, .list (c0 :: cells)))]) (z := "_law_cell") (src := .var "_law_cells") (x := .list (c0 :: cells)) (its := c0 :: cells) (g := id) (elt := .var "_law_cell") rfl rfl hl fun it hit => ⟨hc it hit, rfl⟩
    rw [List.map_id] at s
    exact r_ret (v_call (v_cons (d := toldV "sum" (c0 :: cells)) rfl (v_cons s (es_nil _ _))) q) rfl
  · obtain ⟨b1, b2⟩ := hbest beforeV (fun a h => before_irr h) (fun a b c h1 h2 h3 => before_trans h1 h2 h3) (fun a b h1 h2 => before_tot h1 h2) rfl
    have f2 := fil (p := fun c => beforeV c (toldV "least" (c0 :: cells))) (c := .call "_law_before" [.var "_law_cell", .var "_law_found"]) fun it hit => v_callE (v_cons (d := it) rfl (v_cons (d := toldV "least" (c0 :: cells)) rfl (es_nil _ _))) (lbefore_eq bc n _ _ (hc it hit) ht)
    rw [b2] at f2
    refine r_if (k := false) rfl rfl nofun fun _ => r_if (k := false) rfl rfl nofun fun _ => r_if (k := false) (v_not f1 rfl) (by show some (!(!_)) = _; rw [b1]; rfl) nofun fun _ => ?_
    exact r_if (k := true) rfl rfl (fun _ => r_ret (v_map (v_not (k := false) f2 rfl) rfl rfl) rfl) nofun
  · obtain ⟨b1, b2⟩ := hbest afterV (fun a h => before_irr h) (fun a b c h1 h2 h3 k1 k2 => before_trans h3 h2 h1 k2 k1) (fun a b h1 h2 h => (before_tot h2 h1 h).imp id Eq.symm) rfl
    have f2 := fil (p := fun c => afterV c (toldV "most" (c0 :: cells))) (c := .call "_law_before" [.var "_law_found", .var "_law_cell"]) fun it hit => v_callE (v_cons (d := toldV "most" (c0 :: cells)) rfl (v_cons (d := it) rfl (es_nil _ _))) (lbefore_eq bc n _ _ ht (hc it hit))
    rw [b2] at f2
    refine r_if (k := false) rfl rfl nofun fun _ => r_if (k := false) rfl rfl nofun fun _ => r_if (k := false) (v_not f1 rfl) (by show some (!(!_)) = _; rw [b1]; rfl) nofun fun _ => ?_
    exact r_if (k := false) rfl rfl nofun fun _ => r_ret (v_map (v_not (k := false) f2 rfl) rfl rfl) rfl
end

set_option maxRecDepth 100000
set_option maxHeartbeats 400000

noncomputable def sumOf (s : String × Nat) : D := .tup [.str (Str.ofString s.1), .int s.2]
noncomputable def Sums (m : Nat) (ss : List (String × Nat)) : Prop := ∀ s ∈ ss, s.1 ∈ sumWords ∧ s.2 < m
noncomputable def toldsV (ss : List (String × Nat)) (grp : List D) : List D := ss.map fun s => toldV s.1 (grp.map fun r => atV r (.int s.2))
noncomputable def foundRow (ps rows : List D) (ss : List (String × Nat)) (k : D) : D := .tup (rowOf k ++ toldsV ss (groupV (keyV ps) rows k))
noncomputable def foundV (ps rows : List D) (ss : List (String × Nat)) : List D := (onceV (rows.map (keyV ps))).map (foundRow ps rows ss)
theorem compM_mm {α : Type} (f : D → Option (Option D)) (h g : α → D) : ∀ (l : List α), (∀ a ∈ l, f (h a) = some (some (g a))) → compM f (l.map h) = some (l.map g)
  | [], _ => rfl
  | a :: r, e => by
    rw [List.map_cons, compM, e a (.head _)]
    show (match compM f (r.map h) with | none => none | some ds => _) = _
    rw [compM_mm f h g r fun i hi => e i (.tail _ hi)]; rfl
theorem dget_map {k : D} (hk : k.isTK = true) (f : D → D) : ∀ (ks : List D), (∀ x ∈ ks, x.isTK = true) → k ∈ ks → dget ks (ks.map f) k = some (f k)
  | [], _, h => nomatch h
  | x :: ks, ht, h => by
    show (if keyEq x k = true then some (f x) else dget ks (ks.map f) k) = _
    split
    · rename_i e; rw [(keyEq_iff (ht x (.head _)) hk).mp e]
    · rename_i e
      rcases List.mem_cons.mp h with rfl | h
      · exact absurd (keyEq_self hk) e
      · exact dget_map hk f ks (fun y hy => ht y (.tail _ hy)) h
section
variable {X : CF} {m : Nat} {ps rows : List D} {ss : List (String × Nat)}
theorem cells_at (n : Nat) {r : D} (hr : Row m r) (hp : Plc m ps) (hl : ps.length ≤ 1000) : (callN PP X (n + 1)).call "cells_at" [r, .tup ps] = some (keyV ps r, false) := by
  refine run_call (by rfl : PP.lookup "cells_at" = some fn_cells_at) rfl ?_
  refine r_ret (v_map (v_blt (v_cons (v_comp (x := .tup ps) (its := ps) (ds := ps.map (atV r)) rfl rfl (Nat.le_trans hl (by decide)) (compM_map _ _ _ fun it hit => ?_)) (es_nil _ _)) rfl) rfl rfl) rfl
  obtain ⟨p, hp, rfl⟩ := hp it hit
  exact compF_nil (v_sub (x := r) (y := .int p) rfl rfl (at_e hr hp))
theorem once_rows (hr : Rows m rows) (hp : Plc m ps) : Once (rows.map (keyV ps)) (onceV (rows.map (keyV ps))) :=
  once_of _ _ rfl fun x hx => by obtain ⟨r, h, rfl⟩ := List.mem_map.mp hx; exact key_tk (hr r h) hp
theorem group_ne (hr : Rows m rows) (hp : Plc m ps) {k : D} (hk : k ∈ onceV (rows.map (keyV ps))) : ∃ g0 grp, groupV (keyV ps) rows k = g0 :: grp ∧ Rows m (g0 :: grp) := by
  have o := once_rows hr hp
  obtain ⟨r, h, rfl⟩ := List.mem_map.mp ((o.mem k).mp hk)
  have hm : r ∈ groupV (keyV ps) rows (keyV ps r) := List.mem_filter.mpr ⟨h, keyEq_self (key_tk (hr r h) hp)⟩
  have hs : Rows m (groupV (keyV ps) rows (keyV ps r)) := fun x hx => hr x (List.mem_filter.mp hx).1
  generalize groupV (keyV ps) rows (keyV ps r) = g at *
  cases g with
  | nil => cases hm
  | cons g0 g => exact ⟨g0, g, rfl, hs⟩
theorem grouped (n : Nat) (hr : Rows m rows) (hl : rows.length ≤ 1000) (hp : Plc m ps) (hpl : ps.length ≤ 1000) (hs : Sums m ss) (hsl : ss.length ≤ 1000) :
    (callN PP X (n + 3)).call "grouped" [.list rows, .tup ps, .tup (ss.map sumOf)] = some (.list (foundV ps rows ss), true) := by
  have hbig : 2000 < big := by decide
  have o := once_rows hr hp
  have g := grp_all (cf := callN PP X (n + 2)) (pl := .tup ps) (K := keyV ps) rows [] (fun r h => key_tk (hr r h) hp) (fun r h => ⟨false, cells_at (n + 1) (hr r h) hp hpl⟩) (by rw [List.nil_append]; omega)
  rw [List.nil_append] at g
  have hlo := onceV_len _ (rows.map (keyV ps)) rfl
  rw [List.length_map] at hlo
  have hG : ∀ k ∈ onceV (rows.map (keyV ps)), subD (.dict (onceV (rows.map (keyV ps))) (((onceV (rows.map (keyV ps))).map (groupV (keyV ps) rows)).map .list)) k = some (.list (groupV (keyV ps) rows k)) := by
    intro k hk
    have hkt := o.tk k hk
    show (if keyOk k _ = true then dget _ _ k else _) = _
    rw [if_pos (by unfold keyOk; rw [hkt, List.all_eq_true.mpr o.tk]; simp), List.map_map]
    exact dget_map hkt (fun x => .list (groupV (keyV ps) rows x)) _ o.tk hk
  have hT := fun {g0 grp} (h1 : Rows m (g0 :: grp)) (h2 : (g0 :: grp).length ≤ 1000) s (h : s ∈ ss) => told_of (X := X) n h1 h2 (hs s h).1 (hs s h).2
  have hgrp := fun {k} (hk : k ∈ onceV (rows.map (keyV ps))) => group_ne hr hp hk
  have hgl : ∀ k, (groupV (keyV ps) rows k).length ≤ 1000 := fun k => Nat.le_trans (List.length_filter_le ..) hl
  have hkey : ∀ k ∈ onceV (rows.map (keyV ps)), k = .tup (rowOf k) ∧ (rowOf k).length ≤ 1000 := by
    intro k hk
    obtain ⟨r, _, rfl⟩ := List.mem_map.mp ((o.mem k).mp hk)
    exact ⟨rfl, by show (ps.map (atV r)).length ≤ 1000; rw [List.length_map]; exact hpl⟩
  refine run_call (by rfl : PP.lookup "grouped" = some fn_grouped) rfl ?_
  refine r_step (p_assign (d := .dict [] []) (fr := true) rfl) ?_
  have hgs : grpS (callN PP X (n + 2)) [("rows", (false, .list rows)), ("places", (false, .tup ps)), ("sums", (false, .tup (ss.map sumOf))), ("groups", (true, .dict [] []))] = some [("rows", (false, .list rows)), ("places", (false, .tup ps)), ("sums", (false, .tup (ss.map sumOf))), ("groups", (false, .dict (onceV (rows.map (keyV ps))) (((onceV (rows.map (keyV ps))).map (groupV (keyV ps) rows)).map .list)))] := by
    show Option.map _ (grpD (callN PP X (n + 2)) (.tup ps) rows [] []) = _
    have g : grpD (callN PP X (n + 2)) (.tup ps) rows [] [] = _ := g
    rw [g]; rfl
  refine r_step (p_grp hgs) ?_
  generalize hGd : D.dict (onceV (rows.map (keyV ps))) (((onceV (rows.map (keyV ps))).map (groupV (keyV ps) rows)).map .list) = G at *
  have hit : G.items = some (onceV (rows.map (keyV ps))) := by rw [← hGd]; rfl
  clear hGd hgs g
  unfold foundV
  generalize onceV (rows.map (keyV ps)) = ks at *
  refine r_step (p_assign (d := .list []) (fr := true) rfl) ?_
  obtain ⟨σ', ⟨_, _, i3⟩, h3⟩ := loop_inv (cf := callN PP X (n + 2)) (body := [.assign "told" (.comp (.call "told_of" [.var "one", .sub (.var "groups") (.var "own")]) "one" (.var "sums") []), .append "found" (.bin .Add (.var "own") (.blt "tuple" [.var "told"]))]) (z := "own")
    (fun a σ => Has σ "groups" G ∧ Has σ "sums" (.tup (ss.map sumOf)) ∧ OwnV σ "found" (.list (a.map (foundRow ps rows ss)))) ks [] [("rows", (false, .list rows)), ("places", (false, .tup ps)), ("sums", (false, .tup (ss.map sumOf))), ("groups", (false, G)), ("found", (true, .list []))]
    ⟨by walk_at "h", by walk_at "h", rfl⟩ (by
      rintro a it b σ hab ⟨i1, i2, i3⟩
      rw [List.nil_append] at hab
      have hit : it ∈ ks := by rw [hab]; simp
      have hal : a.length < ks.length := by rw [hab]; simp
      obtain ⟨g0, grp, eg, hrg⟩ := hgrp hit
      have hg := hG it hit
      have hgl := hgl it
      obtain ⟨ek, hkl⟩ := hkey it hit
      have ef : foundRow ps rows ss it = .tup (rowOf it ++ toldsV ss (g0 :: grp)) := by unfold foundRow; rw [eg]
      rw [eg] at hg hgl
      rw [List.map_append, List.map_cons, List.map_nil, ef]
      have tl : (toldsV ss (g0 :: grp)).length = ss.length := List.length_map ..
      refine o_step (p_assign (d := .list (toldsV ss (g0 :: grp))) (fr := true) (v_map (v_comp (x := .tup (ss.map sumOf)) (its := ss.map sumOf) (by walk_at "v") rfl (by rw [List.length_map]; omega) (compM_mm _ _ _ _ fun s h => compF_nil ?_)) rfl rfl)) ?_
      · obtain ⟨fr, t⟩ := hT hrg hgl s h
        have t : (callN PP X (n + 2)).call "told_of" [sumOf s, .list (g0 :: grp)] = _ := t
        walk_at "v"
      · have e : binD .Add it (.tup (toldsV ss (g0 :: grp))) = some (.tup (rowOf it ++ toldsV ss (g0 :: grp))) := by
          rw [ek]; exact bin_tt (by rw [tl]; omega)
        refine o_step (p_append (d := .tup (rowOf it ++ toldsV ss (g0 :: grp))) (ds := a.map (foundRow ps rows ss)) (v_bin (x := it) (y := .tup (toldsV ss (g0 :: grp))) (by walk_at "v") (v_blt (v_cons (d := .list (toldsV ss (g0 :: grp))) (by walk_at "v") (es_nil _ _)) rfl) e) (?_ : OwnV _ _ _) (by rw [List.length_map]; omega)) (o_nil ⟨rfl, ?_, ?_, w_eq⟩)
        · walk_at "h"
        · walk_at "h"
        · walk_at "h")
  exact r_for (x := G) (its := ks) rfl hit h3 (r_retv i3)
end

set_option maxRecDepth 100000
set_option maxHeartbeats 400000

theorem steps_at (n : Nat) : (callN PP X6 n).glob "STEPS" = some (.tup steps) := glob_x PP X6 n "STEPS"
noncomputable def q0 : D := .tup [.str (Str.ofString "table"), .str (Str.ofString "t")]
noncomputable def tabs (rows : List D) : D := .dict [.str (Str.ofString "t")] [.list rows]
section
variable {X : CF} {m : Nat} {ps rows : List D} {ss : List (String × Nat)}
theorem stepped_g (n : Nat) (hr : Rows m rows) (hl : rows.length ≤ 1000) (hp : Plc m ps) (hpl : ps.length ≤ 1000) (hs : Sums m ss) (hsl : ss.length ≤ 1000) :
    (callN PP X6 (n + 4)).call "stepped" [.tup [.str (Str.ofString "group"), .tup ps, .tup (ss.map sumOf), q0], .list rows] = some (.list (foundV ps rows ss), true) := by
  have h := grouped (X := X6) n hr hl hp hpl hs hsl
  refine run_call (by rfl : PP.lookup "stepped" = some fn_stepped) rfl ?_
  generalize callN PP X6 (n + 3) = cf at *
  generalize D.tup (ss.map sumOf) = S at *
  generalize foundV ps rows ss = F at *
  walk_at "s"
theorem ans_table (n : Nat) : (callN PP X6 (n + 1)).call "answer" [q0, tabs rows] = some (.list rows, true) := by
  have hg := steps_at n
  have h1 : cmpD .NotIn (.str (Str.ofString "t")) (tabs rows) = some (.bool false) := rfl
  have h2 : subD (tabs rows) (.str (Str.ofString "t")) = some (.list rows) := rfl
  refine run_call (by rfl : PP.lookup "answer" = some fn_answer) rfl ?_
  generalize callN PP X6 n = cf at *
  unfold q0
  generalize tabs rows = T at *
  walk_at "s"
theorem ans_group (n : Nat) (hr : Rows m rows) (hl : rows.length ≤ 1000) (hp : Plc m ps) (hpl : ps.length ≤ 1000) (hs : Sums m ss) (hsl : ss.length ≤ 1000) :
    (callN PP X6 (n + 5)).call "answer" [.tup [.str (Str.ofString "group"), .tup ps, .tup (ss.map sumOf), q0], tabs rows] = some (.list (foundV ps rows ss), true) := by
  have hg := steps_at (n + 4)
  have h1 := ans_table (rows := rows) (n + 3)
  have h2 := stepped_g n hr hl hp hpl hs hsl
  refine run_call (by rfl : PP.lookup "answer" = some fn_answer) rfl ?_
  generalize callN PP X6 (n + 4) = cf at *
  generalize tabs rows = T at *
  generalize D.tup (ss.map sumOf) = S at *
  generalize foundV ps rows ss = F at *
  walk_at "s"
theorem fits (n : Nat) {hd : List D} (hf : Flat hd) {g0 : D} {grp : List D} (hr : Rows m (g0 :: grp)) (hl : (g0 :: grp).length ≤ 1000) (hs : Sums m ss) (hsl : ss.length ≤ 1000) :
    (callN PP X (n + 3)).call "_law_fits" [.tup (hd ++ toldsV ss (g0 :: grp)), .list hd, .list (g0 :: grp), .list (ss.map sumOf)] = some (.bool true, false) := by
  have hbig : 2000 < big := by decide
  have tl : (toldsV ss (g0 :: grp)).length = ss.length := List.length_map ..
  have hrow := row_is (X := X) n hf (due := .list hd) (.inr rfl)
  have hsl2 : slD (.tup (hd ++ toldsV ss (g0 :: grp))) .none (.int hd.length) = some (.tup hd) := by
    have : bnd (.int hd.length) (hd ++ toldsV ss (g0 :: grp)).length = some hd.length := rfl
    show (bnd D.none 0).bind (fun a => (bnd (.int hd.length) (hd ++ toldsV ss (g0 :: grp)).length).map fun b => D.tup (((hd ++ toldsV ss (g0 :: grp)).take b).drop a)) = _
    rw [this]
    show some (D.tup (((hd ++ toldsV ss (g0 :: grp)).take hd.length).drop 0)) = _
    rw [List.drop_zero, List.take_left]
  have hne : cmpD .NotEq (.int ((hd ++ toldsV ss (g0 :: grp)).length : Nat)) (.int ((hd.length : Nat) + ((ss.map sumOf).length : Nat))) = some (.bool false) := by
    rw [List.length_append, tl, List.length_map, Int.natCast_add]; exact neq_self _
  have hright : ∀ i (h : i < ss.length), (callN PP X (n + 2)).call "_law_right" [.str (Str.ofString ss[i].1), toldV ss[i].1 ((g0 :: grp).map fun r => atV r (.int ss[i].2)), .list ((g0 :: grp).map fun r => atV r (.int ss[i].2))] = some (.bool true, false) := by
    intro i h
    have hi := hs _ (List.getElem_mem h)
    refine right n (fun c hc => ?_) (by simpa using hl) hi.1
    obtain ⟨r, hr', rfl⟩ := List.mem_map.mp (show c ∈ (g0 :: grp).map fun r => atV r (.int ss[i].2) from hc)
    exact at_cell (hr r hr') hi.2
  have hpl : ∀ i (h : i < ss.length) r, r ∈ g0 :: grp → subD r (.int ss[i].2) = some (atV r (.int ss[i].2)) := fun i h r hr' => at_e (hr r hr') (hs _ (List.getElem_mem h)).2
  have htold : ∀ i (h : i < ss.length), subD (.tup (hd ++ toldsV ss (g0 :: grp))) (.int ((hd.length : Nat) + (i : Nat))) = some (toldV ss[i].1 ((g0 :: grp).map fun r => atV r (.int ss[i].2))) := by
    intro i h
    rw [← Int.natCast_add]
    refine sub_t (by rw [List.length_append, tl]; omega) ?_
    rw [List.getElem?_append_right (by omega), Nat.add_sub_cancel_left]
    unfold toldsV
    rw [List.getElem?_map, List.getElem?_eq_getElem h]; rfl
  have hsum : ∀ i (h : i < ss.length), subD (.list (ss.map sumOf)) (.int i) = some (.tup [.str (Str.ofString ss[i].1), .int ss[i].2]) := by
    intro i h
    refine sub_l (by rw [List.length_map]; exact h) ?_
    rw [List.getElem?_map, List.getElem?_eq_getElem h]; rfl
  have hlen : bltD "len" [.list (ss.map sumOf)] = some (.int ss.length) := by show some (D.int ((ss.map sumOf).length : Nat)) = _; rw [List.length_map]
  refine run_call (by rfl : PP.lookup "_law_fits" = some fn_law_fits) rfl ?_
  refine r_if (k := false) (x := .bool (false || false)) (v_or (l := false) rfl fun _ => v_bop1 (v_cmp rfl rfl hne)) rfl nofun fun _ => ?_
  refine r_if (k := false) (x := .bool (!true)) (v_not (v_callE (v_cons (v_sl (x := .tup (hd ++ toldsV ss (g0 :: grp))) (u := .none) (v := .int hd.length) rfl rfl rfl hsl2) (v_cons (d := .list hd) rfl (es_nil _ _))) hrow) rfl) rfl nofun fun _ => ?_
  generalize htd : toldsV ss (g0 :: grp) = td at *
  generalize hsd : ss.map sumOf = sd at *
  obtain ⟨σ', _, h3⟩ := loop_inv (cf := callN PP X (n + 2)) (body := [.ite (.not (.call "_law_right" [.sub (.sub (.var "_law_sums") (.var "_law_k")) (.int 0), .sub (.var "_law_found") (.bin .Add (.blt "len" [.var "_law_head"]) (.var "_law_k")), .comp (.sub (.var "_law_row") (.sub (.sub (.var "_law_sums") (.var "_law_k")) (.int 1))) "_law_row" (.var "_law_group") []])) [.ret (.bool false)] []]) (z := "_law_k")
    (fun _ σ => Has σ "_law_found" (.tup (hd ++ td)) ∧ Has σ "_law_head" (.list hd) ∧ Has σ "_law_group" (.list (g0 :: grp)) ∧ Has σ "_law_sums" (.list sd)) ((List.range ss.length).map fun (i : Nat) => D.int (i : Int)) [] [("_law_found", (false, .tup (hd ++ td))), ("_law_head", (false, .list hd)), ("_law_group", (false, .list (g0 :: grp))), ("_law_sums", (false, .list sd))]
    ⟨by walk_at "h", by walk_at "h", by walk_at "h", by walk_at "h"⟩ (by
      rintro a it b σ hab ⟨i1, i2, i3, i4⟩
      obtain ⟨i, hi, rfl⟩ : ∃ i : Nat, i ∈ List.range ss.length ∧ D.int (i : Int) = it := List.mem_map.mp (by rw [List.nil_append] at hab; rw [hab]; simp)
      have hi := List.mem_range.mp hi
      have r1 := hright i hi
      have r2 := htold i hi
      have r3 := hsum i hi
      have r4 := hpl i hi
      have r5 : bltD "len" [.list hd] = some (.int hd.length) := rfl
      refine o_if (k := false) (x := .bool (!true)) (v_not (v_callE (v_cons (d := .str (Str.ofString ss[i].1)) (by walk_at "v") (v_cons (by walk_at "v") (v_cons (v_comp (x := .list (g0 :: grp)) (its := g0 :: grp) (by walk_at "v") rfl (by omega) (compM_map _ (fun r => atV r (.int ss[i].2)) _ fun r hr' => compF_nil ?_)) (es_nil _ _)))) r1) rfl) rfl nofun fun _ => o_nil ⟨rfl, by walk_at "h", by walk_at "h", by walk_at "h", by walk_at "h"⟩
      have r6 := r4 r hr'
      walk_at "v")
  refine r_for (x := .rng 0 ss.length) (v_blt (v_cons (d := .int ss.length) (v_blt (v_cons (d := .list sd) rfl (es_nil _ _)) hlen) (es_nil _ _)) (blt_rng (by omega))) (items_rng ss.length) h3 ?_
  exact r_ret (v_map (e_bool _ _ _) rfl rfl) rfl
end
/-! which rows come first in their group -/
theorem like_first (p : Nat → Bool) {N k : Nat} (hk : k < N) (hp : p k = true) : ∃ j l, (List.range N).filter p = j :: l ∧ j ≤ k ∧ p j = true ∧ ∀ i < j, p i = false := by
  cases h : (List.range N).filter p with
  | nil => rw [List.filter_eq_nil_iff] at h; exact absurd hp (h k (List.mem_range.mpr hk))
  | cons j l =>
    have e : (List.range N).find? p = some j := by rw [← List.head?_filter, h]; rfl
    rw [List.find?_range_eq_some] at e
    obtain ⟨e1, e2, e3⟩ := e
    have e3' : ∀ i < j, p i = false := fun i hi => by simpa using e3 i hi
    refine ⟨j, l, rfl, ?_, e1, e3'⟩
    refine Nat.le_of_not_lt fun hlt => ?_
    rw [e3' k hlt] at hp; cases hp
theorem range_getD (rows : List D) : (List.range rows.length).map (fun i => rows.getD i .none) = rows := by
  apply List.ext_getElem
  · simp
  · intro i h1 h2
    simp only [List.getElem_map, List.getElem_range]
    rw [List.getD_eq_getElem?_getD, List.getElem?_eq_getElem h2]; rfl
section
variable {m : Nat} {ps rows : List D} {k : Nat}
noncomputable def eqAt (ps rows : List D) (k i : Nat) : Bool := keyEq (keyV ps (rows.getD i .none)) (keyV ps (rows.getD k .none))
theorem getD_mem {i : Nat} (h : i < rows.length) : rows.getD i .none ∈ rows := by
  rw [List.getD_eq_getElem?_getD, List.getElem?_eq_getElem h]; exact List.getElem_mem h
theorem group_like (hr : Rows m rows) (hp : Plc m ps) (hk : k < rows.length) : ((List.range rows.length).filter (eqAt ps rows k)).map (fun i => rows.getD i .none) = groupV (keyV ps) rows (keyV ps (rows.getD k .none)) := by
  have hkt := key_tk (hr _ (getD_mem hk)) hp
  have : ((List.range rows.length).filter (eqAt ps rows k)).map (fun i => rows.getD i .none) = ((List.range rows.length).map (fun i => rows.getD i .none)).filter fun r => keyEq (keyV ps r) (keyV ps (rows.getD k .none)) := by
    rw [List.filter_map]; rfl
  rw [this, range_getD]
  unfold groupV
  exact List.filter_congr fun r h => keyEq_comm (key_tk (hr r h) hp) hkt
theorem take_next (hk : k < rows.length) : (rows.take (k + 1)).map (keyV ps) = (rows.take k).map (keyV ps) ++ [keyV ps (rows.getD k .none)] := by
  rw [List.take_add_one, List.map_append, List.getD_eq_getElem?_getD, List.getElem?_eq_getElem hk]; rfl
theorem once_take (hr : Rows m rows) (hp : Plc m ps) : Once ((rows.take k).map (keyV ps)) (onceV ((rows.take k).map (keyV ps))) :=
  once_rows (fun r h => hr r (List.mem_of_mem_take h)) hp
theorem at_new (hr : Rows m rows) (hp : Plc m ps) (hk : k < rows.length) (h : ∀ i < k, eqAt ps rows k i = false) : onceV ((rows.take (k + 1)).map (keyV ps)) = onceV ((rows.take k).map (keyV ps)) ++ [keyV ps (rows.getD k .none)] := by
  have o := once_take (k := k) hr hp
  have hkt := key_tk (hr _ (getD_mem hk)) hp
  rw [take_next hk, onceV_snoc]
  refine gnewK_out o.tk hkt fun hm => ?_
  obtain ⟨r, hr', e⟩ := List.mem_map.mp ((o.mem _).mp hm)
  obtain ⟨i, hi, e2⟩ := List.mem_iff_getElem.mp hr'
  rw [List.length_take] at hi
  rw [List.getElem_take] at e2
  have hn := h i (by omega)
  unfold eqAt at hn
  have e3 : rows.getD i .none = r := by rw [List.getD_eq_getElem?_getD, List.getElem?_eq_getElem (by omega), ← e2]; rfl
  rw [e3, e, keyEq_self hkt] at hn
  cases hn
theorem at_old (hr : Rows m rows) (hp : Plc m ps) (hk : k < rows.length) {j : Nat} (hj : j < k) (h : eqAt ps rows k j = true) : onceV ((rows.take (k + 1)).map (keyV ps)) = onceV ((rows.take k).map (keyV ps)) := by
  have o := once_take (k := k) hr hp
  have hkt := key_tk (hr _ (getD_mem hk)) hp
  rw [take_next hk, onceV_snoc]
  refine gnewK_in o.tk hkt ((o.mem _).mpr ?_)
  have hjt := key_tk (hr _ (getD_mem (show j < rows.length by omega))) hp
  rw [← (keyEq_iff hjt hkt).mp h]
  refine List.mem_map.mpr ⟨_, ?_, rfl⟩
  rw [List.getD_eq_getElem?_getD, List.getElem?_eq_getElem (by omega)]
  exact List.mem_take_iff_getElem.mpr ⟨j, by omega, rfl⟩
theorem found_at {ss : List (String × Nat)} (hr : Rows m rows) (hp : Plc m ps) (hk : k < rows.length) (h : ∀ i < k, eqAt ps rows k i = false) :
    (onceV ((rows.take k).map (keyV ps))).length < (foundV ps rows ss).length ∧ (foundV ps rows ss)[(onceV ((rows.take k).map (keyV ps))).length]? = some (foundRow ps rows ss (keyV ps (rows.getD k .none))) := by
  obtain ⟨s, e⟩ := onceV_pre ((rows.take (k + 1)).map (keyV ps)) ((rows.drop (k + 1)).map (keyV ps))
  rw [← List.map_append, List.take_append_drop, at_new hr hp hk h, List.append_assoc] at e
  unfold foundV
  rw [e]
  constructor
  · simp
  · rw [List.map_append, List.getElem?_append_right (by simp)]
    simp
end

set_option maxRecDepth 100000
set_option maxHeartbeats 400000

noncomputable def likeBody : List MS := [.ite (.not (.comp (.var "_law_place") "_law_place" (.var "_law_places") [.not (.call "_law_alike" [.sub (.sub (.var "_law_rows") (.var "_law_n")) (.var "_law_place"), .sub (.sub (.var "_law_rows") (.var "_law_k")) (.var "_law_place")])])) [.append "_law_like" (.var "_law_n")] []]
noncomputable def turnRest : List MS := [.ite (.cmp .Eq (.sub (.var "_law_like") (.int 0)) (.var "_law_k")) [.ite (.bop .Or [.not (.isi (.var "_law_found") "list"), .cmp .GtE (.var "_law_at") (.blt "len" [.var "_law_found"])]) [.ret (.bool false)] [], .ite (.not (.call "_law_fits" [.sub (.var "_law_found") (.var "_law_at"), .var "_law_head", .comp (.sub (.var "_law_rows") (.var "_law_n")) "_law_n" (.var "_law_like") [], .var "_law_sums"])) [.ret (.bool false)] [], .assign "_law_at" (.bin .Add (.var "_law_at") (.int 1))] []]
noncomputable def sumsBody : List MS := [.append "_law_sums" (.tup [.sub (.var "_law_words") (.bin .Mod (.call "_law_mixed" [.var "_law_more", .var "_law_k"]) (.int 4)), .bin .Mod (.call "_law_mixed" [.var "_law_more", .bin .Add (.int 20) (.var "_law_k")]) (.blt "max" [.int 1, .var "_law_wide"])])]
theorem v_dct1 {cf : CF} {ρ : List (String × D)} {a b : ME} {x y : D} (ha : evE cf ρ a = some x) (hb : evE cf ρ b = some y) (hx : x.isCell = true) : evE cf ρ (.dct [a] [b]) = some (.dict [x] [y]) := by
  rw [e_dct, v_cons ha (es_nil _ _), v_cons hb (es_nil _ _)]
  show (if ((x.isCell && true) && true && decide (1 ≤ 15)) = true then _ else _) = _
  rw [hx]; rfl
/-- a list from range(n) -/
theorem v_rowsL {cf : CF} {ρ : List (String × D)} {z : String} {elt src : ME} {k : Nat} (hk : k ≤ 1000) (R : D → Prop) (hs : evE cf ρ src = some (.int k)) (h : ∀ i : Nat, i < k → ∃ d, R d ∧ evE cf ((z, .int i) :: ρ) elt = some d) :
    ∃ ds : List D, ds.length = k ∧ (∀ d ∈ ds, R d) ∧ evE cf ρ (.comp elt z (.blt "range" [src]) []) = some (.list ds) := by
  obtain ⟨ds, e, hl, hq⟩ := compM_ok (compF cf ρ elt z []) (fun _ d => R d) ((List.range k).map fun (i : Nat) => D.int (i : Int)) (by
    intro it hit
    obtain ⟨i, hi, rfl⟩ := List.mem_map.mp hit
    obtain ⟨d, q, e⟩ := h i (List.mem_range.mp hi)
    exact ⟨d, q, compF_nil e⟩)
  have hb : k ≤ big := Nat.le_trans hk (by decide)
  have hl' : ((List.range k).map fun (i : Nat) => D.int (i : Int)).length = k := by simp
  refine ⟨ds, hl.trans hl', fun d hd => let ⟨_, _, q⟩ := hq d hd; q, ?_⟩
  exact v_comp (v_blt (v_cons hs (es_nil _ _)) (blt_rng hb)) (items_rng k) (Nat.le_trans (Nat.le_of_eq hl') hb) e
/-- the prefixes of range(n) -/
theorem range_at {N : Nat} {a b : List D} {it : D} (h : ((List.range N).map fun (i : Nat) => D.int (i : Int)) = a ++ it :: b) : it = .int a.length ∧ a.length < N ∧ a = (List.range a.length).map fun (i : Nat) => D.int (i : Int) := by
  have hl := congrArg List.length h
  simp at hl
  have h1 := congrArg (fun l => l[a.length]?) h
  simp only [List.getElem?_append_right (Nat.le_refl _), Nat.sub_self, List.getElem?_cons_zero] at h1
  rw [List.getElem?_map, List.getElem?_range (by omega)] at h1
  injection h1 with h1
  refine ⟨h1.symm, by omega, ?_⟩
  have h2 := congrArg (List.take a.length) h
  rw [List.take_left, ← List.map_take, List.take_range, Nat.min_eq_left (by omega)] at h2
  exact h2.symm
theorem cells_all (a b : D → D) : ∀ (ps : List D), cellsEq (ps.map a) (ps.map b) = (ps.filter fun pl => !cellEq (a pl) (b pl)).isEmpty
  | [] => rfl
  | p :: ps => by
    show (cellEq (a p) (b p) && cellsEq (ps.map a) (ps.map b)) = _
    rw [cells_all a b ps, List.filter_cons]
    cases cellEq (a p) (b p) <;> rfl
section
variable {X : CF} {cf : CF} {m : Nat} {ps rows : List D} {ss : List (String × Nat)} {k : Nat} {σ : St}
theorem subs_at {i : Nat} (hi : i < rows.length) : subD (.list rows) (.int i) = some (rows.getD i .none) := sub_l hi (by rw [List.getD_eq_getElem?_getD, List.getElem?_eq_getElem hi]; rfl)
/-- the rows that are like row k -/
theorem like_loop (hr : Rows m rows) (hl : rows.length ≤ 1000) (hp : Plc m ps) (hpl : ps.length ≤ 1000) (hk : k < rows.length) (hal : ∀ a b : D, a.isCell = true → b.isCell = true → cf.call "_law_alike" [a, b] = some (.bool (cellEq a b), false)) (F : List (String × D)) (hF : ∀ p ∈ F, Has σ p.1 p.2 ∧ (p.1 == "_law_like") = false ∧ (p.1 == "_law_n") = false)
    (a1 : Has σ "_law_rows" (.list rows)) (a2 : Has σ "_law_places" (.list ps)) (a3 : Has σ "_law_k" (.int k)) (a4 : OwnV σ "_law_like" (.list [])) :
    ∃ σ', (∀ p ∈ F, Has σ' p.1 p.2) ∧ Has σ' "_law_like" (.list (((List.range rows.length).filter (eqAt ps rows k)).map fun (i : Nat) => D.int (i : Int))) ∧ forD (bodyF cf likeBody "_law_n") ((List.range rows.length).map fun (i : Nat) => D.int (i : Int)) σ = some (.next, σ') := by
  have hbig : 2000 < big := by decide
  have hrk := hr _ (getD_mem hk)
  have sk := subs_at hk
  obtain ⟨σ', ⟨i1, _, _, _, i5⟩, h3⟩ := loop_inv (cf := cf) (body := likeBody) (z := "_law_n")
    (fun a σ => (∀ p ∈ F, Has σ p.1 p.2) ∧ Has σ "_law_rows" (.list rows) ∧ Has σ "_law_places" (.list ps) ∧ Has σ "_law_k" (.int k) ∧ OwnV σ "_law_like" (.list (((List.range a.length).filter (eqAt ps rows k)).map fun (i : Nat) => D.int (i : Int)))) ((List.range rows.length).map fun (i : Nat) => D.int (i : Int)) [] σ
    ⟨fun p hp => (hF p hp).1, a1, a2, a3, a4⟩ (by
      rintro a it b σ hab ⟨i1, i2, i3, i4, i5⟩
      rw [List.nil_append] at hab
      obtain ⟨rfl, hal2, -⟩ := range_at hab
      have hri := hr _ (getD_mem hal2)
      have si := subs_at hal2
      have hcond : evE cf (vis (setv σ "_law_n" (false, .int a.length))) (.not (.comp (.var "_law_place") "_law_place" (.var "_law_places") [.not (.call "_law_alike" [.sub (.sub (.var "_law_rows") (.var "_law_n")) (.var "_law_place"), .sub (.sub (.var "_law_rows") (.var "_law_k")) (.var "_law_place")])])) = some (.bool (eqAt ps rows k a.length)) := by
        have e : eqAt ps rows k a.length = !(!(ps.filter fun pl => !cellEq (atV (rows.getD a.length .none) pl) (atV (rows.getD k .none) pl)).isEmpty) := by
          rw [Bool.not_not]; exact cells_all _ _ _
        rw [e]
        refine v_not (v_comp (x := .list ps) (its := ps) (ds := ps.filter fun pl => !cellEq (atV (rows.getD a.length .none) pl) (atV (rows.getD k .none) pl)) (by walk_at "v") rfl (by omega) (compM_filter _ _ _ fun pl hpl => ?_)) rfl
        obtain ⟨p, hp', rfl⟩ := hp pl hpl
        have s1 := at_e hri hp'
        have s2 := at_e hrk hp'
        have s3 := hal _ _ (at_cell hri hp') (at_cell hrk hp')
        exact compF_one (v_not (by walk_at "v") rfl) rfl fun _ => hr_eq
      have hsn : ((List.range (a ++ [D.int a.length]).length).filter (eqAt ps rows k)).map (fun (i : Nat) => D.int (i : Int)) = ((List.range a.length).filter (eqAt ps rows k)).map (fun (i : Nat) => D.int (i : Int)) ++ (if eqAt ps rows k a.length = true then [D.int a.length] else []) := by
        rw [List.length_append, List.length_singleton, List.range_succ, List.filter_append, List.map_append]
        congr 1
        show List.map _ (match eqAt ps rows k a.length with | true => _ | false => _) = _
        cases eqAt ps rows k a.length <;> rfl
      have hfl : (((List.range a.length).filter (eqAt ps rows k)).map fun (i : Nat) => D.int (i : Int)).length < big := by
        have := List.length_filter_le (eqAt ps rows k) (List.range a.length)
        rw [List.length_range] at this
        rw [List.length_map]; omega
      rw [hsn]
      refine o_if hcond rfl (fun hh => ?_) fun hh => ?_
      · rw [hh, if_pos rfl]
        refine o_step (p_append (d := .int a.length) (v_var (hr_vis h_eq)) (?_ : OwnV _ _ _) hfl) (o_nil ⟨rfl, ?_, ?_, ?_, ?_, w_eq⟩)
        · walk_at "h"
        · intro p hp
          obtain ⟨_, n1, n2⟩ := hF p hp
          exact h_ne n1 (h_st (h_ne n2 (i1 p hp)))
        · walk_at "h"
        · walk_at "h"
        · walk_at "h"
      · rw [hh, if_neg Bool.false_ne_true]
        refine o_nil ⟨rfl, ?_, ?_, ?_, ?_, ?_⟩
        · intro p hp
          obtain ⟨_, n1, n2⟩ := hF p hp
          exact h_ne n2 (i1 p hp)
        · walk_at "h"
        · walk_at "h"
        · walk_at "h"
        · rw [List.append_nil]; walk_at "h")
  refine ⟨σ', i1, ?_, h3⟩
  rw [List.nil_append, List.length_map, List.length_range] at i5
  exact h_own i5
/-- one turn of the law's loop -/
noncomputable def turnIs (ps rows : List D) (ss : List (String × Nat)) (k : Nat) (σ : St) : Prop :=
  Has σ "_law_rows" (.list rows) ∧ Has σ "_law_places" (.list ps) ∧ Has σ "_law_sums" (.list (ss.map sumOf)) ∧ Has σ "_law_found" (.list (foundV ps rows ss)) ∧ Has σ "_law_at" (.int (onceV ((rows.take k).map (keyV ps))).length)
theorem turn_rest (hr : Rows m rows) (hl : rows.length ≤ 1000) (hp : Plc m ps) (hpl : ps.length ≤ 1000) (hk : k < rows.length)
    (hfit : ∀ {hd : List D}, Flat hd → ∀ {g0 : D} {grp : List D}, Rows m (g0 :: grp) → (g0 :: grp).length ≤ 1000 → cf.call "_law_fits" [.tup (hd ++ toldsV ss (g0 :: grp)), .list hd, .list (g0 :: grp), .list (ss.map sumOf)] = some (.bool true, false))
    (h : turnIs ps rows ss k σ) (a3 : Has σ "_law_k" (.int k)) (a4 : Has σ "_law_head" (.list (ps.map (atV (rows.getD k .none))))) (a5 : Has σ "_law_like" (.list (((List.range rows.length).filter (eqAt ps rows k)).map fun (i : Nat) => D.int (i : Int)))) :
    Out cf turnRest σ fun fl σ' => fl = .next ∧ turnIs ps rows ss (k + 1) σ' := by
  have hbig : 2000 < big := by decide
  obtain ⟨b1, b2, b3, b4, b5⟩ := h
  have hrk := hr _ (getD_mem hk)
  have hkt := key_tk hrk hp
  obtain ⟨j, l, ej, hjk, pj, hno⟩ := like_first (eqAt ps rows k) hk (keyEq_self hkt)
  have hgl := group_like hr hp hk
  have hfl : ((List.range rows.length).filter (eqAt ps rows k)).length ≤ 1000 := by
    have := List.length_filter_le (eqAt ps rows k) (List.range rows.length)
    rw [List.length_range] at this; omega
  have hin : ∀ i ∈ (List.range rows.length).filter (eqAt ps rows k), i < rows.length := fun i h => List.mem_range.mp (List.mem_filter.mp h).1
  have s0 : subD (.list (((List.range rows.length).filter (eqAt ps rows k)).map fun (i : Nat) => D.int (i : Int))) (.int 0) = some (.int j) := by
    rw [ej]; exact sub_l (k := 0) (Nat.zero_lt_succ _) rfl
  have hc : cmpD .Eq (.int j) (.int k) = some (.bool ((j : Int) == k)) := rfl
  refine o_if (k := (j : Int) == k) (by walk_at "v") rfl (fun hh => ?_) fun hh => ?_
  · have e : j = k := Int.ofNat.inj (eq_of_beq hh)
    subst e
    have hn := at_new hr hp hk hno
    obtain ⟨f1, f2⟩ := found_at (ss := ss) hr hp hk hno
    obtain ⟨g0, grp, eg, hrg⟩ := group_ne hr hp (k := keyV ps (rows.getD j .none)) ((once_rows hr hp).mem _ |>.mpr (List.mem_map.mpr ⟨_, getD_mem hk, rfl⟩))
    have ef : foundRow ps rows ss (keyV ps (rows.getD j .none)) = .tup (ps.map (atV (rows.getD j .none)) ++ toldsV ss (g0 :: grp)) := by unfold foundRow; rw [eg]; rfl
    have hglen : (g0 :: grp).length ≤ 1000 := by rw [← eg, ← hgl, List.length_map]; exact hfl
    have hfl2 : Flat (ps.map (atV (rows.getD j .none))) := ⟨by rw [List.length_map]; exact hpl, fun d hd => by
      obtain ⟨pl, h1, rfl⟩ := List.mem_map.mp hd
      obtain ⟨p, h2, rfl⟩ := hp pl h1
      exact at_cell hrk h2⟩
    have fit := hfit hfl2 hrg hglen
    have sf : subD (.list (foundV ps rows ss)) (.int (onceV ((rows.take j).map (keyV ps))).length) = some (.tup (ps.map (atV (rows.getD j .none)) ++ toldsV ss (g0 :: grp))) := by rw [← ef]; exact sub_l f1 f2
    have hge : cmpD .GtE (.int (onceV ((rows.take j).map (keyV ps))).length) (.int (foundV ps rows ss).length) = some (.bool false) := by
      show some (D.bool (decide _)) = _
      rw [decide_eq_false]; show ¬ ((foundV ps rows ss).length : Int) ≤ _; omega
    have hlen : bltD "len" [.list (foundV ps rows ss)] = some (.int (foundV ps rows ss).length) := rfl
    refine o_if (k := false) (x := .bool ((!true) || false)) (v_or (k := !true) (l := false) (v_not (k := true) (v_isi (x := .list (foundV ps rows ss)) (by walk_at "v") rfl) rfl) fun _ => v_bop1 (by walk_at "v")) rfl nofun fun _ => ?_
    refine o_if (k := false) (x := .bool (!true)) (v_not (v_callE (v_cons (v_sub (by walk_at "v") (by walk_at "v") sf) (v_cons (by walk_at "v") (v_cons (d := .list (g0 :: grp)) ?_ (v_cons (by walk_at "v") (es_nil _ _))))) fit) rfl) rfl nofun fun _ => ?_
    · rw [← eg, ← hgl]
      refine v_comp (by walk_at "v") rfl (by rw [List.length_map]; omega) (compM_mm _ _ _ _ fun i hi => compF_nil ?_)
      have si := subs_at (rows := rows) (hin i hi)
      walk_at "v"
    · refine o_step (p_assign (d := .int ((onceV ((rows.take j).map (keyV ps))).length + 1)) (fr := false) (by walk_at "v")) (o_nil ⟨rfl, ?_, ?_, ?_, ?_, ?_⟩)
      · walk_at "h"
      · walk_at "h"
      · walk_at "h"
      · walk_at "h"
      · rw [hn, List.length_append, List.length_singleton, Int.natCast_add]; exact h_eq
  · have e : j < k := by
      have : ¬ (j : Int) = k := by simpa using hh
      omega
    have ho := at_old hr hp hk e pj
    refine o_nil ⟨rfl, b1, b2, b3, b4, ?_⟩
    rw [ho]; exact b5
end

set_option maxRecDepth 100000
set_option maxHeartbeats 400000

theorem min_max (m : Nat) : ∃ mn mm : Nat, mn ≤ 1 ∧ (m = 0 → mn = 0) ∧ bltD "min" [.int 1, .int m] = some (.int mn) ∧ (m ≠ 0 → mm = m) ∧ 0 < mm ∧ bltD "max" [.int 1, .int m] = some (.int mm) := by
  by_cases h0 : m = 0
  · subst h0; exact ⟨0, 1, by decide, fun _ => rfl, rfl, fun h => absurd rfl h, by decide, rfl⟩
  · refine ⟨1, m, by decide, fun h => absurd h h0, ?_, fun _ => rfl, by omega, ?_⟩
    · show some (D.int (if (m : Int) < 1 then m else 1)) = _
      rw [if_neg (by omega)]; rfl
    · show some (D.int (if (m : Int) > 1 then m else 1)) = _
      by_cases h : (m : Int) > 1
      · rw [if_pos h]
      · rw [if_neg h, show (m : Int) = 1 by omega]
theorem count_by (z a b c : Int) (ha : 0 < a) (ha' : a < 100) (hc : 0 ≤ c) (hc' : c < 100) {mn : Nat} (hmn : mn ≤ 1) : ∃ kk : Nat, kk ≤ 200 ∧ (mn = 0 → kk = 0) ∧ binD .Mult (.int (z % a + z / b % 9 / 8 * c)) (.int mn) = some (.int kk) := by
  have h1 := Int.emod_nonneg z (b := a) (by omega)
  have h2 := Int.emod_lt_of_pos z ha
  have h3 : 0 ≤ z / b % 9 / 8 ∧ z / b % 9 / 8 ≤ 1 := by omega
  have h4 : 0 ≤ z / b % 9 / 8 * c ∧ z / b % 9 / 8 * c ≤ c := by
    rcases (show z / b % 9 / 8 = 0 ∨ z / b % 9 / 8 = 1 by omega) with e | e <;> rw [e] <;> omega
  rw [b_mul (by unfold lim; omega)]
  rcases (show mn = 0 ∨ mn = 1 by omega) with rfl | rfl
  · exact ⟨0, by decide, fun _ => rfl, by simp⟩
  · refine ⟨(z % a + z / b % 9 / 8 * c).toNat, by omega, (fun h => nomatch h), ?_⟩
    rw [Int.toNat_of_nonneg (by omega)]; simp
section
variable {m : Nat} {ps rows : List D} {ss : List (String × Nat)} {k : Nat} {σ : St}
/-- the sums that the law asks for -/
theorem sums_loop (n : Nat) (z : Int) {kk mm : Nat} (hkk : kk ≤ 200) (h0 : 0 < kk → mm = m) (hmm : 0 < mm) (hmax : bltD "max" [.int 1, .int m] = some (.int mm))
    (a1 : Has σ "_law_wide" (.int m)) (a2 : Has σ "_law_more" (.int z)) (a3 : Has σ "_law_words" (.list [.str (Str.ofString "count"), .str (Str.ofString "sum"), .str (Str.ofString "least"), .str (Str.ofString "most")])) (a4 : Has σ "_law_rows" (.list rows)) (a5 : Has σ "_law_places" (.list ps)) (a6 : OwnV σ "_law_sums" (.list [])) :
    ∃ σ' ss, Sums m ss ∧ ss.length ≤ 1000 ∧ Has σ' "_law_rows" (.list rows) ∧ Has σ' "_law_places" (.list ps) ∧ Has σ' "_law_sums" (.list (ss.map sumOf)) ∧ forD (bodyF (callN PP X6 (n + 1)) sumsBody "_law_k") ((List.range kk).map fun (i : Nat) => D.int (i : Int)) σ = some (.next, σ') := by
  have hbig : 2000 < big := by decide
  obtain ⟨σ', ⟨ss, _, _, _, i4, i5, hs, hl, i6⟩, h3⟩ := loop_inv (cf := callN PP X6 (n + 1)) (body := sumsBody) (z := "_law_k")
    (fun a σ => ∃ ss, Has σ "_law_wide" (.int m) ∧ Has σ "_law_more" (.int z) ∧ Has σ "_law_words" (.list [.str (Str.ofString "count"), .str (Str.ofString "sum"), .str (Str.ofString "least"), .str (Str.ofString "most")]) ∧ Has σ "_law_rows" (.list rows) ∧ Has σ "_law_places" (.list ps) ∧ Sums m ss ∧ ss.length = a.length ∧ OwnV σ "_law_sums" (.list (ss.map sumOf))) ((List.range kk).map fun (i : Nat) => D.int (i : Int)) [] σ
    ⟨[], a1, a2, a3, a4, a5, (fun _ h => nomatch h), rfl, a6⟩ (by
      rintro a it b σ hab ⟨ss, i1, i2, i3, i4, i5, hs, hl, i6⟩
      rw [List.nil_append] at hab
      obtain ⟨rfl, hal, -⟩ := range_at hab
      obtain ⟨r1, _, q1⟩ := mixed (X := X6) bg n z a.length
      obtain ⟨r2, _, q2⟩ := mixed (X := X6) bg n z (20 + a.length)
      obtain ⟨d, ⟨w, hw, rfl⟩, q3⟩ := list_pick (l := [.str (Str.ofString "count"), .str (Str.ofString "sum"), .str (Str.ofString "least"), .str (Str.ofString "most")]) (by decide) r1 (R := fun d => ∃ w, w ∈ sumWords ∧ d = .str (Str.ofString w)) (by
        intro d hd
        simp only [List.mem_cons, List.not_mem_nil, or_false] at hd
        rcases hd with rfl | rfl | rfl | rfl <;> exact ⟨_, by simp [sumWords], rfl⟩)
      have q3 : subD (.list [.str (Str.ofString "count"), .str (Str.ofString "sum"), .str (Str.ofString "least"), .str (Str.ofString "most")]) (.int (r1 % 4)) = some (.str (Str.ofString w)) := q3
      obtain ⟨p, ep, hp⟩ := emod_nat r2 hmm
      have hm := h0 (by omega)
      have hpos : (0 : Int) < mm := by omega
      have e : evE (callN PP X6 (n + 1)) (vis (setv σ "_law_k" (false, .int a.length))) (.tup [.sub (.var "_law_words") (.bin .Mod (.call "_law_mixed" [.var "_law_more", .var "_law_k"]) (.int 4)), .bin .Mod (.call "_law_mixed" [.var "_law_more", .bin .Add (.int 20) (.var "_law_k")]) (.blt "max" [.int 1, .var "_law_wide"])]) = some (sumOf (w, p)) := by
        unfold sumOf; dsimp only; rw [← ep]; walk_at "v"
      refine o_step (p_append (d := sumOf (w, p)) (ds := ss.map sumOf) e (?_ : OwnV _ _ _) (by rw [List.length_map]; omega)) (o_nil ⟨rfl, ss ++ [(w, p)], ?_, ?_, ?_, ?_, ?_, ?_, ?_, ?_⟩)
      · walk_at "h"
      · walk_at "h"
      · walk_at "h"
      · walk_at "h"
      · walk_at "h"
      · walk_at "h"
      · intro s hs'
        rcases List.mem_append.mp hs' with h | h
        · exact hs s h
        · rw [List.mem_singleton.mp h]; exact ⟨hw, hm ▸ hp⟩
      · simp [hl]
      · rw [List.map_append]; exact w_eq)
  rw [List.nil_append, List.length_map, List.length_range] at hl
  exact ⟨σ', ss, hs, by omega, i4, i5, h_own i6, h3⟩
theorem turn_mid {cf : CF} (hr : Rows m rows) (hl : rows.length ≤ 1000) (hp : Plc m ps) (hpl : ps.length ≤ 1000) (hs : Sums m ss) (hk : k < rows.length) (hal : ∀ a b : D, a.isCell = true → b.isCell = true → cf.call "_law_alike" [a, b] = some (.bool (cellEq a b), false))
    (hfit : ∀ {hd : List D}, Flat hd → ∀ {g0 : D} {grp : List D}, Rows m (g0 :: grp) → (g0 :: grp).length ≤ 1000 → cf.call "_law_fits" [.tup (hd ++ toldsV ss (g0 :: grp)), .list hd, .list (g0 :: grp), .list (ss.map sumOf)] = some (.bool true, false))
    (h : turnIs ps rows ss k σ) (a3 : Has σ "_law_k" (.int k)) (a4 : Has σ "_law_head" (.list (ps.map (atV (rows.getD k .none))))) (a5 : OwnV σ "_law_like" (.list [])) :
    Out cf (.for_ "_law_n" (.blt "range" [.blt "len" [.var "_law_rows"]]) likeBody :: turnRest) σ fun fl σ' => fl = .next ∧ turnIs ps rows ss (k + 1) σ' := by
  have hbig : 2000 < big := by decide
  have hblen : bltD "len" [.list rows] = some (.int rows.length) := rfl
  have hrng : bltD "range" [.int rows.length] = some (.rng 0 rows.length) := blt_rng (by omega)
  obtain ⟨b1, b2, b3, b4, b5⟩ := h
  obtain ⟨σ', c1, c2, c3⟩ := like_loop (σ := freeze (ME.names (.blt "range" [.blt "len" [.var "_law_rows"]])) σ) hr hl hp hpl hk hal [("_law_rows", .list rows), ("_law_places", .list ps), ("_law_sums", .list (ss.map sumOf)), ("_law_found", .list (foundV ps rows ss)), ("_law_at", .int (onceV ((rows.take k).map (keyV ps))).length), ("_law_k", .int k), ("_law_head", .list (ps.map (atV (rows.getD k .none))))] (by
    intro p hp
    simp only [List.mem_cons, List.not_mem_nil, or_false] at hp
    rcases hp with rfl | rfl | rfl | rfl | rfl | rfl | rfl <;> exact ⟨by apply h_fr; assumption, rfl, rfl⟩) (h_fr b1) (h_fr b2) (h_fr a3) (w_fr rfl a5)
  refine o_for (d := .rng 0 rows.length) (by walk_at "v") (items_rng _) c3 ?_
  have q := fun p hp => c1 p hp
  exact turn_rest hr hl hp hpl hk hfit ⟨c1 _ (.head _), c1 _ (.tail _ (.head _)), c1 _ (.tail _ (.tail _ (.head _))), c1 _ (.tail _ (.tail _ (.tail _ (.head _)))), c1 _ (.tail _ (.tail _ (.tail _ (.tail _ (.head _)))))⟩ (c1 _ (.tail _ (.tail _ (.tail _ (.tail _ (.tail _ (.head _))))))) (c1 _ (.tail _ (.tail _ (.tail _ (.tail _ (.tail _ (.tail _ (.head _)))))))) c2
theorem law_tail (n : Nat) (hr : Rows m rows) (hm : m ≤ 1000) (hl : rows.length ≤ 1000) (hp : Plc m ps) (hpl : ps.length ≤ 1000) (hs : Sums m ss) (hsl : ss.length ≤ 1000)
    (a1 : Has σ "_law_rows" (.list rows)) (a2 : Has σ "_law_places" (.list ps)) (a3 : Has σ "_law_sums" (.list (ss.map sumOf))) : Run (callN PP X6 (n + 7)) (fn_law.body.drop 8) σ (.bool true) false := by
  have hbig : 2000 < big := by decide
  have ans := ans_group (n + 2) hr hl hp hpl hs hsl
  have hare := rows_are (X := X6) (n + 4) hl fun r h => by
    obtain ⟨cs, rfl, h1, h2⟩ := hr r h
    exact ⟨cs, rfl, by omega, fun d hd => (h2 d hd).cell⟩
  have hfit := fun {hd : List D} (h1 : Flat hd) {g0 : D} {grp : List D} (h2 : Rows m (g0 :: grp)) h3 => fits (X := X6) (n + 4) h1 h2 h3 hs hsl
  have hal := fun (a b : D) ha hb => lalike_eq (X := X6) bc (n + 6) a b ha hb
  have hal : ∀ a b : D, a.isCell = true → b.isCell = true → (callN PP X6 (n + 7)).call "_law_alike" [a, b] = some (.bool (cellEq a b), false) := hal
  have hfl : (foundV ps rows ss).length = (onceV (rows.map (keyV ps))).length := List.length_map ..
  generalize callN PP X6 (n + 7) = cf at *
  have tt : subD (tabs rows) (.str (Str.ofString "t")) = some (.list rows) := rfl
  refine r_step (p_assign (d := tabs rows) (fr := true) (v_map (v_dct1 (e_str _ _ _) (v_lcp (by walk_at "v") rfl) rfl) rfl rfl)) ?_
  generalize hT : tabs rows = T at *
  refine r_step (p_assign (v_call (v_cons (v_tup (v_cons (e_str _ _ _) (v_cons (v_blt (v_cons (d := .list ps) (by walk_at "v") (es_nil _ _)) rfl) (v_cons (v_blt (v_cons (d := .list (ss.map sumOf)) (by walk_at "v") (es_nil _ _)) rfl) (v_cons (d := q0) rfl (es_nil _ _))))) (Nat.le_of_ble_eq_true rfl)) (v_cons (by walk_at "v") (es_nil _ _))) ans)) ?_
  refine r_if (k := false) (x := .bool (!true)) (v_not (by walk_at "v") rfl) rfl nofun fun _ => ?_
  refine r_step (p_assign (d := .int 0) (fr := false) rfl) ?_
  have hblen : bltD "len" [.list rows] = some (.int rows.length) := rfl
  have hrng : bltD "range" [.int rows.length] = some (.rng 0 rows.length) := blt_rng (by omega)
  have loop : ∀ σ, turnIs ps rows ss 0 σ → ∃ σ', turnIs ps rows ss rows.length σ' ∧ forD (bodyF cf ([.assign "_law_head" (.comp (.sub (.sub (.var "_law_rows") (.var "_law_k")) (.var "_law_place")) "_law_place" (.var "_law_places") []), .assign "_law_like" (.lst []), .for_ "_law_n" (.blt "range" [.blt "len" [.var "_law_rows"]]) likeBody] ++ turnRest) "_law_k") ((List.range rows.length).map fun (i : Nat) => D.int (i : Int)) σ = some (.next, σ') := by
    intro σ hσ
    obtain ⟨σ', i, h3⟩ := loop_inv (cf := cf) (body := [.assign "_law_head" (.comp (.sub (.sub (.var "_law_rows") (.var "_law_k")) (.var "_law_place")) "_law_place" (.var "_law_places") []), .assign "_law_like" (.lst []), .for_ "_law_n" (.blt "range" [.blt "len" [.var "_law_rows"]]) likeBody] ++ turnRest) (z := "_law_k")
      (fun a σ => turnIs ps rows ss a.length σ) ((List.range rows.length).map fun (i : Nat) => D.int (i : Int)) [] σ hσ (by
        rintro a it b σ hab ⟨b1, b2, b3, b4, b5⟩
        rw [List.nil_append] at hab
        obtain ⟨rfl, hk, -⟩ := range_at hab
        have hrk := hr _ (getD_mem hk)
        have sk := subs_at (rows := rows) hk
        rw [List.length_append, List.length_singleton]
        refine o_step (p_assign (d := .list (ps.map (atV (rows.getD a.length .none)))) (fr := true) (v_map (v_comp (x := .list ps) (its := ps) (by walk_at "v") rfl (by omega) (compM_map _ _ _ fun pl hpl => compF_nil ?_)) rfl rfl)) ?_
        · obtain ⟨p, hp', rfl⟩ := hp pl hpl
          have s1 := at_e hrk hp'
          walk_at "v"
        refine o_step (p_assign (d := .list []) (fr := true) rfl) ?_
        refine turn_mid hr hl hp hpl hs hk hal hfit ⟨?_, ?_, ?_, ?_, ?_⟩ ?_ ?_ w_eq
        all_goals walk_at "h")
    rw [List.nil_append, List.length_map, List.length_range] at i
    exact ⟨σ', i, h3⟩
  have key : ∀ σ, turnIs ps rows ss 0 σ → Run cf (fn_law.body.drop 12) σ (.bool true) false := by
    rintro σ ⟨b1, b2, b3, b4, b5⟩
    obtain ⟨σ', ⟨_, _, _, i4, i5⟩, h3⟩ := loop (freeze (ME.names (.blt "range" [.blt "len" [.var "_law_rows"]])) σ) ⟨h_fr b1, h_fr b2, h_fr b3, h_fr b4, h_fr b5⟩
    rw [List.take_length] at i5
    have e : cmpD .Eq (.int (foundV ps rows ss).length) (.int (onceV (rows.map (keyV ps))).length) = some (.bool true) := by
      rw [hfl]; show some (D.bool (_ == _)) = _; rw [beq_self_eq_true]
    have hfb : bltD "len" [.list (foundV ps rows ss)] = some (.int (foundV ps rows ss).length) := rfl
    refine r_for (x := .rng 0 rows.length) (by walk_at "v") (items_rng _) h3 ?_
    exact r_ret (v_map (v_and (k := true) (l := true) (v_isi (x := .list (foundV ps rows ss)) (by walk_at "v") rfl) fun _ => v_bop1 (by walk_at "v")) rfl rfl) rfl
  refine key _ ⟨?_, ?_, ?_, ?_, h_eq⟩
  all_goals walk_at "h"
end

set_option maxRecDepth 100000
set_option maxHeartbeats 400000

theorem pure_ok (n : Nat) (ns : List Int) : ∃ fr, (callN PP X6 (n + 8)).call "law" [.list (ns.map .int)] = some (.bool true, fr) := by
  refine ⟨false, run_call (by rfl : PP.lookup "law" = some fn_law) rfl ?_⟩
  have c0 : (callN PP X6 (n + 7)).call "_law_cell_at" [.list (ns.map .int), .int 0] = _ := cell_at (X := X6) bg (n + 6) ns 0
  have c2 : (callN PP X6 (n + 7)).call "_law_cell_at" [.list (ns.map .int), .int 2] = _ := cell_at (X := X6) bg (n + 6) ns 2
  have c3 : (callN PP X6 (n + 7)).call "_law_cell_at" [.list (ns.map .int), .int 3] = _ := cell_at (X := X6) bg (n + 6) ns 3
  have hm := wide_le (ns.getD 0 0)
  have hw := wide_by (X := X6) (n + 6) (ns.getD 0 0)
  obtain ⟨rows, hr, hl, ht⟩ := table_by (X := X6) (n + 3) ns
  generalize ns.getD 0 0 = z0 at *
  generalize ns.getD 2 0 = z2 at *
  generalize ns.getD 3 0 = z3 at *
  generalize wideV z0 = m at *
  generalize D.list (ns.map .int) = S at *
  have hbig : 2000 < big := by decide
  obtain ⟨mn, mm, hmn, hmn0, hmin, hmm0, hmm, hmax⟩ := min_max m
  obtain ⟨k1, hk1, hk10, hmul1⟩ := count_by z2 4 4 9 (by decide) (by decide) (by decide) (by decide) hmn
  obtain ⟨k2, hk2, hk20, hmul2⟩ := count_by z3 6 6 7 (by decide) (by decide) (by decide) (by decide) hmn
  have hpos : (0 : Int) < mm := by omega
  obtain ⟨ps, p1, p2, p3⟩ := v_rowsL (cf := callN PP X6 (n + 7)) (ρ := vis [("_law_script", (false, S)), ("_law_wide", (false, .int m)), ("_law_rows", (true, .list rows)), ("_law_cell", (false, .int z2)), ("_law_more", (false, .int z3))])
      (elt := .bin .Mod (.call "_law_mixed" [.var "_law_cell", .var "_law_k"]) (.blt "max" [.int 1, .var "_law_wide"])) (z := "_law_k") (src := .bin .Mult (.bin .Add (.bin .Mod (.var "_law_cell") (.int 4)) (.bin .Mult (.bin .FloorDiv (.bin .Mod (.bin .FloorDiv (.var "_law_cell") (.int 4)) (.int 9)) (.int 8)) (.int 9))) (.blt "min" [.int 1, .var "_law_wide"])) (k := k1) (by omega) (fun d => ∃ p : Nat, p < m ∧ d = .int p) (by walk_at "v") (by
    intro i hi
    have h0 : m ≠ 0 := fun h => by have := hk10 (hmn0 h); omega
    obtain ⟨r, _, hr'⟩ := mixed (X := X6) bg (n + 6) z2 i
    obtain ⟨p, ep, hp⟩ := emod_nat r hmm
    exact ⟨.int p, ⟨p, hmm0 h0 ▸ hp, rfl⟩, by rw [← ep]; walk_at "v"⟩)
  refine r_step (p_assign (d := .int m) (fr := false) (by walk_at "v")) ?_
  refine r_step (p_assign (d := .list rows) (fr := true) (by walk_at "v")) ?_
  refine r_step (p_assign (d := .int z2) (fr := false) (by walk_at "v")) ?_
  refine r_step (p_assign (d := .int z3) (fr := false) (by walk_at "v")) ?_
  refine r_norm (σ' := [("_law_script", (false, S)), ("_law_wide", (false, .int m)), ("_law_rows", (true, .list rows)), ("_law_cell", (false, .int z2)), ("_law_more", (false, .int z3))]) rfl ?_
  refine r_step (p_assign (v_map p3 rfl rfl)) ?_
  refine r_step (p_assign (d := .list [.str (Str.ofString "count"), .str (Str.ofString "sum"), .str (Str.ofString "least"), .str (Str.ofString "most")]) (fr := true) rfl) ?_
  refine r_step (p_assign (d := .list []) (fr := true) rfl) ?_
  refine r_norm (σ' := [("_law_script", (false, S)), ("_law_wide", (false, .int m)), ("_law_rows", (true, .list rows)), ("_law_cell", (false, .int z2)), ("_law_more", (false, .int z3)), ("_law_places", (true, .list ps)), ("_law_words", (true, .list [.str (Str.ofString "count"), .str (Str.ofString "sum"), .str (Str.ofString "least"), .str (Str.ofString "most")])), ("_law_sums", (true, .list []))]) rfl ?_
  obtain ⟨σ', ss, hs, hsl, a1, a2, a3, h3⟩ := sums_loop (m := m) (rows := rows) (ps := ps) (σ := freeze ["_law_more", "_law_more", "_law_wide"] [("_law_script", (false, S)), ("_law_wide", (false, .int m)), ("_law_rows", (true, .list rows)), ("_law_cell", (false, .int z2)), ("_law_more", (false, .int z3)), ("_law_places", (true, .list ps)), ("_law_words", (true, .list [.str (Str.ofString "count"), .str (Str.ofString "sum"), .str (Str.ofString "least"), .str (Str.ofString "most")])), ("_law_sums", (true, .list []))]) (n + 6) z3 hk2 (fun h => hmm0 fun h' => by have := hk20 (hmn0 h'); omega) hmm hmax (by walk_at "h") (by walk_at "h") (by walk_at "h") (by walk_at "h") (by walk_at "h") rfl
  have hrng : bltD "range" [.int k2] = some (.rng 0 k2) := blt_rng (by omega)
  refine r_for (x := .rng 0 k2) (by walk_at "v") (items_rng _) h3 ?_
  exact law_tail n hr (by omega) (by omega) p2 (by omega) hs hsl a1 a2 a3

noncomputable def stepNames : List Str := ["table", "sieve", "pick", "join", "group", "order", "both", "once", "first"].map Str.ofString
noncomputable def strIs (v : Value) (y : Str) : Bool := match v with
  | .str x _ => x == y
  | _ => false
noncomputable def strsAre : List Value → List Str → Bool
  | [], [] => true
  | v :: vs, y :: ys => strIs v y && strsAre vs ys
  | _, _ => false
noncomputable def stepsObj (o : Obj) : Bool := (match o.data with | .seq vs _ => strsAre vs.toList stepNames | _ => false) && o.cls == .type "tuple" && o.dict.isNone && o.slots.isEmpty
noncomputable def stepsAt (s : Shared) : Bool := match s.heap.nsMap mainGlobals (Str.ofString "STEPS") with
  | some (.ref a) => (match s.heap.get? a with | some o => stepsObj o | none => false)
  | _ => false
noncomputable def GlobOk (mg : Str → Option Value) (h : Heap) : Prop := ∃ a vs n, mg (Str.ofString "STEPS") = some (.ref a) ∧ h.get? a = some (tupO vs n) ∧ strsAre vs.toList stepNames = true
theorem GlobOk.keeps {mg : Str → Option Value} {h h' : Heap} (x : GlobOk mg h) (hk : ∀ b o, h.get? b = some o → h'.get? b = some o) : GlobOk mg h' := let ⟨a, vs, n, h1, h2, h3⟩ := x; ⟨a, vs, n, h1, hk _ _ h2, h3⟩
theorem glob_of (s : Shared) (e : stepsAt s = true) : GlobOk (s.heap.nsMap mainGlobals) s.heap := by
  unfold stepsAt at e
  split at e
  · rename_i a ha
    split at e
    · rename_i o ho
      unfold stepsObj at e
      simp only [Bool.and_eq_true, beq_iff_eq, Option.isNone_iff_eq_none, Array.isEmpty_iff] at e
      obtain ⟨⟨⟨e1, e2⟩, e3⟩, e4⟩ := e
      split at e1
      · rename_i vs n hd
        refine ⟨a, vs, n, ha, ?_, e1⟩
        rw [ho]
        obtain ⟨c, d, dt, sl⟩ := o
        dsimp only at e2 e3 e4 hd
        subst e2 e3 e4 hd
        rfl
      · cases e1
    · cases e
  · cases e
theorem reps_strs {P : Params} {h : Heap} {H : Addr → Prop} : ∀ {vs : List Value} {ys : List Str}, strsAre vs ys = true → RepAll P h H vs (ys.map .str)
  | [], [], _ => .nil
  | [], _ :: _, e => by cases e
  | _ :: _, [], e => by cases e
  | v :: vs, y :: ys, e => by
    rw [strsAre, Bool.and_eq_true] at e
    obtain ⟨e1, e2⟩ := e
    refine .cons ?_ (reps_strs e2)
    cases v <;> first | (cases e1; done) | skip
    rename_i x t
    have e3 : (x == y) = true := e1
    rw [beq_iff_eq] at e3
    subst e3
    exact .str _ _
theorem hx6 {prog : Program} {w : World} {base : Heap} {mg : Str → Option Value} {A : Around} (g : GlobOk mg base) : CSound prog w base mg X6 A := by
  refine ⟨(fun _ _ _ _ h => nomatch h), fun x d h => ?_⟩
  have h : (if x = "STEPS" then some (D.tup steps) else none) = some d := h
  split at h
  · rename_i hx
    cases h
    subst hx
    obtain ⟨a, vs, n, h1, h2, h3⟩ := g
    refine ⟨_, h1, .tup h2 (fun q => q) (by decide) ?_⟩
    exact reps_strs h3
  · cases h
end Mine
namespace Mine
open PySem PySem.W PyProof.Rows
set_option maxRecDepth 100000
set_option maxHeartbeats 0
noncomputable def keepS : Stmt → Bool
  | .Assign [.Name x _] _ _ => x != Str.ofString "__name__"
  | _ => true
noncomputable def vw : Program := { PySem.Challenge.pw_uf030018_06 with main := { PySem.Challenge.pw_uf030018_06.main with body := PySem.Challenge.pw_uf030018_06.main.body.filter keepS } }
theorem ws : OpenLaw.wellSaid PySem.Challenge.rw_uf030018_06 = true := by decide +kernel
theorem left : LeftO PySem.Challenge.pw_uf030018_06 vw [] (fun s => xlAt vw [] s && recOk (RowW.records PySem.Challenge.rw_uf030018_06.row.toRowW) s && stepsAt s) (Hook.obs Hook.none) (Hook.val Hook.none) 20000 := fun w => by kernel_rfl
theorem dlSome : (defOf vw (Str.ofString "law")).isSome = true := by decide +kernel
noncomputable def dl : DefRec × List (Str × Expr) := (defOf vw (Str.ofString "law")).get dlSome
theorem dlDef : defOf vw PySem.Challenge.rw_uf030018_06.row.name = some (dl.1, dl.2) := (Option.some_get dlSome).symm
theorem dlIs : PySem.Challenge.rw_uf030018_06.row.prog.theDef PySem.Challenge.rw_uf030018_06.row.name = some (dl.1.params, dl.1.body, dl.1.scope) := by kernel_rfl
theorem dlKw : kwWritten? dl.1.params.kwonlyargs dl.1.params.kw_defaults = some dl.2 := by kernel_rfl
theorem dlName : dl.1.name = Str.ofString "law" := by kernel_rfl
theorem okAll : (chainsOk vw && opensWell PySem.Challenge.rw_uf030018_06.row.prog && (frees PySem.Challenge.rw_uf030018_06.row.toRowW && PySem.Challenge.rw_uf030018_06.row.within.isEmpty)) = true := by decide +kernel
theorem chkd : chkProg (recsOf vw) PP = true := by decide +kernel
theorem freed : bltFree vw (looseW vw []) = true := by decide +kernel
end Mine
open PySem PySem.W PyProof.Rows
set_option maxRecDepth 100000 in
set_option maxHeartbeats 8000000 in
theorem PySem.Challenge.cw_uf030018_06_holds : PySem.Challenge.rw_uf030018_06.Holds := by
  refine holds_law Mine.ws fun said => ?_
  refine holds_open (q := Mine.vw) (loose := []) (Xt := fun s => xlAt Mine.vw [] s && recOk (RowW.records PySem.Challenge.rw_uf030018_06.row.toRowW) s && Mine.stepsAt s) (XP := (fun mg h => XL Mine.vw [] mg h ∧ Mine.GlobOk mg h)) (Yf := Hook.obs Hook.none) (Ya := Hook.val Hook.none) (YP := Hook.says Hook.none) (N := 20000) Mine.left (Hook.of Hook.none) (Hook.keeps Hook.none) (fun s e => ⟨xl_of s (Bool.and_eq_true_iff.mp (Bool.and_eq_true_iff.mp e).1).1, Mine.glob_of s (Bool.and_eq_true_iff.mp e).2⟩) (fun mg h h' x k => ⟨XL.keeps mg h h' x.1 k, Mine.GlobOk.keeps x.2 k⟩) Mine.dlDef Mine.dlIs Mine.dlKw (fun s e => recFacts_of (Bool.and_eq_true_iff.mp (Bool.and_eq_true_iff.mp e).1).2) (by rfl) said Mine.okAll ⟨rfl, rfl, rfl, rfl, rfl, by decide +kernel⟩ ?hw ?hc
  (case hw => w_witness2)
  intro w s₀ s₁ mg mb G Y fa o pm cd doc dV kV ho hd hcd hD hmg hg args vals as hpre hlay hrd hwl hlo
  rw [Mine.dlName] at hmg
  refine Ground.open G ?_
  intro T B D TE TW
  wrow_args hpre hlay hrd hwl hlo
  exact Mine.law_fin (P := Mine.PP) (X := Mine.X6) 20 T Mine.chkd Mine.freed (by decide) (fun _ _ => Mine.hx6 G.X.2) hmg hg (by assumption) (by assumption) (Mine.pure_ok _ _)
