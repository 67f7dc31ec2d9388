import PyProof.Rows.All
import Wide.All
import OpenK.AllK
import Wide.FinOn
import PyProof.Cells
import PyProof.RangeIter
import PyProof.FactsAll.tuple
import PyProof.DictKinds
import PyProof.CompMap
import PyProof.DictKind
import PyProof.Rows.Tup
import PyProof.DictRoads
import PyProof.DictDisplay
import PyProof.NeKinds
import PyProof.DictRoadsH
import PyProof.StrBlockI
import PyProof.StrBlock2
import PyProof.CompFree
import PyProof.Rows.IntRules
import PyProof.Rows.RuleB_mul
import PyProof.Rows.RuleB_floordiv
import PyProof.Rows.RuleB_pow
import PyProof.Rows.RuleB_mod
import PyProof.Rows.RuleC_int
import PyProof.Rows.RuleU_int
import PyProof.Rows.StrRules
import PyProof.Rows.Nodes
import PyProof.Rows.TupSub
import PyProof.ListOps
import PyProof.TupleOps
import PyProof.DictStraight
import PyProof.Rows.Lst
import PyProof.Rows.TupMore
import PyProof.Rows.StrTemp
import PyProof.ListTruth
import PyProof.TupleOfSeq
import PyProof.CallStr
import PyProof.RangeFor
import PyProof.Conv_int_bool
import PyProof.SliceStr2
import PyProof.SliceMore
import PyProof.ListIndexNeg
import PyProof.IsiPairs
import PyProof.IsiHeapPairs
import PyProof.Rows.Exc
import PyProof.Rows.Globals
import PyProof.IsiTuple
import PyProof.ListCopy
import PyProof.WalkInts
import KE.KDictList
import PyProof.WalksMore
import PyProof.Rows.StrTempNeg
import PyProof.ForAppend
import PySem.Challenge.RW_uf030018_04
set_option Elab.async false
namespace Mine
open PySem

/-- by-value data -/
inductive D where
  | none
  | bool (b : Bool)
  | int (i : Int)
  | str (x : Str)
  | tup (ds : List D)
  | list (ds : List D)
  | dict (ks : List D) (vs : List D)
  | rng (a b : Int)

noncomputable def big : Nat := 2 ^ 24

/-- hashes of keys: ints, strs, tuples of these -/
noncomputable def hashC (P : Params) : D → Int
  | .int i => hashInt i
  | .str x => if x.cps.isEmpty = true then 0 else reduceHash (P.strHash x.cps)
  | _ => 0
noncomputable def hashK (P : Params) : D → Int
  | .tup ds => reduceHash (Builtin.Tuple.tupleHashOf (ds.map (hashC P)))
  | d => hashC P d
noncomputable def D.isCell : D → Bool
  | .int _ | .str _ => true
  | _ => false
noncomputable def D.isKey : D → Bool
  | .int _ | .str _ => true
  | .tup ds => ds.all D.isCell
  | _ => false

noncomputable abbrev tupO (vs : Array Value) (n : Nat) : Obj := { cls := .type "tuple", dict := Option.none, data := .seq vs n, slots := #[] }
noncomputable abbrev lstO (vs : Array Value) (n : Nat) : Obj := { cls := .type "list", dict := Option.none, data := .seq vs n, slots := #[] }
noncomputable abbrev dicO (es : Array DictEntry) (n : Nat) : Obj := { cls := .type "dict", dict := Option.none, data := .dict es n, slots := #[] }

mutual
/-- the value v stands for d in the heap h, by objects that lie outside of H -/
inductive Rep (P : Params) (h : Heap) (H : Addr → Prop) : Value → D → Prop
  | none : Rep P h H .none .none
  | bool (b : Bool) : Rep P h H (.bool b) (.bool b)
  | int (i : Int) (t : Tok) : Rep P h H (.int i t) (.int i)
  | str (x : Str) (t : Tok) : Rep P h H (.str x t) (.str x)
  | tup {a : Addr} {vs : Array Value} {n : Nat} {ds : List D} : h.get? a = some (tupO vs n) → ¬ H a → ds.length ≤ big → RepAll P h H vs.toList ds → Rep P h H (.ref a) (.tup ds)
  | list {a : Addr} {vs : Array Value} {n : Nat} {ds : List D} : h.get? a = some (lstO vs n) → ¬ H a → ds.length ≤ big → RepAll P h H vs.toList ds → Rep P h H (.ref a) (.list ds)
  | dict {a : Addr} {es : Array DictEntry} {n : Nat} {ks vs : List D} : h.get? a = some (dicO es n) → ¬ H a → ks.length ≤ big → RepAll P h H (es.toList.map (·.key)) ks → RepAll P h H (es.toList.map (·.val)) vs →
      es.toList.map (·.hash) = ks.map (hashK P) → ks.all D.isKey = true → ks.Nodup → (a == sysModules) = false → Rep P h H (.ref a) (.dict ks vs)
  | rng {a : Addr} {lo hi : Int} {t u v : Tok} : IsRange h a lo hi 1 t u v → ¬ H a → (-big ≤ lo ∧ lo ≤ big ∧ -big ≤ hi ∧ hi ≤ big) → Rep P h H (.ref a) (.rng lo hi)
inductive RepAll (P : Params) (h : Heap) (H : Addr → Prop) : List Value → List D → Prop
  | nil : RepAll P h H [] []
  | cons {v : Value} {d : D} {vs : List Value} {ds : List D} : Rep P h H v d → RepAll P h H vs ds → RepAll P h H (v :: vs) (d :: ds)
end

mutual
theorem Rep.mono {P : Params} {h h' : Heap} {H H' : Addr → Prop} (hk : ∀ a o, ¬ H a → h.get? a = some o → h'.get? a = some o) (hH : ∀ a o, h.get? a = some o → H' a → H a) :
    ∀ {v : Value} {d : D}, Rep P h H v d → Rep P h' H' v d
  | _, _, .none => .none
  | _, _, .bool b => .bool b
  | _, _, .int i t => .int i t
  | _, _, .str x t => .str x t
  | _, _, .tup ho hn hl hr => .tup (hk _ _ hn ho) (fun x => hn (hH _ _ ho x)) hl (RepAll.mono hk hH hr)
  | _, _, .list ho hn hl hr => .list (hk _ _ hn ho) (fun x => hn (hH _ _ ho x)) hl (RepAll.mono hk hH hr)
  | _, _, .dict ho hn hl hr hr' e1 e2 e3 e4 => .dict (hk _ _ hn ho) (fun x => hn (hH _ _ ho x)) hl (RepAll.mono hk hH hr) (RepAll.mono hk hH hr') e1 e2 e3 e4
  | _, _, .rng hr hn hl => .rng (hk _ _ hn hr) (fun x => hn (hH _ _ hr x)) hl
theorem RepAll.mono {P : Params} {h h' : Heap} {H H' : Addr → Prop} (hk : ∀ a o, ¬ H a → h.get? a = some o → h'.get? a = some o) (hH : ∀ a o, h.get? a = some o → H' a → H a) :
    ∀ {vs : List Value} {ds : List D}, RepAll P h H vs ds → RepAll P h' H' vs ds
  | _, _, .nil => .nil
  | _, _, .cons hv hr => .cons (Rep.mono hk hH hv) (RepAll.mono hk hH hr)
end

theorem Rep.keeps {P : Params} {h h' : Heap} {H : Addr → Prop} {v : Value} {d : D} (hr : Rep P h H v d) (hk : ∀ a o, h.get? a = some o → h'.get? a = some o) : Rep P h' H v d :=
  hr.mono (fun a o _ e => hk a o e) (fun _ _ _ x => x)
theorem RepAll.keeps {P : Params} {h h' : Heap} {H : Addr → Prop} {v : List Value} {d : List D} (hr : RepAll P h H v d) (hk : ∀ a o, h.get? a = some o → h'.get? a = some o) : RepAll P h' H v d :=
  hr.mono (fun a o _ e => hk a o e) (fun _ _ _ x => x)
theorem Rep.sub {P : Params} {h : Heap} {H H' : Addr → Prop} {v : Value} {d : D} (hr : Rep P h H v d) (hH : ∀ a, H' a → H a) : Rep P h H' v d :=
  hr.mono (fun _ _ _ e => e) (fun a _ _ x => hH a x)

theorem RepAll.length {P : Params} {h : Heap} {H : Addr → Prop} : ∀ {vs : List Value} {ds : List D}, RepAll P h H vs ds → vs.length = ds.length
  | _, _, .nil => rfl
  | _, _, .cons _ hr => by simp [RepAll.length hr]
theorem RepAll.append {P : Params} {h : Heap} {H : Addr → Prop} : ∀ {vs ws : List Value} {ds es : List D}, RepAll P h H vs ds → RepAll P h H ws es → RepAll P h H (vs ++ ws) (ds ++ es)
  | _, _, _, _, .nil, k => k
  | _, _, _, _, .cons hv hr, k => .cons hv (RepAll.append hr k)
theorem RepAll.get {P : Params} {h : Heap} {H : Addr → Prop} : ∀ {vs : List Value} {ds : List D} (i : Nat) {d : D}, RepAll P h H vs ds → ds[i]? = some d → ∃ v, vs[i]? = some v ∧ Rep P h H v d
  | _, _, _, _, .nil, e => by simp at e
  | _, _, 0, _, .cons hv hr, e => by simp at e; subst e; exact ⟨_, rfl, hv⟩
  | _, _, i + 1, _, .cons hv hr, e => by simpa using RepAll.get i hr (by simpa using e)
theorem RepAll.drop {P : Params} {h : Heap} {H : Addr → Prop} : ∀ {vs : List Value} {ds : List D} (i : Nat), RepAll P h H vs ds → RepAll P h H (vs.drop i) (ds.drop i)
  | _, _, 0, k => by simpa using k
  | _, _, i + 1, .nil => by simpa using RepAll.nil
  | _, _, i + 1, .cons hv hr => by simpa using RepAll.drop i hr
theorem RepAll.take {P : Params} {h : Heap} {H : Addr → Prop} : ∀ {vs : List Value} {ds : List D} (i : Nat), RepAll P h H vs ds → RepAll P h H (vs.take i) (ds.take i)
  | _, _, 0, _ => by simpa using RepAll.nil
  | _, _, i + 1, .nil => by simpa using RepAll.nil
  | _, _, i + 1, .cons hv hr => by simpa using RepAll.cons hv (RepAll.take i hr)

theorem Rep.off {P : Params} {h : Heap} {H : Addr → Prop} {a : Addr} {d : D} (hr : Rep P h H (.ref a) d) : ¬ H a := by
  cases hr <;> assumption
noncomputable def D.scalar : D → Bool
  | .none | .bool _ | .int _ | .str _ => true
  | _ => false
theorem Rep.scalar {P : Params} {h h' : Heap} {H H' : Addr → Prop} {v : Value} {d : D} (hr : Rep P h H v d) (hs : d.scalar = true) : Rep P h' H' v d := by
  cases hr <;> first | exact .none | exact .bool _ | exact .int _ _ | exact .str _ _ | cases hs

theorem ofString_inj {a b : String} (h : Str.ofString a = Str.ofString b) : a = b := by
  rw [Str.ofString_eq_toList, Str.ofString_eq_toList] at h
  have h1 : a.toList.map Char.toNat = b.toList.map Char.toNat := by simpa using h
  have h2 : a.toList = b.toList := by
    generalize a.toList = l at h1; generalize b.toList = m at h1
    induction l generalizing m with
    | nil => cases m <;> simp_all
    | cons x l ih =>
      cases m with
      | nil => simp at h1
      | cons y m =>
        simp only [List.map_cons, List.cons.injEq] at h1
        have : x = y := by
          have := h1.1
          exact Char.toNat_inj.mp this
        rw [this, ih _ h1.2]
  exact String.toList_inj.mp h2

end Mine

namespace Mine
open PySem PySem.SeqAt
/-! dicts with keys that are ints and strs -/
noncomputable abbrev CK := Int ⊕ Str
noncomputable def ofCK : CK → D
  | .inl i => .int i
  | .inr x => .str x
noncomputable def CK.is : CK → Value → Bool
  | .inl i, v => Value.isInt i v
  | .inr x, v => Value.isStrOf x v
theorem CK.is_inl {i : Int} {v : Value} (h : CK.is (.inl i) v = true) : ∃ t, v = .int i t := Value.isInt_shape h
theorem CK.is_inr {x : Str} {v : Value} (h : CK.is (.inr x) v = true) : ∃ t, v = .str x t := Value.isStrOf_shape h
noncomputable def cellKind (prog : Program) (w : World) : KeyKind prog w CK where
  is := CK.is
  hash := fun k => hashK w.params (ofCK k)
  inj := fun v a b ha hb => by
    cases a <;> cases b
    · obtain ⟨t, rfl⟩ := CK.is_inl ha
      obtain ⟨u, e⟩ := CK.is_inl hb
      cases e; rfl
    · obtain ⟨t, rfl⟩ := CK.is_inl ha
      obtain ⟨u, e⟩ := CK.is_inr hb
      cases e
    · obtain ⟨t, rfl⟩ := CK.is_inr ha
      obtain ⟨u, e⟩ := CK.is_inl hb
      cases e
    · obtain ⟨t, rfl⟩ := CK.is_inr ha
      obtain ⟨u, e⟩ := CK.is_inr hb
      cases e; rfl
  byValue := fun k v h => by
    cases k
    · obtain ⟨t, rfl⟩ := CK.is_inl h; rfl
    · obtain ⟨t, rfl⟩ := CK.is_inr h; rfl
  pyHash := fun {A E s k v Q} hv h => by
    cases k
    · obtain ⟨t, rfl⟩ := CK.is_inl hv; exact wpAny_pyHash_int h
    · obtain ⟨t, rfl⟩ := CK.is_inr hv; exact wpAny_pyHash_str h
  eqBool := fun {A E s a b u v Q} hu hv h => by
    cases a <;> cases b
    · rename_i i j
      obtain ⟨t, rfl⟩ := CK.is_inl hu
      obtain ⟨u, rfl⟩ := CK.is_inl hv
      have h' : Q (decide (i = j)) s := by simpa using h
      exact wpAny_eqBool_int h'
    · obtain ⟨t, rfl⟩ := CK.is_inl hu
      obtain ⟨u, rfl⟩ := CK.is_inr hv
      exact EqAt.int_str _ _ _ _ prog w E Q (by simpa using h)
    · obtain ⟨t, rfl⟩ := CK.is_inr hu
      obtain ⟨u, rfl⟩ := CK.is_inl hv
      exact EqAt.str_int _ _ _ _ prog w E Q (by simpa using h)
    · rename_i i j
      obtain ⟨t, rfl⟩ := CK.is_inr hu
      obtain ⟨u, rfl⟩ := CK.is_inr hv
      have h' : Q (decide (i = j)) s := by simpa using h
      exact wpAny_eqBool_str h'
  «strs» := fun k x t v h => by
    cases k
    · obtain ⟨u, e⟩ := CK.is_inl h; cases e
    · exact (strKind prog w).strs _ x t v h
theorem ofCK_inj {a b : CK} (h : ofCK a = ofCK b) : a = b := by
  cases a <;> cases b <;> cases h <;> rfl
theorem cell_ck {d : D} (h : d.isCell = true) : ∃ k, d = ofCK k := by
  cases d <;> first | cases h | skip
  · exact ⟨.inl _, rfl⟩
  · exact ⟨.inr _, rfl⟩
theorem cells_ck : ∀ {ks : List D}, ks.all D.isCell = true → ∃ cs : List CK, ks = cs.map ofCK
  | [], _ => ⟨[], rfl⟩
  | k :: ks, h => by
    simp only [List.all_cons, Bool.and_eq_true] at h
    obtain ⟨c, rfl⟩ := cell_ck h.1
    obtain ⟨cs, rfl⟩ := cells_ck h.2
    exact ⟨c :: cs, rfl⟩
theorem rep_ck {P : Params} {h : Heap} {H : Addr → Prop} {v : Value} {k : CK} (r : Rep P h H v (ofCK k)) : CK.is k v = true := by
  cases k <;> cases r <;> simp [CK.is, Value.isInt, Value.isStrOf]
theorem ck_rep {P : Params} {h : Heap} {H : Addr → Prop} {v : Value} {k : CK} (r : CK.is k v = true) : Rep P h H v (ofCK k) := by
  cases k
  · obtain ⟨t, rfl⟩ := CK.is_inl r; exact .int _ _
  · obtain ⟨t, rfl⟩ := CK.is_inr r; exact .str _ _
theorem pairs_of {prog : Program} {w : World} {h : Heap} {H : Addr → Prop} : ∀ {es : List DictEntry} {cs : List CK}, RepAll w.params h H (es.map (·.key)) (cs.map ofCK) → Pairs (cellKind prog w) es (cs.zip (es.map (·.val)))
  | [], cs, r => by
    cases cs with
    | nil => exact .nil
    | cons _ _ => cases r
  | e :: es, cs, r => by
    cases cs with
    | nil => cases r
    | cons c cs =>
      cases r with
      | cons r1 r2 => exact .cons (rep_ck r1) rfl (pairs_of r2)
theorem of_pairs {prog : Program} {w : World} {h : Heap} {H : Addr → Prop} : ∀ {es : List DictEntry} {kvs : List (CK × Value)}, Pairs (cellKind prog w) es kvs → RepAll w.params h H (es.map (·.key)) (kvs.map fun p => ofCK p.1) ∧ es.map (·.val) = kvs.map (·.2)
  | [], _, .nil => ⟨.nil, rfl⟩
  | e :: es, _, .cons h1 h2 h3 => by
    obtain ⟨a, b⟩ := of_pairs (h := h) (H := H) h3
    exact ⟨.cons (ck_rep h1) a, by simp [h2, b]⟩
theorem zip_fst {α β : Type} : ∀ {a : List α} {b : List β}, a.length = b.length → (a.zip b).map (·.1) = a
  | [], [], _ => rfl
  | x :: a, y :: b, h => by simp [zip_fst (a := a) (b := b) (by simpa using h)]
theorem zip_snd {α β : Type} : ∀ {a : List α} {b : List β}, a.length = b.length → (a.zip b).map (·.2) = b
  | [], [], _ => rfl
  | x :: a, y :: b, h => by simp [zip_snd (a := a) (b := b) (by simpa using h)]
theorem dictOf_rep {prog : Program} {w : World} {h : Heap} {H : Addr → Prop} {a : Addr} {es : Array DictEntry} {n : Nat} {cs : List CK} (ho : h.get? a = some (dicO es n)) (hr : RepAll w.params h H (es.toList.map (·.key)) (cs.map ofCK))
    (hh : es.toList.map (·.hash) = (cs.map ofCK).map (hashK w.params)) (hn : (cs.map ofCK).Nodup) : h.DictOf (cellKind prog w) a (cs.zip (es.toList.map (·.val))) := by
  have hl : cs.length = (es.toList.map (·.val)).length := by have := hr.length; simp at this ⊢; omega
  refine ⟨_, es, n, ho, ⟨rfl, rfl, rfl⟩, rfl, ?_, pairs_of hr, ?_⟩
  · intro e he
    obtain ⟨i, hi, rfl⟩ := List.mem_iff_getElem.mp (Array.mem_toList_iff.mpr he)
    have hc : i < cs.length := by rw [hl]; simpa using hi
    refine ⟨cs[i], ?_, ?_⟩
    · obtain ⟨v, h1, h2⟩ := hr.get i (d := ofCK cs[i]) (by simp [hc])
      have : v = es.toList[i].key := by simpa [List.getElem?_eq_getElem hi] using h1.symm
      exact rep_ck (this ▸ h2)
    · have := congrArg (fun l => l[i]?) hh
      show _ = hashK w.params (ofCK cs[i])
      simpa [List.getElem?_eq_getElem hi, hc] using this
  · rw [zip_fst hl]
    exact (List.pairwise_map.mp hn).imp fun h e => h (by rw [e])
theorem rep_dictOf {prog : Program} {w : World} {h : Heap} {H : Addr → Prop} {a : Addr} {kvs : List (CK × Value)} (hd : h.DictOf (cellKind prog w) a kvs) :
    ∃ es n, h.get? a = some (dicO es n) ∧ RepAll w.params h H (es.toList.map (·.key)) (kvs.map fun p => ofCK p.1) ∧ es.toList.map (·.val) = kvs.map (·.2) ∧ es.toList.map (·.hash) = (kvs.map fun p => ofCK p.1).map (hashK w.params) ∧
      (kvs.map fun p => ofCK p.1).all D.isKey = true ∧ (kvs.map fun p => ofCK p.1).Nodup := by
  obtain ⟨o, es, ep, ho, ⟨c1, c2, c3⟩, hdat, hk, hp, hn⟩ := hd
  obtain ⟨p1, p2⟩ := of_pairs (h := h) (H := H) hp
  have ho' : o = dicO es ep := by obtain ⟨a, b, c, d⟩ := o; dsimp only at c1 c2 c3 hdat; subst c1 c2 c3 hdat; rfl
  refine ⟨es, ep, ho' ▸ ho, p1, p2, ?_, ?_, ?_⟩
  · have key : ∀ (l : List DictEntry) (kvs : List (CK × Value)), (∀ e ∈ l, ∃ k, (cellKind prog w).is k e.key = true ∧ e.hash = (cellKind prog w).hash k) → Pairs (cellKind prog w) l kvs → l.map (·.hash) = (kvs.map fun p => ofCK p.1).map (hashK w.params) := by
      intro l kvs hk hp
      induction hp with
      | nil => rfl
      | cons h1 h2 h3 ih =>
        obtain ⟨k, q1, q2⟩ := hk _ (List.mem_cons_self)
        have e := (cellKind prog w).inj _ _ _ q1 h1
        rw [e] at q2
        rw [List.map_cons, List.map_cons, List.map_cons, ih fun e he => hk e (List.mem_cons_of_mem _ he), q2]
        rfl
    exact key _ _ (fun e he => hk e (Array.mem_toList_iff.mp he)) hp
  · rw [List.all_eq_true]
    intro d hd
    obtain ⟨p, _, rfl⟩ := List.mem_map.mp hd
    cases p.1 <;> rfl
  · have : (kvs.map fun p => ofCK p.1) = (kvs.map (·.1)).map ofCK := by simp
    rw [this]
    exact List.pairwise_map.mpr (hn.imp fun h e => h (ofCK_inj e))

noncomputable def cellEq (a b : D) : Bool := match a with
  | .int i => (match b with | .int j => i == j | _ => false)
  | .str x => (match b with | .str y => x == y | _ => false)
  | _ => false
noncomputable def cellsEq : List D → List D → Bool
  | [], [] => true
  | a :: r, b :: r' => cellEq a b && cellsEq r r'
  | _, _ => false
noncomputable def keyEq (a b : D) : Bool := match a with
  | .tup x => (match b with | .tup y => cellsEq x y | _ => false)
  | a => cellEq a b
noncomputable def dget : List D → List D → D → Option D
  | k :: ks, v :: vs, x => if keyEq k x then some v else dget ks vs x
  | _, _, _ => Option.none
noncomputable def dput : List D → List D → D → D → List D × List D
  | k' :: ks, v' :: vs, k, v => if keyEq k' k then (k' :: ks, v :: vs) else (k' :: (dput ks vs k v).1, v' :: (dput ks vs k v).2)
  | _, _, k, v => ([k], [v])
theorem cellEq_ck (a b : CK) : cellEq (ofCK a) (ofCK b) = decide (a = b) := by
  cases a <;> cases b
  · simp only [ofCK, cellEq, Sum.inl.injEq]; rfl
  · rfl
  · rfl
  · simp only [ofCK, cellEq, Sum.inr.injEq]; rfl
theorem keyEq_ck (a b : CK) : keyEq (ofCK a) (ofCK b) = decide (a = b) := by
  rw [← cellEq_ck]; cases a <;> rfl
theorem dget_valueAt {P : Params} {h : Heap} {H : Addr → Prop} {k : CK} {d : D} : ∀ {cs : List CK} {vals : List Value} {vs : List D}, RepAll P h H vals vs → dget (cs.map ofCK) vs (ofCK k) = some d → ∃ v, valueAt (cs.zip vals) k = some v ∧ Rep P h H v d
  | [], _, _, _, e => by simp [dget] at e
  | c :: cs, _, _, .nil, e => by simp [dget] at e
  | c :: cs, _, _, .cons (v := v) (vs := vals) (ds := vs) hv hr, e => by
    simp only [List.map_cons, dget, keyEq_ck] at e
    by_cases hc : c = k
    · rw [if_pos (by simpa using hc)] at e
      cases e
      exact ⟨v, by simp [valueAt, hc], hv⟩
    · rw [if_neg (by simpa using hc)] at e
      obtain ⟨u, h1, h2⟩ := dget_valueAt hr e
      refine ⟨u, ?_, h2⟩
      unfold valueAt at h1 ⊢
      rw [List.zip_cons_cons, List.find?_cons_of_neg (by simpa using hc)]
      exact h1
theorem any_valueAt {k : CK} : ∀ {cs : List CK} {vals : List Value}, cs.length = vals.length → (valueAt (cs.zip vals) k).isSome = (cs.map ofCK).any fun x => keyEq x (ofCK k)
  | [], [], _ => rfl
  | c :: cs, v :: vals, e => by
    have ih := any_valueAt (k := k) (cs := cs) (vals := vals) (by simpa using e)
    simp only [List.map_cons, List.any_cons, keyEq_ck]
    unfold valueAt at ih ⊢
    by_cases hc : c = k
    · simp [hc]
    · rw [List.zip_cons_cons, List.find?_cons_of_neg (by simpa using hc), ih]
      simp [hc]
theorem stored_dput {P : Params} {h : Heap} {H : Addr → Prop} {k : CK} {v : Value} {d : D} (hv : Rep P h H v d) {cs : List CK} : ∀ {vals : List Value} {vs : List D}, cs.length = vals.length → cs.Nodup → RepAll P h H vals vs →
    ((stored (cs.zip vals) k v).map fun p => ofCK p.1) = (dput (cs.map ofCK) vs (ofCK k) d).1 ∧ RepAll P h H ((stored (cs.zip vals) k v).map (·.2)) (dput (cs.map ofCK) vs (ofCK k) d).2 := by
  induction cs with
  | nil =>
    intro vals vs e _ hr
    cases hr with
    | nil => exact ⟨rfl, .cons hv .nil⟩
    | cons _ _ => simp at e
  | cons c cs IH =>
    intro vals' vs' e hn hr'
    cases hr' with
    | nil => simp at e
    | cons hu hr =>
    rename_i u _ vals vs
    have hl : cs.length = vals.length := by simpa using e
    obtain ⟨hnc, hn'⟩ := List.nodup_cons.mp hn
    obtain ⟨ih1, ih2⟩ := IH hl hn' hr
    simp only [List.map_cons, dput, keyEq_ck, List.zip_cons_cons]
    by_cases hc : c = k
    · subst hc
      have hs : stored ((c, u) :: cs.zip vals) c v = (c, v) :: cs.zip vals := by
        unfold stored
        rw [if_pos (by simp)]
        simp only [List.map_cons, if_true]
        rw [map_store_of_not_mem _ _ _ (by rw [zip_fst hl]; exact hnc)]
      rw [hs, if_pos (by simp)]
      refine ⟨?_, ?_⟩
      · simp only [List.map_cons]
        congr 1
        have : (cs.zip vals).map (fun p => ofCK p.1) = ((cs.zip vals).map (·.1)).map ofCK := by simp
        rw [this, zip_fst hl]
      · simp only [List.map_cons]
        rw [zip_snd hl]
        exact .cons hv hr
    · have hs : stored ((c, u) :: cs.zip vals) k v = (c, u) :: stored (cs.zip vals) k v := by
        unfold stored
        by_cases ha : (cs.zip vals).any (fun kv => decide (kv.1 = k)) = true
        · rw [if_pos ha, if_pos (by simp [ha, hc])]
          simp [hc]
        · rw [if_neg ha, if_neg (by simpa [hc] using ha)]
          rfl
      rw [hs, if_neg (by simpa using hc)]
      exact ⟨by simp only [List.map_cons]; rw [ih1], .cons hu ih2⟩
end Mine

namespace Mine
open PySem PySem.SeqAt
/-! dicts with keys that are tuples of ints and strs -/
noncomputable def D.isTK : D → Bool
  | .tup ds => ds.all D.isCell
  | _ => false
noncomputable def ofTK (k : List CK) : D := .tup (k.map ofCK)
theorem tk_ck {d : D} (h : d.isTK = true) : ∃ k, d = ofTK k := by
  cases d <;> first | cases h | skip
  obtain ⟨cs, rfl⟩ := cells_ck h
  exact ⟨cs, rfl⟩
theorem tks_ck : ∀ {ks : List D}, ks.all D.isTK = true → ∃ cs : List (List CK), ks = cs.map ofTK
  | [], _ => ⟨[], rfl⟩
  | k :: ks, h => by
    simp only [List.all_cons, Bool.and_eq_true] at h
    obtain ⟨c, rfl⟩ := tk_ck h.1
    obtain ⟨cs, rfl⟩ := tks_ck h.2
    exact ⟨c :: cs, rfl⟩
theorem ofTK_inj {a b : List CK} (h : ofTK a = ofTK b) : a = b := (List.map_inj_right fun _ _ => ofCK_inj).mp (D.tup.inj h)
theorem cellsEq_ck : ∀ (a b : List CK), cellsEq (a.map ofCK) (b.map ofCK) = decide (a = b)
  | [], [] => rfl
  | [], _ :: _ => rfl
  | _ :: _, [] => rfl
  | x :: a, y :: b => by
    simp only [List.map_cons, cellsEq, cellEq_ck, cellsEq_ck a b, List.cons.injEq, Bool.decide_and]
theorem keyEq_tk (a b : List CK) : keyEq (ofTK a) (ofTK b) = decide (a = b) := cellsEq_ck a b
noncomputable abbrev TKd (prog : Program) (w : World) := tupleKind (cellKind prog w)
section
variable {prog : Program} {w : World} {h : Heap} {H : Addr → Prop}
theorem items_of : ∀ {vs : List Value} {ks : List CK}, RepAll w.params h H vs (ks.map ofCK) → ItemsAre (cellKind prog w) ks vs
  | [], [], _ => .nil
  | [], _ :: _, r => by cases r
  | _ :: _, [], r => by cases r
  | v :: vs, k :: ks, r => by
    cases r with
    | cons r1 r2 => exact .cons (rep_ck r1) (items_of r2)
theorem rep_tk {v : Value} {k : List CK} (r : Rep w.params h H v (ofTK k)) : ∃ a, v = .ref a ∧ (TKd prog w).is h k a := by
  cases r with
  | tup ho hn hl hr => exact ⟨_, rfl, _, _, _, ho, rfl, rfl, items_of hr⟩
theorem hash_tk (k : List CK) : (TKd prog w).hash k = hashK w.params (ofTK k) := by
  show reduceHash (Builtin.Tuple.tupleHashOf (k.map fun c => hashK w.params (ofCK c))) = reduceHash (Builtin.Tuple.tupleHashOf ((k.map ofCK).map (hashC w.params)))
  rw [List.map_map]
  congr 2
  refine List.map_congr_left fun c _ => ?_
  cases c <;> rfl
noncomputable abbrev kD (x : List CK × Addr × Value) : D := ofTK x.1
theorem entries_tk : ∀ {es : List DictEntry} {cs : List (List CK)}, RepAll w.params h H (es.map (·.key)) (cs.map ofTK) → es.map (·.hash) = (cs.map ofTK).map (hashK w.params) →
    ∃ xs : List (List CK × Addr × Value), es = xs.map (entryOfKey (TKd prog w)) ∧ (∀ x ∈ xs, (TKd prog w).is h x.1 x.2.1) ∧ xs.map (·.1) = cs
  | [], [], _, _ => ⟨[], rfl, (fun _ h => nomatch h), rfl⟩
  | [], _ :: _, r, _ => by cases r
  | _ :: _, [], r, _ => by cases r
  | e :: es, c :: cs, r, hh => by
    cases r with
    | cons r1 r2 =>
      simp only [List.map_cons, List.cons.injEq] at hh
      obtain ⟨a, ea, ia⟩ := rep_tk (prog := prog) r1
      obtain ⟨xs, e1, e2, e3⟩ := entries_tk r2 hh.2
      refine ⟨(c, a, e.val) :: xs, ?_, fun x hx => ?_, by rw [List.map_cons, e3]⟩
      · rw [List.map_cons, ← e1]
        congr 1
        obtain ⟨eh, ek, ev⟩ := e
        show _ = DictEntry.mk _ _ _
        rw [hash_tk, ← hh.1, ← ea]
      · rcases List.mem_cons.mp hx with rfl | hx
        · exact ia
        · exact e2 x hx
theorem dictH_rep {a : Addr} {es : Array DictEntry} {n : Nat} {cs : List (List CK)} (ho : h.get? a = some (dicO es n)) (hr : RepAll w.params h H (es.toList.map (·.key)) (cs.map ofTK))
    (hh : es.toList.map (·.hash) = (cs.map ofTK).map (hashK w.params)) (hn : (cs.map ofTK).Nodup) :
    ∃ xs : List (List CK × Addr × Value), h.DictOfH (TKd prog w) a xs ∧ xs.map (·.1) = cs ∧ es.toList.map (·.key) = xs.map (fun x => Value.ref x.2.1) ∧ es.toList.map (·.val) = xs.map (·.2.2) := by
  obtain ⟨xs, e1, e2, e3⟩ := entries_tk (prog := prog) hr hh
  refine ⟨xs, ⟨_, es, n, ho, ⟨rfl, rfl, rfl⟩, rfl, e1, e2, ?_⟩, e3, ?_, ?_⟩
  · rw [e3]; exact (List.pairwise_map.mp hn).imp fun h e => h (by rw [e])
  · rw [e1, List.map_map]; rfl
  · rw [e1, List.map_map]; rfl
theorem atKey_cons (c : List CK) (b : Addr) (u : Value) (xs : List (List CK × Addr × Value)) (k : List CK) : atKey ((c, b, u) :: xs) k = if c = k then some (b, u) else atKey xs k := by
  unfold atKey
  by_cases hc : c = k <;> simp [hc]
theorem any_atKey {k : List CK} : ∀ (xs : List (List CK × Addr × Value)), (atKey xs k).isSome = (xs.map kD).any fun x => keyEq x (ofTK k)
  | [] => rfl
  | (c, b, u) :: xs => by
    rw [atKey_cons, List.map_cons, List.any_cons, keyEq_tk, ← any_atKey xs]
    by_cases hc : c = k <;> simp [hc]
theorem storedH_cons (c : List CK) (b : Addr) (u : Value) (xs : List (List CK × Addr × Value)) (k : List CK) (a : Addr) (v : Value) (hn : c ∉ xs.map (·.1)) :
    storedH ((c, b, u) :: xs) k a v = if c = k then (c, b, v) :: xs else (c, b, u) :: storedH xs k a v := by
  unfold storedH
  rw [atKey_cons]
  by_cases hc : c = k
  · subst hc
    simp only [if_true, Option.isSome_some, List.map_cons, putAt]
    rw [map_putAt_of_not_mem xs c v hn]
  · simp only [hc, if_false, List.map_cons, putAt]
    split <;> rfl
theorem storedH_dput {P : Params} {k : List CK} {a : Addr} {v : Value} {d : D} (hk : Rep P h H (.ref a) (ofTK k)) (hv : Rep P h H v d) : ∀ {xs : List (List CK × Addr × Value)} {vs : List D}, (xs.map (·.1)).Nodup →
    RepAll P h H (xs.map fun x => Value.ref x.2.1) (xs.map kD) → RepAll P h H (xs.map (·.2.2)) vs →
    (storedH xs k a v).map kD = (dput (xs.map kD) vs (ofTK k) d).1 ∧ RepAll P h H ((storedH xs k a v).map fun x => Value.ref x.2.1) (dput (xs.map kD) vs (ofTK k) d).1 ∧ RepAll P h H ((storedH xs k a v).map (·.2.2)) (dput (xs.map kD) vs (ofTK k) d).2
  | [], _, _, _, r => by cases r; exact ⟨rfl, .cons hk .nil, .cons hv .nil⟩
  | (c, b, u) :: xs, _, hn, rk, r => by
    simp only [List.map_cons] at rk r hn
    obtain ⟨hn1, hn2⟩ := List.nodup_cons.mp hn
    cases r with
    | cons r1 r2 =>
      cases rk with
      | cons k1 k2 =>
        obtain ⟨i1, i2, i3⟩ := storedH_dput hk hv hn2 k2 r2
        rw [storedH_cons _ _ _ _ _ _ _ hn1]
        simp only [List.map_cons, dput, keyEq_tk, decide_eq_true_eq]
        by_cases hc : c = k
        · simp only [hc, if_true]
          exact ⟨rfl, .cons (hc ▸ k1) k2, .cons hv r2⟩
        · simp only [hc, if_false]
          exact ⟨by rw [List.map_cons, i1], .cons k1 i2, .cons r1 i3⟩
end
end Mine

namespace Mine
open PySem

/-! the mini language -/
inductive ME where
  | var (x : String)
  | glob (x : String)
  | int (i : Int)
  | str (s : String)
  | bool (b : Bool)
  | none
  | bin (op : Operator) (a b : ME)
  | cmp (op : CmpOp) (a b : ME)
  | bop (op : BoolOp) (es : List ME)
  | not (a : ME)
  | neg (a : ME)
  | tup (es : List ME)
  | lst (es : List ME)
  | sub (a i : ME)
  | sl (a lo hi : ME)
  | dct (ks vs : List ME)
  | comp (elt : ME) (x : String) (src : ME) (cs : List ME)
  | call (f : String) (args : List ME)
  | isi (a : ME) (T : String)
  | blt (f : String) (args : List ME)
  | lcp (a : ME)

inductive MS where
  | assign (x : String) (e : ME)
  | append (x : String) (e : ME)
  | setk (x : String) (k e : ME)
  | ite (c : ME) (t f : List MS)
  | for_ (x : String) (src : ME) (body : List MS)
  | ret (e : ME)
  | bad

noncomputable def D.isList : D → Bool
  | .list _ => true
  | _ => false
/-! data operations -/
noncomputable def D.items : D → Option (List D)
  | .list ds | .tup ds => some ds
  | .rng a b => some ((List.range (b - a).toNat).map fun (i : Nat) => D.int (a + (i : Int)))
  | _ => Option.none

noncomputable def truth : D → Option Bool
  | .bool b => some b
  | .none => some false
  | .int i => some (i != 0)
  | .list ds | .tup ds => some (!ds.isEmpty)
  | _ => Option.none

noncomputable def eqS (a b : D) : Option Bool := match a with
  | .bool x => (match b with | .bool y => some (x == y) | _ => Option.none)
  | .int x => (match b with | .int y => some (x == y) | .str _ => some false | _ => Option.none)
  | .str x => (match b with | .str y => some (x == y) | .int _ => some false | _ => Option.none)
  | _ => Option.none
noncomputable def eqAll : List D → List D → Option Bool
  | [], [] => some true
  | a :: r, b :: r' => match eqS a b, eqAll r r' with
    | some x, some y => some (x && y)
    | _, _ => Option.none
  | _, _ => some false
/-- == of two data -/
noncomputable def eqD (a b : D) : Option Bool := match a with
  | .list ds => (match b with | .list es => if ds.length = es.length then eqAll ds es else some false | _ => Option.none)
  | .tup ds => (match b with | .tup es => if ds.length = es.length then eqAll ds es else Option.none | _ => Option.none)
  | a => eqS a b

noncomputable def lim : Int := 2 ^ 64
noncomputable def powLim : Int := 2 ^ 1000
noncomputable def strLim : Int := 10 ^ 100
noncomputable def binI (op : Operator) (a b : Int) : Option D := match op with
  | .Add => some (.int (a + b))
  | .Sub => some (.int (a - b))
  | .Mult => if (-lim < a ∧ a < lim) ∨ (-lim < b ∧ b < lim) then some (.int (a * b)) else Option.none
  | .FloorDiv => if 0 < b ∧ b < lim then some (.int (a / b)) else Option.none
  | .Mod => if 0 < b then some (.int (a % b)) else Option.none
  | .Pow => if -powLim < a ∧ a < powLim ∧ 0 ≤ b ∧ b ≤ 100 then some (.int (a ^ b.toNat)) else Option.none
  | _ => Option.none
noncomputable def binS (op : Operator) (a : Str) (d : D) : Option D := match op with
  | .Add => (match d with | .str b => if a.length + b.length ≤ big then some (.str (a ++ b)) else Option.none | _ => Option.none)
  | .Mult => (match d with | .int n => if 0 ≤ n ∧ n ≤ 1000 ∧ a.length ≤ 1000 then some (.str (Txt.mul a n)) else Option.none | _ => Option.none)
  | _ => Option.none
noncomputable def binL (op : Operator) (a : List D) (d : D) : Option D := match op with
  | .Add => (match d with | .list b => if a.length + b.length ≤ big then some (.list (a ++ b)) else Option.none | _ => Option.none)
  | _ => Option.none
noncomputable def binT (op : Operator) (a : List D) (d : D) : Option D := match op with
  | .Add => (match d with | .tup b => if a.length + b.length ≤ big then some (.tup (a ++ b)) else Option.none | _ => Option.none)
  | _ => Option.none
noncomputable def binD (op : Operator) (x y : D) : Option D := match x with
  | .int a => (match y with | .int b => binI op a b | _ => Option.none)
  | .str a => binS op a y
  | .list a => binL op a y
  | .tup a => binT op a y
  | _ => Option.none

noncomputable def cmpI (op : CmpOp) (a b : Int) : Option D := match op with
  | .Lt => some (.bool (decide (a < b)))
  | .LtE => some (.bool (decide (a ≤ b)))
  | .Gt => some (.bool (decide (a > b)))
  | .GtE => some (.bool (decide (a ≥ b)))
  | _ => Option.none
noncomputable def ordD (op : CmpOp) (x y : D) : Option D := match x with
  | .int a => (match y with | .int b => cmpI op a b | _ => Option.none)
  | .str a => (match y with | .str b => (match op with | .Lt => some (.bool (decide (a.cps.toList < b.cps.toList))) | _ => Option.none) | _ => Option.none)
  | _ => Option.none
noncomputable def keyOk (k : D) (ks : List D) : Bool := (k.isCell && ks.all D.isCell) || (k.isTK && ks.all D.isTK)
/-- k in c -/
noncomputable def memD (k c : D) : Option Bool := match c with
  | .dict ks _ => if keyOk k ks then some (ks.any fun x => keyEq x k) else Option.none
  | .tup ds => if k.isCell && ds.all D.isCell then some (ds.any fun x => cellEq x k) else Option.none
  | _ => Option.none
noncomputable def cmpD (op : CmpOp) (a b : D) : Option D := match op with
  | .Eq => (eqD a b).map .bool
  | .NotEq => (eqD a b).map fun x => .bool (!x)
  | .In => (memD a b).map .bool
  | .NotIn => (memD a b).map fun x => .bool (!x)
  | op => ordD op a b

/-- the place of an index -/
noncomputable def idx (k : Int) (n : Nat) : Option Nat := if 0 ≤ k ∧ k < n then some k.toNat else if -(n : Int) ≤ k ∧ k < 0 then some (k + n).toNat else Option.none
noncomputable def charAt (x : Str) (j : Nat) : Str := ⟨#[x.cps.getD j 0]⟩
noncomputable def subD (d i : D) : Option D := match d with
  | .list ds => (match i with | .int k => (idx k ds.length).bind fun j => ds[j]? | _ => Option.none)
  | .tup ds => (match i with | .int k => (idx k ds.length).bind fun j => ds[j]? | _ => Option.none)
  | .str x => (match i with | .int k => if 0 ≤ k ∧ k < x.length ∧ x.length ≤ big then some (.str (charAt x k.toNat)) else Option.none | _ => Option.none)
  | .dict ks vs => if i.isCell && ks.all D.isCell then dget ks vs i else Option.none
  | _ => Option.none

noncomputable def bnd (lo : D) (dflt : Nat) : Option Nat := match lo with
  | .none => some dflt
  | .int i => if 0 ≤ i then some i.toNat else Option.none
  | _ => Option.none
noncomputable def bndS (lo : D) : Option (Option Int) := match lo with
  | .none => some Option.none
  | .int i => some (some i)
  | _ => Option.none
noncomputable def slD (d lo hi : D) : Option D := match d with
  | .list ds => (bnd lo 0).bind fun a => (bnd hi ds.length).map fun b => .list ((ds.take b).drop a)
  | .str x => if x.length ≤ big then (bndS lo).bind fun a => (bndS hi).map fun b => .str (Txt.slice x a b) else Option.none
  | _ => Option.none

noncomputable def isiD (d : D) (T : String) : Option Bool :=
  if T = "str" ∨ T = "bool" ∨ T = "int" ∨ T = "tuple" ∨ T = "list" then (match d with
    | .str _ => some (T == "str")
    | .int _ => some (T == "int")
    | .bool _ => some (T == "int" || T == "bool")
    | .tup _ => some (T == "tuple")
    | .list _ => some (T == "list")
    | _ => Option.none) else Option.none

noncomputable def lenD (d : D) : Option D := match d with
  | .list ds => some (.int ds.length)
  | .tup ds => some (.int ds.length)
  | .str x => if x.length ≤ big then some (.int x.length) else Option.none
  | _ => Option.none
noncomputable def rngD (a n : Int) : Option D := if (-(big : Int) ≤ n ∧ n ≤ big) ∧ -(big : Int) ≤ a ∧ a ≤ big then some (.rng a n) else Option.none
noncomputable def bltI (f : String) (i : Int) : Option D :=
  if f = "range" then rngD 0 i else if f = "str" then (if -strLim < i ∧ i < strLim then some (.str (Str.ofString (toString i))) else Option.none) else Option.none
noncomputable def bltI2 (f : String) (a b : Int) : Option D :=
  if f = "range" then rngD a b else if f = "max" then some (.int (if b > a then b else a)) else if f = "min" then some (.int (if b < a then b else a)) else Option.none
/-- the built-ins, but for list -/
noncomputable def bltD (f : String) (as : List D) : Option D := match as with
  | [d] => if f = "len" then lenD d else (match d with
    | .list ds => if f = "tuple" then some (.tup ds) else Option.none
    | .int i => bltI f i
    | .bool b => if f = "int" then some (.int (if b then 1 else 0)) else Option.none
    | .str x => if f = "str" then some (.str x) else Option.none
    | _ => Option.none)
  | [a, b] => (match a with
    | .int i => (match b with | .int j => bltI2 f i j | _ => Option.none)
    | _ => Option.none)
  | _ => Option.none
/-- list of it -/
noncomputable def lstD (d : D) : Option (List D) := match d with
  | .list ds => some ds
  | .tup ds => some ds
  | .dict ks _ => if ks.all D.isCell then some ks else Option.none
  | _ => Option.none

noncomputable def dputs (ks vs : List D) : List D × List D := (ks.zip vs).foldl (fun acc p => dput acc.1 acc.2 p.1 p.2) ([], [])

/-! the evaluator -/
noncomputable def compM (f : D → Option (Option D)) : List D → Option (List D)
  | [] => some []
  | it :: r => match f it with
    | Option.none => Option.none
    | some o => match compM f r with
      | Option.none => Option.none
      | some ds => some (match o with | Option.none => ds | some d => d :: ds)

structure CF where
  call : String → List D → Option (D × Bool)
  glob : String → Option D

mutual
noncomputable def evE (cf : CF) (ρ : List (String × D)) (me : ME) : Option D := match me with
  | .var x => ρ.lookup x
  | .glob x => cf.glob x
  | .int i => some (.int i)
  | .str s => some (.str (Str.ofString s))
  | .bool b => some (.bool b)
  | .none => some .none
  | .bin op a b => match evE cf ρ a with
    | some x => (match evE cf ρ b with | some y => binD op x y | Option.none => Option.none)
    | Option.none => Option.none
  | .cmp op a b => match evE cf ρ a with
    | some x => (match evE cf ρ b with | some y => cmpD op x y | Option.none => Option.none)
    | Option.none => Option.none
  | .bop op es => evBop cf ρ op es
  | .not a => match evE cf ρ a with
    | some x => (truth x).map fun t => .bool (!t)
    | Option.none => Option.none
  | .neg a => match evE cf ρ a with
    | some (.int i) => some (.int (-i))
    | _ => Option.none
  | .tup es => match evEs cf ρ es with
    | some ds => if ds.length ≤ big then some (.tup ds) else Option.none
    | Option.none => Option.none
  | .lst es => match evEs cf ρ es with
    | some ds => if ds.length ≤ big then some (.list ds) else Option.none
    | Option.none => Option.none
  | .dct ks vs => match evEs cf ρ ks with
    | some ds => (match evEs cf ρ vs with
      | some es => if ds.all D.isCell && ds.length == es.length && decide (ds.length ≤ 15) then some (.dict (dputs ds es).1 (dputs ds es).2) else Option.none
      | Option.none => Option.none)
    | Option.none => Option.none
  | .sub a i => match evE cf ρ a with
    | some x => (match evE cf ρ i with | some y => subD x y | Option.none => Option.none)
    | Option.none => Option.none
  | .sl a lo hi => match evE cf ρ a with
    | some x => (match evE cf ρ lo with
      | some y => (match evE cf ρ hi with | some z => slD x y z | Option.none => Option.none)
      | Option.none => Option.none)
    | Option.none => Option.none
  | .comp elt x src cs => match evE cf ρ src with
    | some d => (match d.items with
      | some its => if its.length ≤ big then (compM (fun it => match evCs cf ((x, it) :: ρ) cs with
          | some true => (match evE cf ((x, it) :: ρ) elt with | some y => some (some y) | Option.none => Option.none)
          | some false => some Option.none
          | Option.none => Option.none) its).map .list else Option.none
      | Option.none => Option.none)
    | Option.none => Option.none
  | .call f args => match evEs cf ρ args with
    | some ds => (cf.call f ds).map (·.1)
    | Option.none => Option.none
  | .isi a T => match evE cf ρ a with
    | some x => (isiD x T).map .bool
    | Option.none => Option.none
  | .blt f args => match evEs cf ρ args with
    | some ds => bltD f ds
    | Option.none => Option.none
  | .lcp a => match evE cf ρ a with
    | some x => (lstD x).map .list
    | Option.none => Option.none
termination_by structural me
noncomputable def evEs (cf : CF) (ρ : List (String × D)) (ms : List ME) : Option (List D) := match ms with
  | [] => some []
  | e :: r => match evE cf ρ e with
    | some d => (match evEs cf ρ r with | some ds => some (d :: ds) | Option.none => Option.none)
    | Option.none => Option.none
termination_by structural ms
noncomputable def evBop (cf : CF) (ρ : List (String × D)) (op : BoolOp) (ms : List ME) : Option D := match ms with
  | [] => Option.none
  | [e] => evE cf ρ e
  | e :: r => match evE cf ρ e with
    | some d => (match truth d with
      | some t => if t = (match op with | .And => false | .Or => true) then some d else evBop cf ρ op r
      | Option.none => Option.none)
    | Option.none => Option.none
termination_by structural ms
noncomputable def evCs (cf : CF) (ρ : List (String × D)) (ms : List ME) : Option Bool := match ms with
  | [] => some true
  | e :: r => match evE cf ρ e with
    | some d => (match truth d with
      | some t => if t then evCs cf ρ r else some false
      | Option.none => Option.none)
    | Option.none => Option.none
termination_by structural ms
end

/-! the variables that an expression reads -/
mutual
noncomputable def ME.names : ME → List String
  | .var x => [x]
  | .bin _ a b | .cmp _ a b | .sub a b => a.names ++ b.names
  | .bop _ es | .tup es | .lst es | .call _ es | .blt _ es => namesL es
  | .not a | .neg a | .isi a _ | .lcp a => a.names
  | .dct ks vs => namesL ks ++ namesL vs
  | .sl a lo hi => a.names ++ lo.names ++ hi.names
  | .comp elt x src cs => src.names ++ (elt.names ++ namesL cs).filter (· != x)
  | .glob _ | .int _ | .str _ | .bool _ | .none => []
noncomputable def namesL : List ME → List String
  | [] => []
  | e :: r => e.names ++ namesL r
end

/-! statements -/
noncomputable abbrev St := List (String × (Bool × D))
noncomputable def vis (σ : St) : List (String × D) := σ.map fun p => (p.1, p.2.2)
noncomputable def setv (σ : St) (x : String) (v : Bool × D) : St := match σ with
  | [] => [(x, v)]
  | (y, w) :: r => if y = x then (y, v) :: r else (y, w) :: setv r x v
noncomputable def freeze (ns : List String) (σ : St) : St := σ.map fun p => (p.1, (p.2.1 && !ns.contains p.1, p.2.2))
noncomputable def settle (d : D) (ns : List String) (σ : St) : St := if d.scalar then σ else freeze ns σ

inductive Fl where
  | next
  | ret (fr : Bool) (d : D)

/-- an expression's value, and whether it is a new list that nothing else holds -/
noncomputable def frF (me : ME) (d : D) : Bool := match me with
  | .lst _ | .comp _ _ _ _ | .dct _ _ | .lcp _ => true
  | .sl _ _ _ | .bin _ _ _ => d.isList
  | .var _ | .glob _ | .int _ | .str _ | .bool _ | .none | .cmp _ _ _ | .bop _ _ | .not _ | .neg _ | .tup _ | .sub _ _ | .call _ _ | .isi _ _ | .blt _ _ => false
noncomputable def isCallE (me : ME) : Option (String × List ME) := match me with
  | .call f args => some (f, args)
  | _ => Option.none
noncomputable def evF (cf : CF) (ρ : List (String × D)) (me : ME) : Option (D × Bool) := match isCallE me with
  | some (f, args) => (match evEs cf ρ args with
    | some ds => cf.call f ds
    | Option.none => Option.none)
  | Option.none => (evE cf ρ me).map fun d => (d, frF me d)

section
variable (cf : CF) (ρ : List (String × D))
theorem evF_call (f : String) (args : List ME) : evF cf ρ (.call f args) = (match evEs cf ρ args with | some ds => cf.call f ds | Option.none => Option.none) := rfl
theorem evF_lst (es : List ME) : evF cf ρ (.lst es) = (evE cf ρ (.lst es)).map fun d => (d, true) := rfl
theorem evF_dct (ks vs : List ME) : evF cf ρ (.dct ks vs) = (evE cf ρ (.dct ks vs)).map fun d => (d, true) := rfl
theorem evF_lcp (a : ME) : evF cf ρ (.lcp a) = (evE cf ρ (.lcp a)).map fun d => (d, true) := rfl
theorem evF_comp (elt : ME) (x : String) (src : ME) (cs : List ME) : evF cf ρ (.comp elt x src cs) = (evE cf ρ (.comp elt x src cs)).map fun d => (d, true) := rfl
theorem evF_sl (a l h : ME) : evF cf ρ (.sl a l h) = (evE cf ρ (.sl a l h)).map fun d => (d, d.isList) := rfl
theorem evF_bin (op : Operator) (a b : ME) : evF cf ρ (.bin op a b) = (evE cf ρ (.bin op a b)).map fun d => (d, d.isList) := rfl
end
noncomputable def forD (f : D → St → Option (Fl × St)) : List D → St → Option (Fl × St)
  | [], σ => some (.next, σ)
  | it :: r, σ => match f it σ with
    | some (.next, σ') => forD f r σ'
    | x => x
mutual
noncomputable def exS (cf : CF) (st : MS) (σ : St) : Option (Fl × St) := match st, σ with
  | .assign x e, σ => match evF cf (vis σ) e with
    | some (d, fr) => some (.next, setv (settle d e.names σ) x (fr, d))
    | Option.none => Option.none
  | .append x e, σ => match evE cf (vis σ) e with
    | some d => (match (settle d e.names σ).lookup x with
      | some (true, .list ds) => if ds.length < big then some (.next, setv (settle d e.names σ) x (true, .list (ds ++ [d]))) else Option.none
      | _ => Option.none)
    | Option.none => Option.none
  | .setk x k e, σ => match evE cf (vis σ) e with
    | some d => (match evE cf (vis σ) k with
      | some dk => (match (settle dk k.names (settle d e.names σ)).lookup x with
        | some (true, .dict ks vs) => if keyOk dk ks && decide (ks.length < big) then some (.next, setv (settle dk k.names (settle d e.names σ)) x (true, .dict (dput ks vs dk d).1 (dput ks vs dk d).2)) else Option.none
        | _ => Option.none)
      | Option.none => Option.none)
    | Option.none => Option.none
  | .ite c t f, σ => match evE cf (vis σ) c with
    | some d => (match truth d with
      | some true => exSs cf t σ
      | some false => exSs cf f σ
      | Option.none => Option.none)
    | Option.none => Option.none
  | .for_ x src body, σ => match evE cf (vis σ) src with
    | some d => (match d.items with
      | some its => forD (fun it σ => exSs cf body (setv σ x (false, it))) its (freeze src.names σ)
      | Option.none => Option.none)
    | Option.none => Option.none
  | .ret e, σ => match e with
    | .var x => (match σ.lookup x with | some (fr, d) => some (.ret fr d, σ) | Option.none => Option.none)
    | e => (match evF cf (vis σ) e with
      | some (d, fr) => some (.ret fr d, σ)
      | Option.none => Option.none)
  | .bad, _ => Option.none
termination_by structural st
noncomputable def exSs (cf : CF) (ss : List MS) (σ : St) : Option (Fl × St) := match ss, σ with
  | [], σ => some (.next, σ)
  | st :: r, σ => match exS cf st σ with
    | some (.next, σ') => exSs cf r σ'
    | x => x
termination_by structural ss
end

structure Fn where
  params : List String
  body : List MS

/-- calls: n is how deep they may nest; X: functions that are shown by hand, and global constants -/
noncomputable def callN (P : List (String × Fn)) (X : CF) : Nat → CF
  | 0 => ⟨fun _ _ => Option.none, X.glob⟩
  | n + 1 => ⟨fun f args => match P.lookup f with
    | Option.none => X.call f args
    | some fn => if args.length = fn.params.length then
        (match exSs (callN P X n) fn.body ((fn.params.zip args).map fun p => (p.1, (false, p.2))) with
        | some (.ret fr d, _) => some (d, fr)
        | some (.next, _) => some (.none, false)
        | _ => Option.none)
      else Option.none, X.glob⟩
end Mine

namespace Mine
open PySem

noncomputable abbrev KD := Str → Option NameKind
noncomputable def isVar (k : KD) (x : Str) : Bool := (k x == some .local || k x == some .cell || k x == some .free) && x != Str.ofString "__debug__" && x != Str.ofString "__classdict__" && x != Str.ofString ".0"
noncomputable def isGlob (k : KD) (x : Str) : Bool := k x == some .globalImplicit && x != Str.ofString "__debug__"
noncomputable def kindC (k : KD) (scope : Scope) : KD := fun x => (scope.names.map fun p => if p.2 == .free && k p.1 == some .cell then (p.1, NameKind.cell) else p).lookup x
noncomputable def notSet : Expr → Bool
  | .Set .. => false
  | _ => true
noncomputable def okScope (k : KD) (scope : Scope) (x : Str) : Bool :=
  scope.kind == .function && decide (scope.names.map (·.1)).Nodup && (scope.names.lookup x == some .local || scope.names.lookup x == some .cell) &&
  scope.names.all (fun p => p.2 != .free || k p.1 == some .cell || k p.1 == some .free) && scope.names.all (fun p => p.2 == .free || p.2 == .globalImplicit || p.1 == x || p.1 == Str.ofString ".0")

noncomputable def ME.isNone : ME → Bool
  | .none => true
  | _ => false

noncomputable def notSlice : Expr → Bool
  | .Slice .. => false
  | _ => true
noncomputable def c1 {α : Type} (l : List α) (f : α → Bool) : Bool := match l with | [x] => f x | _ => false
theorem c1_inv {α : Type} {l : List α} {f : α → Bool} (h : c1 l f = true) : ∃ x, l = [x] ∧ f x = true := by
  match l, h with
  | [x], h => exact ⟨x, rfl, h⟩
noncomputable def c2 {α : Type} (l : List α) (f : α → α → Bool) : Bool := match l with | [x, y] => f x y | _ => false
theorem c2_inv {α : Type} {l : List α} {f : α → α → Bool} (h : c2 l f = true) : ∃ x y, l = [x, y] ∧ f x y = true := by
  match l, h with
  | [x, y], h => exact ⟨x, y, rfl, h⟩
noncomputable def cOpt {α : Type} (l : Option α) (f : α → Bool) : Bool := match l with | some x => f x | none => false
theorem cOpt_inv {α : Type} {l : Option α} {f : α → Bool} (h : cOpt l f = true) : ∃ x, l = some x ∧ f x = true := by
  cases l with
  | none => cases h
  | some x => exact ⟨x, rfl, h⟩
noncomputable def cName (e : Expr) (f : Str → Pos → Bool) : Bool := match e with | .Name y p => f y p | _ => false
theorem cName_inv {e : Expr} {f : Str → Pos → Bool} (h : cName e f = true) : ∃ (y : Str) (p : Pos), e = .Name y p ∧ f y p = true := by
  cases e <;> first | exact ⟨_, _, rfl, h⟩ | exact absurd h Bool.false_ne_true
noncomputable def cConst (e : Expr) (f : Const → Nat → Pos → Bool) : Bool := match e with | .Constant c n p => f c n p | _ => false
theorem cConst_inv {e : Expr} {f : Const → Nat → Pos → Bool} (h : cConst e f = true) : ∃ (c : Const) (n : Nat) (p : Pos), e = .Constant c n p ∧ f c n p = true := by
  cases e <;> first | exact ⟨_, _, _, rfl, h⟩ | exact absurd h Bool.false_ne_true
noncomputable def cBin (e : Expr) (f : Expr → Operator → Expr → Pos → Bool) : Bool := match e with | .BinOp l o r p => f l o r p | _ => false
theorem cBin_inv {e : Expr} {f : Expr → Operator → Expr → Pos → Bool} (h : cBin e f = true) : ∃ (l : Expr) (o : Operator) (r : Expr) (p : Pos), e = .BinOp l o r p ∧ f l o r p = true := by
  cases e <;> first | exact ⟨_, _, _, _, rfl, h⟩ | exact absurd h Bool.false_ne_true
noncomputable def cBool (e : Expr) (f : BoolOp → List Expr → Pos → Bool) : Bool := match e with | .BoolOp o vs p => f o vs p | _ => false
theorem cBool_inv {e : Expr} {f : BoolOp → List Expr → Pos → Bool} (h : cBool e f = true) : ∃ (o : BoolOp) (vs : List Expr) (p : Pos), e = .BoolOp o vs p ∧ f o vs p = true := by
  cases e <;> first | exact ⟨_, _, _, rfl, h⟩ | exact absurd h Bool.false_ne_true
noncomputable def cUn (e : Expr) (f : UnaryOp → Expr → Pos → Bool) : Bool := match e with | .UnaryOp o x p => f o x p | _ => false
theorem cUn_inv {e : Expr} {f : UnaryOp → Expr → Pos → Bool} (h : cUn e f = true) : ∃ (o : UnaryOp) (x : Expr) (p : Pos), e = .UnaryOp o x p ∧ f o x p = true := by
  cases e <;> first | exact ⟨_, _, _, rfl, h⟩ | exact absurd h Bool.false_ne_true
noncomputable def cTup (e : Expr) (f : List Expr → Nat → Pos → Bool) : Bool := match e with | .Tuple vs n p => f vs n p | _ => false
theorem cTup_inv {e : Expr} {f : List Expr → Nat → Pos → Bool} (h : cTup e f = true) : ∃ (vs : List Expr) (n : Nat) (p : Pos), e = .Tuple vs n p ∧ f vs n p = true := by
  cases e <;> first | exact ⟨_, _, _, rfl, h⟩ | exact absurd h Bool.false_ne_true
noncomputable def cLst (e : Expr) (f : List Expr → Pos → Bool) : Bool := match e with | .List vs p => f vs p | _ => false
theorem cLst_inv {e : Expr} {f : List Expr → Pos → Bool} (h : cLst e f = true) : ∃ (vs : List Expr) (p : Pos), e = .List vs p ∧ f vs p = true := by
  cases e <;> first | exact ⟨_, _, rfl, h⟩ | exact absurd h Bool.false_ne_true
noncomputable def cSub (e : Expr) (f : Expr → Expr → Pos → Bool) : Bool := match e with | .Subscript v s p => f v s p | _ => false
theorem cSub_inv {e : Expr} {f : Expr → Expr → Pos → Bool} (h : cSub e f = true) : ∃ (v : Expr) (s : Expr) (p : Pos), e = .Subscript v s p ∧ f v s p = true := by
  cases e <;> first | exact ⟨_, _, _, rfl, h⟩ | exact absurd h Bool.false_ne_true
noncomputable def cSlice (e : Expr) (f : Option Expr → Option Expr → Option Expr → Pos → Bool) : Bool := match e with | .Slice l u t p => f l u t p | _ => false
theorem cSlice_inv {e : Expr} {f : Option Expr → Option Expr → Option Expr → Pos → Bool} (h : cSlice e f = true) : ∃ (l : Option Expr) (u : Option Expr) (t : Option Expr) (p : Pos), e = .Slice l u t p ∧ f l u t p = true := by
  cases e <;> first | exact ⟨_, _, _, _, rfl, h⟩ | exact absurd h Bool.false_ne_true
noncomputable def cCmp (e : Expr) (f : Expr → List CmpOp → List Expr → Pos → Bool) : Bool := match e with | .Compare l os rs p => f l os rs p | _ => false
theorem cCmp_inv {e : Expr} {f : Expr → List CmpOp → List Expr → Pos → Bool} (h : cCmp e f = true) : ∃ (l : Expr) (os : List CmpOp) (rs : List Expr) (p : Pos), e = .Compare l os rs p ∧ f l os rs p = true := by
  cases e <;> first | exact ⟨_, _, _, _, rfl, h⟩ | exact absurd h Bool.false_ne_true
noncomputable def cCall (e : Expr) (f : Expr → List Expr → List Keyword → Pos → Bool) : Bool := match e with | .Call g as ks p => f g as ks p | _ => false
theorem cCall_inv {e : Expr} {f : Expr → List Expr → List Keyword → Pos → Bool} (h : cCall e f = true) : ∃ (g : Expr) (as : List Expr) (ks : List Keyword) (p : Pos), e = .Call g as ks p ∧ f g as ks p = true := by
  cases e <;> first | exact ⟨_, _, _, _, rfl, h⟩ | exact absurd h Bool.false_ne_true
noncomputable def cLC (e : Expr) (f : Expr → List Comprehension → Scope → Pos → Bool) : Bool := match e with | .ListComp t gs sc p => f t gs sc p | _ => false
theorem cLC_inv {e : Expr} {f : Expr → List Comprehension → Scope → Pos → Bool} (h : cLC e f = true) : ∃ (t : Expr) (gs : List Comprehension) (sc : Scope) (p : Pos), e = .ListComp t gs sc p ∧ f t gs sc p = true := by
  cases e <;> first | exact ⟨_, _, _, _, rfl, h⟩ | exact absurd h Bool.false_ne_true
noncomputable def cDict (e : Expr) (f : List (Option Expr) → List Expr → Pos → Bool) : Bool := match e with | .Dict ks vs p => f ks vs p | _ => false
theorem cDict_inv {e : Expr} {f : List (Option Expr) → List Expr → Pos → Bool} (h : cDict e f = true) : ∃ (ks : List (Option Expr)) (vs : List Expr) (p : Pos), e = .Dict ks vs p ∧ f ks vs p = true := by
  cases e <;> first | exact ⟨_, _, _, rfl, h⟩ | exact absurd h Bool.false_ne_true
noncomputable def cAttr (e : Expr) (f : Expr → Str → Pos → Bool) : Bool := match e with | .Attribute x a p => f x a p | _ => false
theorem cAttr_inv {e : Expr} {f : Expr → Str → Pos → Bool} (h : cAttr e f = true) : ∃ (x : Expr) (a : Str) (p : Pos), e = .Attribute x a p ∧ f x a p = true := by
  cases e <;> first | exact ⟨_, _, _, rfl, h⟩ | exact absurd h Bool.false_ne_true
mutual
noncomputable def chkE (k : KD) (e : Expr) (me : ME) : Bool := match me with
  | .var x => cName e fun y _ => y == Str.ofString x && isVar k y
  | .glob x => cName e fun y _ => y == Str.ofString x && isGlob k y
  | .int i => cConst e fun c _ _ => c == .int i
  | .str s => cConst e fun c _ _ => c == .str (Str.ofString s)
  | .bool b => cConst e fun c _ _ => c == .bool b
  | .none => cConst e fun c _ _ => c == .none
  | .bin op a b => cBin e fun l op' r _ => op == op' && chkE k l a && chkE k r b
  | .cmp op a b => cCmp e fun l os rs _ => os == [op] && c1 rs fun r => notSet r && chkE k l a && chkE k r b
  | .bop op es => cBool e fun op' vs _ => op == op' && chkEs k vs es
  | .not a => cUn e fun o x _ => o == .Not && chkE k x a
  | .neg a => cUn e fun o x _ => o == .USub && chkE k x a
  | .tup es => cTup e fun vs _ _ => chkEs k vs es
  | .lst es => cLst e fun vs _ => chkEs k vs es
  | .dct ks vs => cDict e fun kes ves _ => kes.all Option.isSome && chkEs k (kes.filterMap id) ks && chkEs k ves vs
  | .sub a i => cSub e fun v s _ => notSlice s && chkE k v a && chkE k s i
  | .sl a lo hi => cSub e fun v s _ => cSlice s fun l u t _ => t.isNone && chkE k v a && (match l with | Option.none => lo.isNone | some x => chkE k x lo) && (match u with | Option.none => hi.isNone | some x => chkE k x hi)
  | .comp elt x src cs => cLC e fun t gs scope _ => c1 gs fun g => g.is_async == 0 && cName g.target fun y _ => y == Str.ofString x && notSet g.iter && okScope k scope y && chkE k g.iter src && chkE (kindC k scope) t elt && chkEs (kindC k scope) g.ifs cs
  | .call f args => cCall e fun g as ks _ => ks.isEmpty && cName g fun g _ => g == Str.ofString f && isGlob k g && chkEs k as args
  | .isi a T => cCall e fun g as ks _ => ks.isEmpty && c2 as fun x t => cName g fun g _ => cName t fun t _ => g == Str.ofString "isinstance" && isGlob k g && t == Str.ofString T && isGlob k t && chkE k x a
  | .blt f args => cCall e fun g as ks _ => ks.isEmpty && cName g fun g _ => g == Str.ofString f && isGlob k g && chkEs k as args
  | .lcp a => cCall e fun g as ks _ => ks.isEmpty && cName g fun g _ => g == Str.ofString "list" && isGlob k g && c1 as fun x => chkE k x a
termination_by structural me
noncomputable def chkEs (k : KD) (es : List Expr) (ms : List ME) : Bool := match ms with
  | [] => es.isEmpty
  | a :: r => (match es with | e :: es' => chkE k e a && chkEs k es' r | [] => false)
termination_by structural ms
end

noncomputable def shapeE : Expr → Nat
  | .Name .. => 1
  | .Constant .. => 2
  | .BinOp .. => 3
  | .Compare .. => 4
  | .BoolOp .. => 5
  | .UnaryOp .. => 6
  | .Tuple .. => 7
  | .List .. => 8
  | .Subscript .. => 9
  | .ListComp .. => 10
  | .Call .. => 11
  | .Dict .. => 12
  | _ => 0
noncomputable def shapeM : ME → Nat
  | .var _ | .glob _ => 1
  | .int _ | .str _ | .bool _ | .none => 2
  | .bin _ _ _ => 3
  | .cmp _ _ _ => 4
  | .bop _ _ => 5
  | .not _ | .neg _ => 6
  | .tup _ => 7
  | .lst _ => 8
  | .sub _ _ | .sl _ _ _ => 9
  | .comp _ _ _ _ => 10
  | .call _ _ | .isi _ _ | .blt _ _ | .lcp _ => 11
  | .dct _ _ => 12
section
variable {k : KD} {e : Expr}
theorem inv_var {x : String} (h : chkE k e (.var x) = true) : ∃ y p, e = .Name y p ∧ (y == Str.ofString x && isVar k y) = true := by
  rw [chkE] at h; exact cName_inv h
theorem inv_glob {x : String} (h : chkE k e (.glob x) = true) : ∃ y p, e = .Name y p ∧ (y == Str.ofString x && isGlob k y) = true := by
  rw [chkE] at h; exact cName_inv h
theorem inv_int {i : Int} (h : chkE k e (.int i) = true) : ∃ n p, e = .Constant (.int i) n p := by
  rw [chkE] at h; replace h := cConst_inv h; obtain ⟨c, n, p, rfl, h⟩ := h; exact ⟨n, p, by rw [eq_of_beq h]⟩
theorem inv_str {i : String} (h : chkE k e (.str i) = true) : ∃ n p, e = .Constant (.str (Str.ofString i)) n p := by
  rw [chkE] at h; replace h := cConst_inv h; obtain ⟨c, n, p, rfl, h⟩ := h; exact ⟨n, p, by rw [eq_of_beq h]⟩
theorem inv_bool {i : Bool} (h : chkE k e (.bool i) = true) : ∃ n p, e = .Constant (.bool i) n p := by
  rw [chkE] at h; replace h := cConst_inv h; obtain ⟨c, n, p, rfl, h⟩ := h; exact ⟨n, p, by rw [eq_of_beq h]⟩
theorem inv_none (h : chkE k e .none = true) : ∃ n p, e = .Constant .none n p := by
  rw [chkE] at h; replace h := cConst_inv h; obtain ⟨c, n, p, rfl, h⟩ := h; exact ⟨n, p, by rw [eq_of_beq h]⟩
theorem inv_bin {op : Operator} {a b : ME} (h : chkE k e (.bin op a b) = true) : ∃ l op' r p, e = .BinOp l op' r p ∧ (op == op' && chkE k l a && chkE k r b) = true := by
  rw [chkE] at h; exact cBin_inv h
theorem inv_cmp {op : CmpOp} {a b : ME} (h : chkE k e (.cmp op a b) = true) : ∃ l r p, e = .Compare l [op] [r] p ∧ (notSet r && chkE k l a && chkE k r b) = true := by
  rw [chkE] at h; replace h := cCmp_inv h; obtain ⟨l, os, rs, p, rfl, h⟩ := h
  rw [Bool.and_eq_true] at h
  obtain ⟨h1, h⟩ := h
  replace h := c1_inv h; obtain ⟨r, rfl, h⟩ := h
  exact ⟨l, r, p, by rw [eq_of_beq h1], h⟩
theorem inv_bop {op : BoolOp} {es : List ME} (h : chkE k e (.bop op es) = true) : ∃ op' vs p, e = .BoolOp op' vs p ∧ (op == op' && chkEs k vs es) = true := by
  rw [chkE] at h; exact cBool_inv h
theorem inv_not {a : ME} (h : chkE k e (.not a) = true) : ∃ x p, e = .UnaryOp .Not x p ∧ chkE k x a = true := by
  rw [chkE] at h; replace h := cUn_inv h; obtain ⟨o, x, p, rfl, h⟩ := h
  rw [Bool.and_eq_true] at h
  exact ⟨x, p, by rw [eq_of_beq h.1], h.2⟩
theorem inv_neg {a : ME} (h : chkE k e (.neg a) = true) : ∃ x p, e = .UnaryOp .USub x p ∧ chkE k x a = true := by
  rw [chkE] at h; replace h := cUn_inv h; obtain ⟨o, x, p, rfl, h⟩ := h
  rw [Bool.and_eq_true] at h
  exact ⟨x, p, by rw [eq_of_beq h.1], h.2⟩
theorem inv_tup {es : List ME} (h : chkE k e (.tup es) = true) : ∃ vs n p, e = .Tuple vs n p ∧ chkEs k vs es = true := by
  rw [chkE] at h; exact cTup_inv h
theorem inv_lst {es : List ME} (h : chkE k e (.lst es) = true) : ∃ vs p, e = .List vs p ∧ chkEs k vs es = true := by
  rw [chkE] at h; exact cLst_inv h
theorem somes : ∀ {l : List (Option Expr)}, l.all Option.isSome = true → l = (l.filterMap id).map some
  | [], _ => rfl
  | none :: l, h => by simp at h
  | some x :: l, h => by simp at h; simp; exact somes (by simpa using h)
theorem inv_dct {ks vs : List ME} (h : chkE k e (.dct ks vs) = true) : ∃ kes ves p, e = .Dict (kes.map some) ves p ∧ chkEs k kes ks = true ∧ chkEs k ves vs = true := by
  rw [chkE] at h; replace h := cDict_inv h; obtain ⟨kes, ves, p, rfl, h⟩ := h
  rw [Bool.and_assoc, Bool.and_eq_true, Bool.and_eq_true] at h
  exact ⟨kes.filterMap id, ves, p, by rw [← somes h.1], h.2.1, h.2.2⟩
theorem notSlice_inv {s : Expr} (h : notSlice s = true) : ∀ a b c p, s = .Slice a b c p → False := by
  rintro a b c p rfl; cases h
theorem inv_sub {a i : ME} (h : chkE k e (.sub a i) = true) : ∃ v s p, e = .Subscript v s p ∧ (∀ a b c p, s = .Slice a b c p → False) ∧ (chkE k v a && chkE k s i) = true := by
  rw [chkE] at h; replace h := cSub_inv h; obtain ⟨v, s, p, rfl, h⟩ := h
  rw [Bool.and_assoc, Bool.and_eq_true] at h
  exact ⟨v, s, p, rfl, notSlice_inv h.1, h.2⟩
theorem inv_sl {a lo hi : ME} (h : chkE k e (.sl a lo hi) = true) : ∃ v l u p pos, e = .Subscript v (.Slice l u Option.none p) pos ∧ (chkE k v a && (match l with | Option.none => lo.isNone | some x => chkE k x lo) && (match u with | Option.none => hi.isNone | some x => chkE k x hi)) = true := by
  rw [chkE] at h; replace h := cSub_inv h; obtain ⟨v, s, p, rfl, h⟩ := h
  replace h := cSlice_inv h; obtain ⟨l, u, t, p, rfl, h⟩ := h
  rw [Bool.and_assoc, Bool.and_assoc, Bool.and_eq_true] at h
  exact ⟨v, l, u, p, _, by rw [Option.isNone_iff_eq_none.mp h.1], by rw [Bool.and_assoc]; exact h.2⟩
theorem inv_comp {elt src : ME} {x : String} {cs : List ME} (h : chkE k e (.comp elt x src cs) = true) : ∃ t y py it ifs scope lp, e = .ListComp t [⟨.Name y py, it, ifs, 0⟩] scope lp ∧ (y == Str.ofString x && notSet it && okScope k scope y && chkE k it src && chkE (kindC k scope) t elt && chkEs (kindC k scope) ifs cs) = true := by
  rw [chkE] at h; replace h := cLC_inv h; obtain ⟨t, gs, scope, p, rfl, h⟩ := h
  replace h := c1_inv h; obtain ⟨⟨tg, it, ifs, z⟩, rfl, h⟩ := h
  rw [Bool.and_eq_true] at h
  obtain ⟨h1, h⟩ := h
  obtain ⟨y, py, h2, h⟩ := cName_inv h
  have h1 : z = 0 := eq_of_beq h1
  have h2 : tg = _ := h2
  subst h1 h2
  exact ⟨t, y, py, it, ifs, scope, p, rfl, h⟩
theorem inv_call {f : String} {args : List ME} (h : chkE k e (.call f args) = true) : ∃ g gp as pos, e = .Call (.Name g gp) as [] pos ∧ (g == Str.ofString f && isGlob k g && chkEs k as args) = true := by
  rw [chkE] at h; replace h := cCall_inv h; obtain ⟨g, as, ks, p, rfl, h⟩ := h
  rw [Bool.and_eq_true] at h
  obtain ⟨h1, h⟩ := h
  replace h := cName_inv h; obtain ⟨y, py, rfl, h⟩ := h
  exact ⟨y, py, as, p, by rw [List.isEmpty_iff.mp h1], h⟩
theorem inv_blt {f : String} {args : List ME} (h : chkE k e (.blt f args) = true) : ∃ g gp as pos, e = .Call (.Name g gp) as [] pos ∧ (g == Str.ofString f && isGlob k g && chkEs k as args) = true := by
  rw [chkE] at h; exact inv_call (by rw [chkE]; exact h)
theorem inv_lcp {a : ME} (h : chkE k e (.lcp a) = true) : ∃ g gp x pos, e = .Call (.Name g gp) [x] [] pos ∧ (g == Str.ofString "list" && isGlob k g) = true ∧ chkE k x a = true := by
  rw [chkE] at h; replace h := cCall_inv h; obtain ⟨g, as, ks, p, rfl, h⟩ := h
  rw [Bool.and_eq_true] at h
  obtain ⟨h1, h⟩ := h
  replace h := cName_inv h; obtain ⟨y, py, rfl, h⟩ := h
  rw [Bool.and_eq_true] at h
  obtain ⟨h2, h⟩ := h
  replace h := c1_inv h; obtain ⟨x, rfl, h⟩ := h
  exact ⟨y, py, x, p, by rw [List.isEmpty_iff.mp h1], h2, h⟩
theorem inv_isi {a : ME} {T : String} (h : chkE k e (.isi a T) = true) : ∃ g gp x t tp pos, e = .Call (.Name g gp) [x, .Name t tp] [] pos ∧ (g == Str.ofString "isinstance" && isGlob k g && t == Str.ofString T && isGlob k t && chkE k x a) = true := by
  rw [chkE] at h; replace h := cCall_inv h; obtain ⟨g, as, ks, p, rfl, h⟩ := h
  rw [Bool.and_eq_true] at h
  obtain ⟨h1, h⟩ := h
  replace h := c2_inv h; obtain ⟨x, t, rfl, h⟩ := h
  replace h := cName_inv h; obtain ⟨y, py, rfl, h⟩ := h
  replace h := cName_inv h; obtain ⟨z, pz, rfl, h⟩ := h
  exact ⟨y, py, x, z, pz, p, by rw [List.isEmpty_iff.mp h1], h⟩
theorem chk_shape {me : ME} (h : chkE k e me = true) : shapeE e = shapeM me := by
  cases me with
  | var => obtain ⟨_, _, rfl, _⟩ := inv_var h; rfl
  | glob => obtain ⟨_, _, rfl, _⟩ := inv_glob h; rfl
  | int => replace h := inv_int h; obtain ⟨_, _, rfl⟩ := h; rfl
  | str => replace h := inv_str h; obtain ⟨_, _, rfl⟩ := h; rfl
  | bool => replace h := inv_bool h; obtain ⟨_, _, rfl⟩ := h; rfl
  | none => replace h := inv_none h; obtain ⟨_, _, rfl⟩ := h; rfl
  | bin => obtain ⟨_, _, _, _, rfl, _⟩ := inv_bin h; rfl
  | cmp => obtain ⟨_, _, _, rfl, _⟩ := inv_cmp h; rfl
  | bop => obtain ⟨_, _, _, rfl, _⟩ := inv_bop h; rfl
  | not => obtain ⟨_, _, rfl, _⟩ := inv_not h; rfl
  | neg => obtain ⟨_, _, rfl, _⟩ := inv_neg h; rfl
  | tup => obtain ⟨_, _, _, rfl, _⟩ := inv_tup h; rfl
  | lst => obtain ⟨_, _, rfl, _⟩ := inv_lst h; rfl
  | dct => obtain ⟨_, _, _, rfl, _⟩ := inv_dct h; rfl
  | sub => obtain ⟨_, _, _, rfl, _⟩ := inv_sub h; rfl
  | sl => obtain ⟨_, _, _, _, _, rfl, _⟩ := inv_sl h; rfl
  | comp => obtain ⟨_, _, _, _, _, _, _, rfl, _⟩ := inv_comp h; rfl
  | call => obtain ⟨_, _, _, _, rfl, _⟩ := inv_call h; rfl
  | blt => obtain ⟨_, _, _, _, rfl, _⟩ := inv_blt h; rfl
  | isi => obtain ⟨_, _, _, _, _, _, rfl, _⟩ := inv_isi h; rfl
  | lcp => obtain ⟨_, _, _, _, rfl, _⟩ := inv_lcp h; rfl
end
end Mine

namespace Mine
open PySem

noncomputable def Ex (h : Heap) (H : Addr → Prop) : Prop := ∀ a, H a → ∃ b o, @LE.le Nat _ a b ∧ h.get? b = some o
theorem Ex.fresh {h : Heap} {H : Addr → Prop} (x : Ex h H) : ¬ H h.objs.size := fun e => by
  obtain ⟨b, o, hb, ho⟩ := x _ e
  exact Nat.lt_irrefl _ (Nat.lt_of_le_of_lt hb (Heap.lt_size ho))
theorem Ex.keeps {h h' : Heap} {H : Addr → Prop} (x : Ex h H) (hk : ∀ a o, h.get? a = some o → h'.get? a = some o) : Ex h' H := fun a e => by
  obtain ⟨b, o, hb, ho⟩ := x _ e
  exact ⟨b, o, hb, hk _ _ ho⟩

theorem Kp.refl (s : Shared) : Keeps s s := ⟨s.heap, s.toks, rfl, fun _ _ e => e⟩
theorem Kp.tok (s : Shared) (t : Nat) : Keeps s { s with toks := t } := ⟨s.heap, t, rfl, fun _ _ e => e⟩
theorem Kp.push (s : Shared) (o : Obj) : Keeps s { s with heap := s.heap.push o } := ⟨_, s.toks, rfl, fun _ _ e => Heap.get?_push_of_some _ e⟩
theorem Kp.trans {s s' s'' : Shared} (a : Keeps s s') (b : Keeps s' s'') : Keeps s s'' := by
  obtain ⟨h', t', rfl, k'⟩ := a
  obtain ⟨h'', t'', rfl, k''⟩ := b
  exact ⟨h'', t'', rfl, fun x o e => k'' x o (k' x o e)⟩
theorem Kp.heap {s s' : Shared} (a : Keeps s s') : ∀ b o, s.heap.get? b = some o → s'.heap.get? b = some o := by
  obtain ⟨h', t', rfl, k'⟩ := a
  exact k'

/-- what an expression's run leaves -/
noncomputable def Post (w : World) (s : Shared) (H : Addr → Prop) (d : D) (v : Value) (s' : Shared) : Prop := Keeps s s' ∧ Rep w.params s'.heap H v d

/-- the list at a, its items outside of H and of a itself -/
noncomputable def OwnL (P : Params) (h : Heap) (H : Addr → Prop) (a : Addr) (ds : List D) : Prop :=
  ∃ vs n, h.get? a = some (lstO vs n) ∧ ds.length ≤ big ∧ RepAll P h (fun b => H b ∨ b = a) vs.toList ds
theorem OwnL.rep {P : Params} {h : Heap} {H : Addr → Prop} {a : Addr} {ds : List D} (o : OwnL P h H a ds) (hn : ¬ H a) : Rep P h H (.ref a) (.list ds) := by
  obtain ⟨vs, n, h1, h2, h3⟩ := o
  exact .list h1 hn h2 (h3.mono (fun _ _ _ e => e) fun _ _ _ q => .inl q)

/-- the dict at a, its keys and values outside of H and of a itself -/
noncomputable def OwnM (P : Params) (h : Heap) (H : Addr → Prop) (a : Addr) (ks vs : List D) : Prop :=
  ∃ es n, h.get? a = some (dicO es n) ∧ ks.length ≤ big ∧ RepAll P h (fun b => H b ∨ b = a) (es.toList.map (·.key)) ks ∧ RepAll P h (fun b => H b ∨ b = a) (es.toList.map (·.val)) vs ∧ es.toList.map (·.hash) = ks.map (hashK P) ∧ ks.all D.isKey = true ∧ ks.Nodup ∧ (a == sysModules) = false
/-- a new list or dict that nothing else holds -/
noncomputable def OwnD (P : Params) (h : Heap) (H : Addr → Prop) (a : Addr) : D → Prop
  | .list ds => OwnL P h H a ds
  | .dict ks vs => OwnM P h H a ks vs
  | _ => False
theorem OwnD.rep {P : Params} {h : Heap} {H : Addr → Prop} {a : Addr} {d : D} (o : OwnD P h H a d) (hn : ¬ H a) : Rep P h H (.ref a) d := by
  cases d <;> first | exact OwnL.rep o hn | exact False.elim o | skip
  obtain ⟨es, n, h1, h2, h3, h4, h5, h6, h7, h8⟩ := o
  exact .dict h1 hn h2 (h3.mono (fun _ _ _ e => e) fun _ _ _ q => .inl q) (h4.mono (fun _ _ _ e => e) fun _ _ _ q => .inl q) h5 h6 h7 h8
theorem OwnD.ex {P : Params} {h : Heap} {H : Addr → Prop} {a : Addr} {d : D} (o : OwnD P h H a d) : ∃ o, h.get? a = some o := by
  cases d <;> first | exact False.elim o | (obtain ⟨_, _, e, _⟩ := o; exact ⟨_, e⟩)
theorem OwnD.scalar {P : Params} {h : Heap} {H : Addr → Prop} {a : Addr} {d : D} (o : OwnD P h H a d) : d.scalar = false := by
  cases d <;> first | rfl | exact False.elim o
noncomputable def Fresh (w : World) (s s' : Shared) (H : Addr → Prop) (v : Value) (d : D) : Prop := ∃ a, v = .ref a ∧ s.heap.get? a = none ∧ OwnD w.params s'.heap H a d
noncomputable def PostF (w : World) (s : Shared) (H : Addr → Prop) (d : D) (fr : Bool) (v : Value) (s' : Shared) : Prop := Keeps s s' ∧ Rep w.params s'.heap H v d ∧ (fr = true → Fresh w s s' H v d)

theorem PostF.after {w : World} {s s₁ s₂ : Shared} {H : Addr → Prop} {d : D} {fr : Bool} {v : Value} (k : Keeps s s₁) (q : PostF w s₁ H d fr v s₂) : PostF w s H d fr v s₂ := by
  refine ⟨Kp.trans k q.1, q.2.1, fun e => ?_⟩
  obtain ⟨a, h1, h2, h3⟩ := q.2.2 e
  refine ⟨a, h1, ?_, h3⟩
  cases e : s.heap.get? a with
  | none => rfl
  | some o => rw [Kp.heap k a o e] at h2; cases h2
theorem Post.plain {w : World} {s s₂ : Shared} {H : Addr → Prop} {d : D} {v : Value} (q : Post w s H d v s₂) (h : d.isList = false) : PostF w s H d d.isList v s₂ :=
  ⟨q.1, q.2, fun e => by rw [h] at e; cases e⟩
theorem post_newList {w : World} {s : Shared} {H : Addr → Prop} {vs : Array Value} {ds : List D} {h' : Heap} {n tk : Nat} (hH : Ex s.heap H) (hl : ds.length ≤ big) (hr : RepAll w.params s.heap H vs.toList ds) (hk : ∀ b o, s.heap.get? b = some o → h'.get? b = some o)
    (ho : h'.get? s.heap.objs.size = some (lstO vs n)) : PostF w s H (.list ds) true (.ref s.heap.objs.size) { s with heap := h', toks := tk } := by
  have own : OwnL w.params h' H s.heap.objs.size ds := ⟨vs, n, ho, hl, hr.mono (fun a o _ e => hk a o e) fun a o e q => q.elim id fun q => absurd (Heap.lt_size e) (q ▸ Nat.lt_irrefl _)⟩
  refine ⟨⟨h', tk, rfl, hk⟩, own.rep hH.fresh, fun _ => ⟨_, rfl, ?_, own⟩⟩
  cases e : s.heap.get? s.heap.objs.size with
  | none => rfl
  | some o => exact absurd (Heap.lt_size e) (Nat.lt_irrefl _)

section
variable {prog : Program} {w : World} {A : Around} {E : Value → Shared → Prop} {s : Shared} {H : Addr → Prop}

theorem bits_le {a : Int} (h : -lim < a ∧ a < lim) : Builtin.Int.intBits a ≤ 64 := by
  unfold Builtin.Int.intBits
  split
  · omega
  · have h2 : a.natAbs < 2 ^ 64 := by unfold lim at h; omega
    have h3 : a.natAbs ≠ 0 := by intro e; rename_i hh; apply hh; simp; omega
    have := (Nat.log2_lt h3).mpr h2
    omega
theorem bits_le1000 {a : Int} (h : -powLim < a ∧ a < powLim) : Builtin.Int.intBits a ≤ 1000 := by
  unfold powLim at h
  unfold Builtin.Int.intBits
  split
  · omega
  · rename_i hh
    have h3 : a.natAbs ≠ 0 := by intro e; apply hh; simp; omega
    have h2 : a.natAbs < 2 ^ 1000 := by
      have e : ((2 ^ 1000 : Nat) : Int) = (2 : Int) ^ 1000 := by exact Int.natCast_pow 2 1000
      generalize (2 : Int) ^ 1000 = p at h e
      omega
    have := (Nat.log2_lt h3).mpr h2
    omega

theorem rep_newTup {vs : Array Value} {ds : List D} (hH : Ex s.heap H) (hl : ds.length ≤ big) (hr : RepAll w.params s.heap H vs.toList ds) :
    Rep w.params (s.heap.push (tupO vs 0)) H (.ref s.heap.objs.size) (.tup ds) :=
  .tup (Heap.get?_push_size _ rfl) hH.fresh hl (hr.keeps fun _ _ e => Heap.get?_push_of_some _ e)

theorem binI_snd {op : Operator} {i j : Int} {t u : Tok} {d : D} (he : binI op i j = some d) : wpAny (model prog w) A (binaryOp op (.int i t) (.int j u)) (Post w s H d) E s := by
  cases op <;> simp only [binI] at he <;> first | (cases he; done) | skip
  · cases he; exact PyProof.Rows.add_int ⟨Kp.tok _ _, .int _ _⟩
  · cases he; exact PyProof.Rows.sub_int ⟨Kp.tok _ _, .int _ _⟩
  · split at he
    · rename_i hc; cases he
      exact PyProof.Rows.mul_int ⟨Kp.tok _ _, .int _ _⟩ (hc.elim (fun h => .of_left (bits_le h)) fun h => .of_right (bits_le h))
    · cases he
  · split at he
    · rename_i hc; cases he
      refine PyProof.Rows.mod_int (by omega) ?_
      rw [Int.fmod_eq_emod_of_nonneg _ (by omega)]
      exact ⟨Kp.tok _ _, .int _ _⟩
    · cases he
  · split at he
    · rename_i hc; cases he
      obtain ⟨h1, h2, h3, h4⟩ := hc
      refine PyProof.Rows.pow_int h3 ?_ ⟨Kp.tok _ _, .int _ _⟩
      have hb := bits_le1000 ⟨h1, h2⟩
      have : (Builtin.Int.intBits i : Int) * j ≤ 1000 * 100 := Int.mul_le_mul (by omega) h4 h3 (by decide)
      exact Int.le_trans this (by decide)
    · cases he
  · split at he
    · rename_i hc; cases he
      refine PyProof.Rows.floordiv_int (by omega) ?_ (.inl (PyProof.noPylong_of_log2 ?_))
      · rw [Int.fdiv_eq_ediv_of_nonneg _ (by omega)]
        exact ⟨Kp.tok _ _, .int _ _⟩
      · have : j.natAbs < 2 ^ 64 := by unfold lim at hc; omega
        have h3 : j.natAbs ≠ 0 := by omega
        have := (Nat.log2_lt h3).mpr this
        omega
    · cases he
theorem binS_snd {op : Operator} {x : Str} {t : Tok} {y : Value} {b d : D} (hy : Rep w.params s.heap H y b) (he : binS op x b = some d) : wpAny (model prog w) A (binaryOp op (.str x t) y) (Post w s H d) E s := by
  cases op <;> simp only [binS] at he <;> first | (cases he; done) | skip
  · cases hy <;> simp only at he <;> first | (cases he; done) | skip
    split at he
    · rename_i hc; cases he
      exact PyProof.Rows.add_str (fun t' tk => ⟨Kp.tok _ _, .str _ _⟩) (by exact hc)
    · cases he
  · cases hy <;> simp only at he <;> first | (cases he; done) | skip
    rename_i n u
    split at he
    · rename_i hc; cases he
      obtain ⟨h0, h1, h2⟩ := hc
      refine SB.mul ⟨by simp; omega, fun g1 _ => ?_, fun g1 _ => ?_⟩ fun t' k => ⟨Kp.tok _ _, .str _ _⟩
      · have : (1000 : Int) ≤ (2 ^ 63 - 1) / n := by
          rw [Int.le_ediv_iff_mul_le (by omega)]; omega
        omega
      · have : x.length * n.toNat ≤ 1000 * 1000 := Nat.mul_le_mul h2 (by omega)
        show decide (_ > sizeLine) = false
        simp only [decide_eq_false_iff_not]
        have e : (1000 * 1000 : Nat) < sizeLine := by decide
        omega
    · cases he
theorem binL_snd {op : Operator} {x y : Value} {as : List D} {b d : D} (hx : Rep w.params s.heap H x (.list as)) (hy : Rep w.params s.heap H y b) (hH : Ex s.heap H) (he : binL op as b = some d) :
    wpAny (model prog w) A (binaryOp op x y) (PostF w s H d d.isList) E s := by
  cases op <;> simp only [binL] at he <;> first | (cases he; done) | skip
  cases hx with
  | list ho1 hn1 hl1 hr1 =>
    cases hy <;> simp only at he <;> first | (cases he; done) | skip
    rename_i ho2 hn2 hl2 hr2
    split at he
    · rename_i hc; cases he
      have e1 := hr1.length
      have e2 := hr2.length
      simp only [Array.length_toList] at e1 e2
      refine P.add_list ho1 ho2 (post_newList hH (by simpa using hc) (by simpa using hr1.append hr2) (fun _ _ e => Heap.get?_push_of_some _ e) (Heap.get?_push_size _ rfl)) (by rw [e1, e2]; exact hc)
    · cases he
theorem nil_of_size {P : Params} {h : Heap} {vs : Array Value} {ds : List D} (r : RepAll P h H vs.toList ds) (hv : vs.isEmpty = true) : ds = [] := by
  have e := r.length
  cases ds with
  | nil => rfl
  | cons _ _ => simp at hv; subst hv; simp at e
theorem binT_snd {op : Operator} {x y : Value} {as : List D} {b d : D} (hx : Rep w.params s.heap H x (.tup as)) (hy : Rep w.params s.heap H y b) (hH : Ex s.heap H) (he : binT op as b = some d) :
    wpAny (model prog w) A (binaryOp op x y) (Post w s H d) E s := by
  cases op <;> simp only [binT] at he <;> first | (cases he; done) | skip
  cases hx with
  | @tup a1 v1 n1 _ ho1 hn1 hl1 hr1 =>
    cases hy <;> simp only at he <;> first | (cases he; done) | skip
    rename_i a2 v2 n2 _ ho2 hn2 hl2 hr2
    split at he
    · rename_i hc; cases he
      have e1 := hr1.length
      have e2 := hr2.length
      simp only [Array.length_toList] at e1 e2
      by_cases hv : v1.isEmpty = true
      · refine concat_meets ⟨_, ho1, rfl⟩ ⟨_, ho2, rfl⟩ noFill_tuple_add seq_tuple_add PySem.F.slot_tuple_add PySem.F.entry_tuple_add (PySem.F.args_tuple_add_2 _ _) (AutoSeq1.tuple___add___tuple_tuple_0 _ _ _ _ _ _ hv) ⟨ho1, ho2, Kp.refl _, ?_⟩
        rw [nil_of_size hr1 hv]
        exact .tup ho2 hn2 hl2 hr2
      · by_cases hv2 : v2.isEmpty = true
        · refine concat_meets ⟨_, ho1, rfl⟩ ⟨_, ho2, rfl⟩ noFill_tuple_add seq_tuple_add PySem.F.slot_tuple_add PySem.F.entry_tuple_add (PySem.F.args_tuple_add_2 _ _) (AutoSeq1.tuple___add___tuple_tuple_1 _ _ _ _ _ _ hv hv2) ⟨ho1, ho2, Kp.refl _, ?_⟩
          rw [nil_of_size hr2 hv2, List.append_nil]
          exact .tup ho1 hn1 hl1 hr1
        · refine P.add_tuple ho1 ho2 hv hv2 ⟨Kp.push _ _, ?_⟩ (by rw [e1, e2]; exact hc)
          refine rep_newTup hH (by simpa using hc) ?_
          simpa using hr1.append hr2
    · cases he
theorem binI_plain {op : Operator} {i j : Int} {d : D} (he : binI op i j = some d) : d.isList = false := by
  cases op <;> simp only [binI] at he <;> (try split at he) <;> cases he <;> rfl
theorem binS_plain {op : Operator} {x : Str} {b d : D} (he : binS op x b = some d) : d.isList = false := by
  cases op <;> simp only [binS] at he <;> first | (cases he; done) | (cases b <;> simp only at he <;> first | (cases he; done) | (split at he <;> cases he <;> rfl))
theorem binT_plain {op : Operator} {x : List D} {b d : D} (he : binT op x b = some d) : d.isList = false := by
  cases op <;> simp only [binT] at he <;> first | (cases he; done) | (cases b <;> simp only at he <;> first | (cases he; done) | (split at he <;> cases he <;> rfl))
theorem bin_snd {op : Operator} {x y : Value} {a b d : D} (hx : Rep w.params s.heap H x a) (hy : Rep w.params s.heap H y b) (hH : Ex s.heap H) (he : binD op a b = some d) :
    wpAny (model prog w) A (binaryOp op x y) (PostF w s H d d.isList) E s := by
  cases a <;> simp only [binD] at he <;> first | (cases he; done) | skip
  · cases hx
    cases hy <;> simp only at he <;> first | (cases he; done) | skip
    exact wpAny_mono (binI_snd he) (fun _ _ q => q.plain (binI_plain he)) fun _ _ e => e
  · cases hx
    exact wpAny_mono (binS_snd hy he) (fun _ _ q => q.plain (binS_plain he)) fun _ _ e => e
  · exact wpAny_mono (binT_snd hx hy hH he) (fun _ _ q => q.plain (binT_plain he)) fun _ _ e => e
  · exact binL_snd hx hy hH he
end
end Mine

namespace Mine
open PySem PySem.SeqAt

section
variable {prog : Program} {w : World} {A : Around} {E : Value → Shared → Prop} {s : Shared} {H H' : Addr → Prop}

theorem eqS_snd {P : Params} {h : Heap} {x y : Value} {a b : D} {k : Bool} (hx : Rep P h H x a) (hy : Rep P h H' y b) (he : eqS a b = some k) :
    (∀ A s, EqAt A s x y k) ∧ (∀ A s, RcAt A s x y k) ∧ (∀ A s, RcNeAt A s x y (!k)) := by
  cases hx <;> simp only [eqS] at he <;> first | (cases he; done) | skip
  all_goals cases hy <;> simp only at he <;> first | (cases he; done) | skip
  · cases he; exact ⟨fun A s => EqAt.bool_bool _ _, fun A s => RcAt.bool_bool _ _, fun A s => RcNeAt.bool_bool _ _⟩
  · cases he; exact ⟨fun A s => EqAt.int_int _ _ _ _, fun A s => RcAt.int_int _ _ _ _, fun A s => RcNeAt.int_int _ _ _ _⟩
  · cases he; exact ⟨fun A s => EqAt.int_str _ _ _ _, fun A s => RcAt.int_str _ _ _ _, fun A s => RcNeAt.int_str _ _ _ _⟩
  · cases he; exact ⟨fun A s => EqAt.str_int _ _ _ _, fun A s => RcAt.str_int _ _ _ _, fun A s => RcNeAt.str_int _ _ _ _⟩
  · cases he; exact ⟨fun A s => EqAt.str_str _ _ _ _, fun A s => RcAt.str_str _ _ _ _, fun A s => RcNeAt.str_str _ _ _ _⟩

theorem eqAll_snd {P : Params} {h : Heap} : ∀ {xs ys : List Value} {ds es : List D} {k : Bool}, RepAll P h H xs ds → RepAll P h H' ys es → ds.length = es.length → eqAll ds es = some k →
    ∃ e : Nat → Bool, (List.range ds.length).all e = k ∧ ∀ j (h1 : j < xs.length) (h2 : j < ys.length) A s, EqAt A s xs[j] ys[j] (e j)
  | _, _, _, _, k, .nil, .nil, _, he => ⟨fun _ => true, by simp [eqAll] at he; simpa using he.symm, fun j h1 => absurd h1 (by simp)⟩
  | _, _, _, _, k, .nil, .cons _ _, hl, he => by simp at hl
  | _, _, _, _, k, .cons _ _, .nil, hl, he => by simp at hl
  | _, _, _, _, k, .cons hx hxs, .cons hy hys, hl, he => by
    simp only [eqAll] at he
    split at he
    · rename_i b1 b2 h1 h2
      cases he
      obtain ⟨e, e1, e2⟩ := eqAll_snd hxs hys (by simpa using hl) h2
      refine ⟨fun j => match j with | 0 => b1 | j + 1 => e j, ?_, ?_⟩
      · simp only [List.length_cons, List.range_succ_eq_map, List.all_cons, List.all_map]
        rw [← e1]; rfl
      · intro j h1' h2' A s
        cases j with
        | zero => exact (eqS_snd hx hy h1).1 A s
        | succ j => exact e2 j (by simpa using h1') (by simpa using h2') A s
    · cases he

theorem isList_of {h : Heap} {a : Addr} {vs : Array Value} {n : Nat} (ho : h.get? a = some (lstO vs n)) : h.IsList a vs := ⟨_, ho, rfl, n, rfl⟩
theorem isTuple_of {h : Heap} {a : Addr} {vs : Array Value} {n : Nat} (ho : h.get? a = some (tupO vs n)) : h.IsTuple a vs := ⟨_, ho, rfl, n, rfl⟩
theorem isTup_of {h : Heap} {a : Addr} {vs : Array Value} {n : Nat} (ho : h.get? a = some (tupO vs n)) : PyProof.Rows.IsTup h a vs := ⟨_, ho, rfl, n, rfl⟩

theorem eqL_snd {l1 l2 : Addr} {v1 v2 : Array Value} {n1 n2 : Nat} {d1 d2 : List D} {k : Bool} (h1 : s.heap.get? l1 = some (lstO v1 n1)) (h2 : s.heap.get? l2 = some (lstO v2 n2)) (r1 : RepAll w.params s.heap H v1.toList d1) (r2 : RepAll w.params s.heap H' v2.toList d2)
    (hu : A.units < cLine) (he : (if d1.length = d2.length then eqAll d1 d2 else some false) = some k) : RcAt A s (.ref l1) (.ref l2) k ∧ RcNeAt A s (.ref l1) (.ref l2) (!k) := by
  have e1 := r1.length
  have e2 := r2.length
  simp only [Array.length_toList] at e1 e2
  split at he
  · rename_i hl
    obtain ⟨e, e3, e4⟩ := eqAll_snd r1 r2 hl he
    subst e3
    rw [← e1]
    have q : ∀ j (q1 : j < v1.size) (q2 : j < v2.size), EqAt A.in1 s v1[j] v2[j] (e j) := fun j q1 q2 => by
      have := e4 j (by simpa using q1) (by simpa using q2) A.in1 s; rwa [Array.getElem_toList, Array.getElem_toList] at this
    exact ⟨RcAt.lists (isList_of h1) (isList_of h2) (by omega) hu q, RcNeAt.lists (isList_of h1) (isList_of h2) (by omega) hu q⟩
  · rename_i hl
    cases he
    have hne : (v1.size != v2.size) = true := by simp; omega
    exact ⟨RcAt.lists_lengths (isList_of h1) (isList_of h2) hne hu, RcNeAt.lists_lengths (isList_of h1) (isList_of h2) hne hu⟩
theorem eqT_snd {l1 l2 : Addr} {v1 v2 : Array Value} {n1 n2 : Nat} {d1 d2 : List D} {k : Bool} (h1 : s.heap.get? l1 = some (tupO v1 n1)) (h2 : s.heap.get? l2 = some (tupO v2 n2)) (r1 : RepAll w.params s.heap H v1.toList d1) (r2 : RepAll w.params s.heap H' v2.toList d2)
    (hu : A.units < cLine) (hl : d1.length = d2.length) (he : eqAll d1 d2 = some k) : RcAt A s (.ref l1) (.ref l2) k ∧ RcNeAt A s (.ref l1) (.ref l2) (!k) := by
  have e1 := r1.length
  have e2 := r2.length
  simp only [Array.length_toList] at e1 e2
  obtain ⟨e, e3, e4⟩ := eqAll_snd r1 r2 hl he
  have q : ((List.range (min v1.size v2.size)).all e && v1.size == v2.size) = k := by
    have e5 : min v1.size v2.size = v1.size := by omega
    rw [e5, e1, e3, e2, hl]; simp
  rw [← q]
  have q : ∀ j (q1 : j < v1.size) (q2 : j < v2.size), EqAt A.in1 s v1[j] v2[j] (e j) := fun j q1 q2 => by
    have := e4 j (by simpa using q1) (by simpa using q2) A.in1 s; rwa [Array.getElem_toList, Array.getElem_toList] at this
  exact ⟨RcAt.tuples (isTuple_of h1) (isTuple_of h2) hu q, RcNeAt.tuples (isTuple_of h1) (isTuple_of h2) hu q⟩
theorem eqD_snd {x y : Value} {a b : D} {k : Bool} (hx : Rep w.params s.heap H x a) (hy : Rep w.params s.heap H' y b) (hu : A.units < cLine) (he : eqD a b = some k) :
    RcAt A s x y k ∧ RcNeAt A s x y (!k) := by
  have fin : eqS a b = some k → RcAt A s x y k ∧ RcNeAt A s x y (!k) := fun he => ⟨(eqS_snd hx hy he).2.1 _ _, (eqS_snd hx hy he).2.2 _ _⟩
  cases hx <;> simp only [eqD] at he <;> first | exact fin he | skip
  all_goals cases hy <;> simp only at he <;> first | (cases he; done) | skip
  · rename_i h1 _ _ r1 _ _ _ _ h2 _ _ r2
    split at he
    · rename_i hl; exact eqT_snd h1 h2 r1 r2 hu hl he
    · cases he
  · rename_i h1 _ _ r1 _ _ _ _ h2 _ _ r2
    exact eqL_snd h1 h2 r1 r2 hu he

theorem dict_at {P : Params} {h : Heap} {y : Value} {ks vs : List D} (hy : Rep P h H y (.dict ks vs)) (hk : ks.all D.isCell = true) : ∃ a es n, ∃ cs : List CK, y = .ref a ∧ h.get? a = some (dicO es n) ∧ ks = cs.map ofCK ∧ RepAll P h H (es.toList.map (·.key)) (cs.map ofCK) ∧ RepAll P h H (es.toList.map (·.val)) vs ∧
    es.toList.map (·.hash) = (cs.map ofCK).map (hashK P) ∧ (cs.map ofCK).Nodup ∧ (a == sysModules) = false ∧ cs.length = (es.toList.map (·.val)).length := by
  obtain ⟨cs, rfl⟩ := cells_ck hk
  cases hy with
  | dict h1 h2 h3 h4 h5 h6 h7 h8 h9 => exact ⟨_, _, _, cs, rfl, h1, rfl, h4, h5, h6, h8, h9, by have := h4.length; simpa using this.symm⟩
theorem dict_atT {P : Params} {h : Heap} {y : Value} {ks vs : List D} (hy : Rep P h H y (.dict ks vs)) (hk : ks.all D.isTK = true) : ∃ a es n, ∃ cs : List (List CK), y = .ref a ∧ h.get? a = some (dicO es n) ∧ ks = cs.map ofTK ∧ RepAll P h H (es.toList.map (·.key)) (cs.map ofTK) ∧ RepAll P h H (es.toList.map (·.val)) vs ∧
    es.toList.map (·.hash) = (cs.map ofTK).map (hashK P) ∧ (cs.map ofTK).Nodup ∧ (a == sysModules) = false := by
  obtain ⟨cs, rfl⟩ := tks_ck hk
  cases hy with
  | dict h1 h2 h3 h4 h5 h6 h7 h8 h9 => exact ⟨_, _, _, cs, rfl, h1, rfl, h4, h5, h6, h8, h9⟩
theorem kD_map {xs : List (List CK × Addr × Value)} {cs : List (List CK)} (h : xs.map (·.1) = cs) : xs.map kD = cs.map ofTK := by
  rw [← h, List.map_map]; rfl
theorem notIn_of_in {M : Model} {x c : Value} {Q' Q : Value → Shared → Prop} (h : wpAny M A (compareOp .In x c) Q' E s) (hQ : ∀ b s', Q' (.bool b) s' → Q (.bool (!b)) s') : wpAny M A (compareOp .NotIn x c) Q E s := by
  intro Γ p hΓ
  have h0 := h Γ p hΓ
  change Sem.wp _ Γ (Sem.bind (contains c x) fun r => Sem.pure (Value.bool r)) _ _ p s at h0
  show Sem.wp _ Γ (Sem.bind (contains c x) fun r => Sem.pure (Value.bool (!r))) _ _ p s
  rw [Sem.wp_bind] at h0 ⊢
  refine Sem.wp_mono _ Γ _ (fun r p' s' q => ?_) (fun _ _ _ q => q) p s h0
  exact hQ r s' q
theorem in_dict {x y : Value} {k : D} {ks vs : List D} (hx : Rep w.params s.heap H x k) (hy : Rep w.params s.heap H y (.dict ks vs)) (hu : A.units + 1 < cLine) (hc : keyOk k ks = true) :
    wpAny (model prog w) A (compareOp .In x y) (Post w s H (.bool (ks.any fun x => keyEq x k))) E s := by
  unfold keyOk at hc
  rw [Bool.or_eq_true, Bool.and_eq_true, Bool.and_eq_true] at hc
  rcases hc with hc | hc
  · obtain ⟨c, rfl⟩ := cell_ck hc.1
    obtain ⟨a, es, n, cs, rfl, h1, rfl, h4, h5, h6, h8, h9, hl⟩ := dict_at hy hc.2
    refine wpAny_in_of (knd := cellKind prog w) (rep_ck hx) h9 (dictOf_rep (prog := prog) h1 h4 h6 h8).mapOf ?_
    rw [any_valueAt hl]; exact ⟨Kp.tok _ _, .bool _⟩
  · obtain ⟨c, rfl⟩ := tk_ck hc.1
    obtain ⟨a, es, n, cs, rfl, h1, rfl, h4, h5, h6, h8, h9⟩ := dict_atT hy hc.2
    obtain ⟨b, rfl, ib⟩ := rep_tk (prog := prog) hx
    obtain ⟨xs, hm, e1, _, _⟩ := dictH_rep (prog := prog) h1 h4 h6 h8
    refine wpAny_in_heap (knd := TKd prog w) hu ib h9 hm ?_
    rw [any_atKey xs, kD_map e1]; exact ⟨Kp.tok _ _, .bool _⟩
theorem cellEq_snd {P : Params} {h : Heap} {x y : Value} {a b : D} (hx : Rep P h H x a) (hy : Rep P h H' y b) (ha : a.isCell = true) (hb : b.isCell = true) : ∀ A s, EqAt A s x y (cellEq a b) := by
  have e : eqS a b = some (cellEq a b) := by cases a <;> first | (cases ha; done) | (cases b <;> first | rfl | (cases hb; done))
  exact (eqS_snd hx hy e).1
noncomputable def valCell : Value → D
  | .int i _ => .int i
  | .str x _ => .str x
  | _ => .none
theorem valCell_rep {P : Params} {h : Heap} {v : Value} {d : D} (r : Rep P h H v d) (hc : d.isCell = true) : valCell v = d := by
  cases r <;> first | rfl | cases hc
theorem eqv_any {P : Params} {h : Heap} {b : D} : ∀ {vs : List Value} {ds : List D}, RepAll P h H vs ds → ds.all D.isCell = true → vs.any (fun v => cellEq (valCell v) b) = ds.any fun x => cellEq x b
  | _, _, .nil, _ => rfl
  | _, _, .cons hv hr, hc => by
    simp only [List.all_cons, Bool.and_eq_true] at hc
    rw [List.any_cons, List.any_cons, eqv_any hr hc.2, valCell_rep hv hc.1]
theorem mem_eqv {P : Params} {h : Heap} {x : Value} {k : D} (hx : Rep P h H x k) (hk : k.isCell = true) {A : Around} {s : Shared} : ∀ {vs : List Value} {ds : List D}, RepAll P h H vs ds → ds.all D.isCell = true → ∀ v ∈ vs, EqAt A s v x (cellEq (valCell v) k)
  | _, _, .nil, _, _, hm => nomatch hm
  | _, _, .cons hv hr, hc, v, hm => by
    simp only [List.all_cons, Bool.and_eq_true] at hc
    rcases List.mem_cons.mp hm with rfl | hm
    · rw [valCell_rep hv hc.1]; exact cellEq_snd hv hx hc.1 hk A s
    · exact mem_eqv hx hk hr hc.2 v hm
theorem in_tup {x y : Value} {k : D} {ds : List D} (hx : Rep w.params s.heap H x k) (hy : Rep w.params s.heap H y (.tup ds)) (hc : (k.isCell && ds.all D.isCell) = true) :
    wpAny (model prog w) A (compareOp .In x y) (Post w s H (.bool (ds.any fun x => cellEq x k))) E s := by
  rw [Bool.and_eq_true] at hc
  cases hy with
  | tup ho hn hl hr =>
    refine in_tupleAt (fun v => cellEq (valCell v) k) (isTuple_of ho) (fun v hv => mem_eqv hx hc.1 hr hc.2 v (Array.mem_toList_iff.mpr hv)) ?_
    rw [← Array.any_toList, eqv_any hr hc.2]; exact ⟨Kp.refl _, .bool _⟩
theorem mem_snd {x y : Value} {a b : D} {k : Bool} (hx : Rep w.params s.heap H x a) (hy : Rep w.params s.heap H y b) (hu : A.units + 1 < cLine) (he : memD a b = some k) :
    wpAny (model prog w) A (compareOp .In x y) (Post w s H (.bool k)) E s := by
  cases b <;> simp only [memD] at he <;> first | (cases he; done) | skip
  · split at he
    · rename_i hc; cases he; exact in_tup hx hy hc
    · cases he
  · split at he
    · rename_i hc; cases he; exact in_dict hx hy hu hc
    · cases he
theorem ord_snd {op : CmpOp} {x y : Value} {a b d : D} (hx : Rep w.params s.heap H x a) (hy : Rep w.params s.heap H y b) (he : ordD op a b = some d) : wpAny (model prog w) A (compareOp op x y) (Post w s H d) E s := by
  cases hx <;> simp only [ordD] at he <;> first | (cases he; done) | skip
  all_goals cases hy <;> simp only at he <;> first | (cases he; done) | skip
  · cases op <;> simp only [cmpI] at he <;> cases he
    · exact PyProof.Rows.lt_int ⟨Kp.refl _, .bool _⟩
    · exact PyProof.Rows.le_int ⟨Kp.refl _, .bool _⟩
    · exact PyProof.Rows.gt_int ⟨Kp.refl _, .bool _⟩
    · exact PyProof.Rows.ge_int ⟨Kp.refl _, .bool _⟩
  · cases op <;> simp only at he <;> cases he
    exact PyProof.Rows.lt_str ⟨Kp.refl _, .bool _⟩
theorem cmp_snd {op : CmpOp} {x y : Value} {a b d : D} (hx : Rep w.params s.heap H x a) (hy : Rep w.params s.heap H y b) (hu : A.units + 1 < cLine) (he : cmpD op a b = some d) :
    wpAny (model prog w) A (compareOp op x y) (Post w s H d) E s := by
  have hu0 := Nat.lt_of_succ_lt hu
  cases op <;> simp only [cmpD] at he <;> first | exact ord_snd hx hy he | skip
  all_goals
    rw [Option.map_eq_some_iff] at he
    obtain ⟨k, hk, rfl⟩ := he
  · exact (eqD_snd hx hy hu0 hk).1 prog w E _ ⟨Kp.refl _, .bool _⟩
  · exact (eqD_snd hx hy hu0 hk).2 prog w E _ ⟨Kp.refl _, .bool _⟩
  · exact mem_snd hx hy hu hk
  · exact notIn_of_in (mem_snd hx hy hu hk) fun b s' q => ⟨q.1, by cases q.2; exact .bool _⟩

theorem lt63 {n : Nat} (h : n ≤ big) : (n : Int) < 2 ^ 63 := by unfold big at h; omega

theorem truth_snd {x : Value} {a : D} {t : Bool} (hx : Rep w.params s.heap H x a) (he : truth a = some t) :
    wpAny (model prog w) A (truthy x) (fun b s' => Keeps s s' ∧ b = t) E s := by
  cases hx <;> simp only [truth] at he <;> cases he
  · exact PyProof.Rows.truthy_none ⟨Kp.refl _, rfl⟩
  · exact wpAny_truthy_bool ⟨Kp.refl _, rfl⟩
  · exact PyProof.Rows.truthy_int ⟨Kp.refl _, rfl⟩
  · rename_i vs n ds ho _ hl hr
    have e := hr.length
    simp only [Array.length_toList] at e
    refine PyProof.Rows.truthy_tuple (isTup_of ho) (by rw [e]; exact lt63 hl) ⟨Kp.tok _ _, ?_⟩
    congr 1
    rw [Bool.eq_iff_iff]
    simp only [Array.isEmpty_iff, List.isEmpty_iff, ← Array.size_eq_zero_iff, ← List.length_eq_zero_iff, e]
  · rename_i vs n ds ho _ hl hr
    have e := hr.length
    simp only [Array.length_toList] at e
    refine wpAny_truthy_list (isList_of ho) (by rw [e]; exact lt63 hl) ⟨Kp.tok _ _, ?_⟩
    congr 1
    rw [Bool.eq_iff_iff]
    simp only [Array.isEmpty_iff, List.isEmpty_iff, ← Array.size_eq_zero_iff, ← List.length_eq_zero_iff, e]

theorem idx_seq {k : Int} {n j : Nat} (h : idx k n = some j) : seqIndex? k n = some j ∧ j < n ∧ -(n : Int) ≤ k ∧ k < n := by
  unfold idx at h
  unfold seqIndex?
  split at h
  · rename_i hc; cases h
    have e : ¬ k < 0 := by omega
    simp only [e, if_false]
    simp [hc]; omega
  · split at h
    · rename_i hc; cases h
      simp only [hc.2, if_true]
      have h1 : 0 ≤ k + n := by omega
      have h2 : k + n < n := by omega
      simp [h1, h2]; omega
    · cases h

theorem getItem_snd {x i : Value} {a b d : D} (hx : Rep w.params s.heap H x a) (hi : Rep w.params s.heap H i b) (he : subD a b = some d) :
    wpAny (model prog w) A (getItem x i) (Post w s H d) E s ∧ ∃ T id, s.TypeIs x T ∧ typeLookup (.type T) "__getitem__" = pure (some (.builtin id)) := by
  cases a <;> simp only [subD] at he <;> first | (cases he; done) | skip
  · rename_i x
    cases hx
    cases hi <;> simp only at he <;> first | (cases he; done) | skip
    rename_i k _
    split at he
    · rename_i hc; cases he
      refine ⟨PyProof.Rows.getItem_str (c := x.cps.getD k.toNat 0) ?_ ?_ ⟨Kp.tok _ _, .str _ _⟩, "str", _, typeIs_str _ _ _, F.slot_str_getitem.lookup⟩
      · simp; unfold big at hc; omega
      · have h1 : idx k x.length = some k.toNat := by unfold idx; simp [hc.1, hc.2.1]
        rw [(idx_seq h1).1]
        have h2 : k.toNat < x.cps.size := by have := hc.2.1; unfold Str.length at this; omega
        simp [Array.getD, h2]
    · cases he
  · cases hx with
    | tup ho hn hl hr =>
      cases hi <;> simp only at he <;> first | (cases he; done) | skip
      rename_i k _
      rw [Option.bind_eq_some_iff] at he
      obtain ⟨j, hj, he⟩ := he
      obtain ⟨v, hv, hvr⟩ := hr.get j he
      obtain ⟨h1, h2, h3, h4⟩ := idx_seq hj
      have e := hr.length
      simp only [Array.length_toList] at e
      have hb := lt63 hl
      exact ⟨PyProof.Rows.getItem_tuple (isTup_of ho) (by omega) (by omega) (by rw [e]; exact h1) (by simpa using hv) ⟨Kp.refl _, hvr⟩, "tuple", _, (isTup_of ho).typeIs, F.slot_tuple_getitem.lookup⟩
  · cases hx with
    | list ho hn hl hr =>
      cases hi <;> simp only at he <;> first | (cases he; done) | skip
      rename_i k _
      rw [Option.bind_eq_some_iff] at he
      obtain ⟨j, hj, he⟩ := he
      obtain ⟨v, hv, hvr⟩ := hr.get j he
      have e := hr.length
      simp only [Array.length_toList] at e
      have hb := lt63 hl
      refine ⟨?_, "list", _, (isList_of ho).typeIs, F.slot_list_getitem.lookup⟩
      unfold idx at hj
      split at hj
      · cases hj
        exact wpAny_getItem_list (isList_of ho) (by omega) (by omega) (by simpa using hv) ⟨Kp.refl _, hvr⟩
      · split at hj
        · cases hj
          exact wpAny_getItem_list_neg (isList_of ho) (by omega) (by rw [e]; omega) (by omega) (by rw [e]; simpa using hv) ⟨Kp.refl _, hvr⟩
        · cases hj
  · split at he
    · rename_i hc
      rw [Bool.and_eq_true] at hc
      obtain ⟨c, rfl⟩ := cell_ck hc.1
      obtain ⟨a, es, n, cs, rfl, h1, rfl, h4, h5, h6, h8, h9, hl⟩ := dict_at hx hc.2
      obtain ⟨v, hv, rv⟩ := dget_valueAt h5 he
      have hm := (dictOf_rep (prog := prog) h1 h4 h6 h8).mapOf
      exact ⟨wpAny_getItem_of (knd := cellKind prog w) (rep_ck hi) hm hv ⟨Kp.tok _ _, rv⟩, "dict", _, hm.typeIs, slot_dict_getitem.lookup⟩
    · cases he
end
end Mine

namespace Mine
open PySem PySem.SeqAt

section
variable {prog : Program} {w : World} {A : Around} {E : Value → Shared → Prop} {s : Shared} {H H' : Addr → Prop}

theorem isi_snd {x : Value} {a : D} {T : String} {t : Bool} (hx : Rep w.params s.heap H x a) (he : isiD a T = some t) :
    wpAny (model prog w) A (call (.builtin "isinstance") [x, .type T]) (Post w s H (.bool t)) E s := by
  unfold isiD at he
  split at he
  · rename_i hT
    cases hx with
    | bool b =>
      rcases hT with rfl | rfl | rfl | rfl | rfl
      · cases he; exact IsiPair.bool_str ⟨Kp.tok _ _, .bool _⟩
      · cases he; exact IsiPair.bool_bool ⟨Kp.refl _, .bool _⟩
      · cases he; exact IsiPair.bool_int ⟨Kp.refl _, .bool _⟩
      · cases he; exact IsiPair.bool_tuple ⟨Kp.tok _ _, .bool _⟩
      · cases he; exact IsiPair.bool_list ⟨Kp.tok _ _, .bool _⟩
    | int i t =>
      rcases hT with rfl | rfl | rfl | rfl | rfl
      · cases he; exact IsiPair.int_str ⟨Kp.tok _ _, .bool _⟩
      · cases he; exact IsiPair.int_bool ⟨Kp.tok _ _, .bool _⟩
      · cases he; exact IsiPair.int_int ⟨Kp.refl _, .bool _⟩
      · cases he; exact IsiPair.int_tuple ⟨Kp.tok _ _, .bool _⟩
      · cases he; exact IsiPair.int_list ⟨Kp.tok _ _, .bool _⟩
    | str x t =>
      rcases hT with rfl | rfl | rfl | rfl | rfl
      · cases he; exact IsiPair.str_str ⟨Kp.refl _, .bool _⟩
      · cases he; exact IsiPair.str_bool ⟨Kp.tok _ _, .bool _⟩
      · cases he; exact IsiPair.str_int ⟨Kp.tok _ _, .bool _⟩
      · cases he; exact IsiPair.str_tuple ⟨Kp.tok _ _, .bool _⟩
      · cases he; exact IsiPair.str_list ⟨Kp.tok _ _, .bool _⟩
    | tup ho =>
      rcases hT with rfl | rfl | rfl | rfl | rfl
      · cases he; exact IsiPair.tuple_str ho rfl ⟨Kp.tok _ _, .bool _⟩
      · cases he; exact IsiPair.tuple_bool ho rfl ⟨Kp.tok _ _, .bool _⟩
      · cases he; exact IsiPair.tuple_int ho rfl ⟨Kp.tok _ _, .bool _⟩
      · cases he; exact IsiPair.tuple_tuple ho rfl ⟨Kp.refl _, .bool _⟩
      · cases he; exact IsiPair.tuple_list ho rfl ⟨Kp.tok _ _, .bool _⟩
    | list ho =>
      rcases hT with rfl | rfl | rfl | rfl | rfl
      · cases he; exact IsiPair.list_str ho rfl ⟨Kp.tok _ _, .bool _⟩
      · cases he; exact IsiPair.list_bool ho rfl ⟨Kp.tok _ _, .bool _⟩
      · cases he; exact IsiPair.list_int ho rfl ⟨Kp.tok _ _, .bool _⟩
      · cases he; exact IsiPair.list_tuple ho rfl ⟨Kp.tok _ _, .bool _⟩
      · cases he; exact IsiPair.list_list ho rfl ⟨Kp.refl _, .bool _⟩
    | _ => cases he
  · cases he

/-- the built-in that a name means -/
noncomputable def bltVal : String → Value
  | "len" => .builtin "len"
  | "isinstance" => .builtin "isinstance"
  | "sum" => .builtin "sum"
  | "max" => .builtin "max"
  | "min" => .builtin "min"
  | "sorted" => .builtin "sorted"
  | T => .type T

theorem natAbs_log2 {i : Int} (h : -strLim < i ∧ i < strLim) : i.natAbs.log2 < 1920 := by
  unfold strLim at h
  have h2 : i.natAbs < 10 ^ 100 := by
    have e : ((10 ^ 100 : Nat) : Int) = (10 : Int) ^ 100 := by exact Int.natCast_pow 10 100
    generalize (10 : Int) ^ 100 = p at h e
    omega
  by_cases h3 : i.natAbs = 0
  · rw [h3]; decide
  · refine (Nat.log2_lt h3).mpr (Nat.lt_trans h2 (by decide +kernel))

theorem len_snd {x : Value} {a d : D} (hx : Rep w.params s.heap H x a) (he : lenD a = some d) : wpAny (model prog w) A (call (.builtin "len") [x]) (Post w s H d) E s := by
  cases hx <;> simp only [lenD] at he <;> first | (cases he; done) | skip
  · split at he
    · rename_i hc; cases he
      exact PyProof.Rows.len_str (by have := lt63 hc; omega) ⟨Kp.tok _ _, .int _ _⟩
    · cases he
  · rename_i ho _ hl hr
    cases he
    have e := hr.length
    simp only [Array.length_toList] at e
    refine PyProof.Rows.len_tuple (isTup_of ho) (by rw [e]; exact lt63 hl) ?_
    rw [e]; exact ⟨Kp.tok _ _, .int _ _⟩
  · rename_i ho _ hl hr
    cases he
    have e := hr.length
    simp only [Array.length_toList] at e
    refine PyProof.Rows.len_list (isList_of ho) (by rw [e]; exact lt63 hl) ?_
    rw [e]; exact ⟨Kp.tok _ _, .int _ _⟩
theorem bltI_snd {f : String} {i : Int} {t : Tok} {d : D} (hH : Ex s.heap H) (he : bltI f i = some d) : wpAny (model prog w) A (call (bltVal f) [.int i t]) (Post w s H d) E s := by
  unfold bltI rngD at he
  split at he
  · rename_i hf; subst hf
    split at he
    · rename_i hc; cases he
      refine call_range_1 ⟨⟨_, _, rfl, fun _ _ e => Heap.get?_push_of_some _ e⟩, ?_⟩
      exact .rng (IsRange.new _ _ _ _ _ _ _) hH.fresh (by unfold big at *; omega)
    · cases he
  · split at he
    · rename_i hf; subst hf
      split at he
      · rename_i hc; cases he
        exact P.str_of_int (natAbs_log2 hc) ⟨Kp.tok _ _, .str _ _⟩
      · cases he
    · cases he
theorem bltI2_snd {f : String} {i j : Int} {t u : Tok} {d : D} (hh : A.handled = none) (hH : Ex s.heap H) (he : bltI2 f i j = some d) : wpAny (model prog w) A (call (bltVal f) [.int i t, .int j u]) (Post w s H d) E s := by
  unfold bltI2 rngD at he
  split at he
  · rename_i hf; subst hf
    split at he
    · rename_i hc; cases he
      refine call_range_2 ⟨⟨_, _, rfl, fun _ _ e => Heap.get?_push_of_some _ e⟩, ?_⟩
      exact .rng (IsRange.new _ _ _ _ _ _ _) hH.fresh (by unfold big at *; omega)
    · cases he
  · split at he
    · rename_i hf; subst hf; cases he
      refine max_two_ints hh fun h' tk hk => ?_
      split <;> exact ⟨⟨h', tk, rfl, hk⟩, .int _ _⟩
    · split at he
      · rename_i hf; subst hf; cases he
        refine min_two_ints hh fun h' tk hk => ?_
        split <;> exact ⟨⟨h', tk, rfl, hk⟩, .int _ _⟩
      · cases he
theorem blt1_snd {f : String} {x : Value} {a d : D} (hx : Rep w.params s.heap H x a) (hH : Ex s.heap H) (he : bltD f [a] = some d) : wpAny (model prog w) A (call (bltVal f) [x]) (Post w s H d) E s := by
  simp only [bltD] at he
  split at he
  · rename_i hf; subst hf; exact len_snd hx he
  · cases hx <;> simp only at he <;> first | (cases he; done) | exact bltI_snd hH he | skip
    · split at he
      · rename_i hf; subst hf; cases he
        exact call_int_bool ⟨Kp.tok _ _, .int _ _⟩
      · cases he
    · split at he
      · rename_i hf; subst hf; cases he
        exact P.str_of_str ⟨Kp.refl _, .str _ _⟩
      · cases he
    · rename_i ho hn hl hr
      split at he
      · rename_i hf; subst hf; cases he
        have e := hr.length
        simp only [Array.length_toList] at e
        refine call_tuple_list (isList_of ho) (fun h' hk => ⟨⟨_, _, rfl, fun _ _ q => Heap.get?_push_of_some _ (hk _ _ q)⟩, ?_⟩) (by rw [e]; exact hl)
        exact .tup (Heap.get?_push_size _ rfl) (hH.keeps hk).fresh hl (hr.keeps fun _ _ q => Heap.get?_push_of_some _ (hk _ _ q))
      · cases he
theorem blt_snd {f : String} {xs : List Value} {as : List D} {d : D} (hh : A.handled = none) (hx : RepAll w.params s.heap H xs as) (hH : Ex s.heap H) (he : bltD f as = some d) :
    wpAny (model prog w) A (call (bltVal f) xs) (Post w s H d) E s := by
  cases hx with
  | nil => cases he
  | cons h1 h2 => cases h2 with
    | nil => exact blt1_snd h1 hH he
    | cons h2 h3 => cases h3 with
      | nil =>
        simp only [bltD] at he
        cases h1 <;> simp only at he <;> first | (cases he; done) | skip
        cases h2 <;> simp only at he <;> first | (cases he; done) | skip
        exact bltI2_snd hh hH he
      | cons => cases he
theorem reps_keys {P : Params} {h : Heap} : ∀ {vs : List Value} {cs : List CK}, vs.length = cs.length → (∀ (j : Nat) (v : Value), vs[j]? = some v → ∃ k, cs[j]? = some k ∧ CK.is k v = true) → RepAll P h H vs (cs.map ofCK)
  | [], [], _, _ => .nil
  | v :: vs, c :: cs, hl, hv => by
    obtain ⟨k, e1, e2⟩ := hv 0 v rfl
    cases e1
    exact .cons (ck_rep e2) (reps_keys (by simpa using hl) fun j v' e => hv (j + 1) v' e)
theorem lst_snd {x : Value} {a : D} {ds : List D} (hh : A.handled = none) (hx : Rep w.params s.heap H x a) (hH : Ex s.heap H) (he : lstD a = some ds) :
    wpAny (model prog w) A (call (.type "list") [x]) (PostF w s H (.list ds) true) E s := by
  cases a <;> simp only [lstD] at he <;> first | (cases he; done) | skip
  · cases hx with
    | tup ho hn hl hr =>
      cases he
      have e := hr.length
      simp only [Array.length_toList] at e
      exact call_list_seq _ (.inr rfl) ho rfl rfl (fun h' c' hk hD => post_newList hH hl hr hk hD) (by rw [e]; exact hl)
  · cases hx with
    | list ho hn hl hr =>
      cases he
      have e := hr.length
      simp only [Array.length_toList] at e
      exact call_list_seq _ (.inl rfl) ho rfl rfl (fun h' c' hk hD => post_newList hH hl hr hk hD) (by rw [e]; exact hl)
  · split at he
    · rename_i vs hc
      cases he
      have hlk : ds.length ≤ big := by cases hx; assumption
      obtain ⟨a, es, n, cs, rfl, h1, rfl, h4, h5, h6, h8, h9, hl⟩ := dict_at hx hc
      obtain ⟨ep, hm⟩ := (dictOf_rep (prog := prog) h1 h4 h6 h8).dictAt
      have el : (cs.zip (es.toList.map (·.val))).length = cs.length := by rw [List.length_zip, ← hl, Nat.min_self]
      refine PySem.W.kdl_call (PySem.W.kdl_dict h9) hh hm (by rw [el]; exact Nat.le_trans (by simpa using hlk) (by decide)) fun h' tk acc' c' hk hD hacc => ?_
      refine post_newList hH hlk (reps_keys (by rw [Array.length_toList, hacc.1, el]) fun j v e => ?_) hk hD
      obtain ⟨k, x, q1, q2⟩ := hacc.2 j v (by rw [← Array.getElem?_toList]; exact e)
      exact ⟨k, (List.getElem?_zip_eq_some.mp q1).1, q2⟩
    · cases he
end
end Mine

namespace Mine
open PySem PySem.SeqAt

section
variable {prog : Program} {w : World} {A : Around} {E : Value → Shared → Prop} {s : Shared} {H H' : Addr → Prop}

structure IterAt (prog : Program) (w : World) (A : Around) (s₁ : Shared) (H : Addr → Prop) (its : List D) (I : Addr) (s₂ : Shared) : Prop where
  keeps : Keeps s₁ s₂
  fresh : s₁.heap.get? I = none
  ex : ∃ o, s₂.heap.get? I = some o
  walk : ∃ fp P St, Walks prog w A I fp [I] its.length P St ∧ St 0 s₂.heap ∧ (∀ b ∈ fp, b = I ∨ (¬ H b ∧ ∃ o, s₁.heap.get? b = some o)) ∧ (∀ i v, i < its.length → P i v → ∃ d, its[i]? = some d ∧ Rep w.params s₁.heap H v d) ∧ (∀ i h, St i h → ∃ o, h.get? I = some o)

theorem fresh_size (h : Heap) : h.get? h.objs.size = none := Heap.get?_none_of_le (Nat.le_refl _)

theorem iter_snd {x : Value} {d : D} {its : List D} (hx : Rep w.params s.heap H x d) (hh : A.handled = none) (he : d.items = some its) :
    wpAny (model prog w) A (pyIter x) (fun v s₂ => ∃ I, v = .ref I ∧ IterAt prog w A s H its I s₂) E s := by
  cases hx <;> simp only [D.items] at he <;> cases he
  · rename_i a vs n ho hn hl hr
    have e := hr.length
    simp only [Array.length_toList] at e
    have hne : a ≠ s.heap.objs.size := Nat.ne_of_lt (Heap.lt_size ho)
    refine wpAny_pyIter_tuple (isTuple_of ho) ⟨_, rfl, Kp.push _ _, fresh_size _, ⟨_, Heap.get?_push_size _ rfl⟩, ?_⟩
    refine ⟨_, _, _, e ▸ Walks.tuple hh s.heap.objs.size a hne vs, ?_, ?_, ?_, ?_⟩
    · exact ⟨⟨_, Heap.get?_push_size _ rfl, rfl, rfl⟩, (isTuple_of ho).push _⟩
    · intro b hb
      simp only [List.mem_cons, List.not_mem_nil, or_false] at hb
      rcases hb with rfl | rfl
      · exact .inl rfl
      · exact .inr ⟨hn, _, ho⟩
    · intro i v hi hv
      obtain ⟨v', h1, h2⟩ := hr.get i (List.getElem?_eq_getElem hi)
      have : v' = v := by
        have h3 : vs.toList[i]? = vs[i]? := by simp
        rw [h3, hv] at h1; cases h1; rfl
      exact ⟨_, List.getElem?_eq_getElem hi, this ▸ h2⟩
    · rintro i h ⟨⟨o, e, _⟩, _⟩; exact ⟨o, e⟩
  · rename_i a vs n ho hn hl hr
    have e := hr.length
    simp only [Array.length_toList] at e
    have hne : a ≠ s.heap.objs.size := Nat.ne_of_lt (Heap.lt_size ho)
    refine wpAny_pyIter_list (isList_of ho) ⟨_, rfl, Kp.push _ _, fresh_size _, ⟨_, Heap.get?_push_size _ rfl⟩, ?_⟩
    refine ⟨_, _, _, e ▸ Walks.list hh s.heap.objs.size a hne vs, ?_, ?_, ?_, ?_⟩
    · exact ⟨⟨_, Heap.get?_push_size _ rfl, rfl, rfl⟩, (isList_of ho).push _⟩
    · intro b hb
      simp only [List.mem_cons, List.not_mem_nil, or_false] at hb
      rcases hb with rfl | rfl
      · exact .inl rfl
      · exact .inr ⟨hn, _, ho⟩
    · intro i v hi hv
      obtain ⟨v', h1, h2⟩ := hr.get i (List.getElem?_eq_getElem hi)
      have : v' = v := by
        have h3 : vs.toList[i]? = vs[i]? := by simp
        rw [h3, hv] at h1; cases h1; rfl
      exact ⟨_, List.getElem?_eq_getElem hi, this ▸ h2⟩
    · rintro i h ⟨⟨o, e, _⟩, _⟩; exact ⟨o, e⟩
  · rename_i lo hi t u v hr hn hl
    have hsm : Builtin.Range.small lo hi 1 = true := by
      unfold big at hl; exact small_one (by omega) (by omega) (by omega) (by omega)
    have hsz : Builtin.Range.rangeSize lo hi 1 = ((hi - lo).toNat : Int) := by
      rw [rangeSize_one]; split <;> omega
    refine wpAny_pyIter_range hr hsm ⟨_, rfl, Kp.push _ _, fresh_size _, ⟨_, Heap.get?_push_size _ rfl⟩, ?_⟩
    have hlen : ((List.range (hi - lo).toNat).map fun (i : Nat) => D.int (lo + (i : Int))).length = (hi - lo).toNat := by simp
    refine ⟨_, _, _, hlen ▸ Walks.range hh s.heap.objs.size lo 1 (hi - lo).toNat, ?_, ?_, ?_, ?_⟩
    · show Heap.get? _ _ = _
      rw [Heap.get?_push_size _ rfl, hsz]
      simp [rawInt]
    · intro b hb
      simp only [List.mem_cons, List.not_mem_nil, or_false] at hb
      exact .inl hb
    · rintro i v hi ⟨t, rfl⟩
      rw [hlen] at hi
      refine ⟨.int (lo + i), by simp [hi], ?_⟩
      rw [Int.mul_one]
      exact .int _ _
    · intro i h e; exact ⟨_, e⟩
end
end Mine

namespace Mine
open PySem PySem.SeqAt

structure AOk (A : Around) (n : Nat) : Prop where
  handled : A.handled = none
  depth : A.depth + n + 20 < recursionLimit
  units : A.units + 3 * n + 100 < cLine

structure EnvRep (h : Heap) (env : Env) (m : Str → Option Value) : Prop where
  kind : env.scope.kind = .function
  glob : env.globals = mainGlobals
  blt : env.builtins = builtinsNs
  loc : ∃ ml, h.Ns env.locals ml ∧ ∀ x, env.kindOf x = some .local → ml x = m x
  cell : ∀ x, env.kindOf x = some .cell ∨ env.kindOf x = some .free → ∃ c, env.cells.lookup x = some c ∧ h.IsCell c (m x)
  inj : ∀ x y c, env.cells.lookup x = some c → env.cells.lookup y = some c → x = y
  off : ∀ x c, env.cells.lookup x = some c → c ≠ env.locals
  ex : ∀ x c, env.cells.lookup x = some c → ∃ o, h.get? c = some o

theorem EnvRep.keeps {h h' : Heap} {env : Env} {m : Str → Option Value} (R : EnvRep h env m) (hk : ∀ a o, h.get? a = some o → h'.get? a = some o) : EnvRep h' env m where
  kind := R.kind
  glob := R.glob
  blt := R.blt
  loc := let ⟨ml, h1, h2⟩ := R.loc; ⟨ml, h1.keeps hk, h2⟩
  cell := fun x hx => let ⟨c, h1, h2⟩ := R.cell x hx; ⟨c, h1, h2.keeps hk⟩
  inj := R.inj
  off := R.off
  ex := fun x c hc => let ⟨o, ho⟩ := R.ex x c hc; ⟨o, hk _ _ ho⟩

theorem Ns.keepAt {h h' : Heap} {a : Addr} {m : Str → Option Value} (hn : h.Ns a m) (hk : ∀ o, h.get? a = some o → h'.get? a = some o) : h'.Ns a m :=
  let ⟨o, es, ep, ho, r⟩ := hn; ⟨o, es, ep, hk _ ho, r⟩
theorem Cell.keepAt {h h' : Heap} {a : Addr} {v : Option Value} (hn : h.IsCell a v) (hk : ∀ o, h.get? a = some o → h'.get? a = some o) : h'.IsCell a v :=
  let ⟨o, ho, r⟩ := hn; ⟨o, hk _ ho, r⟩

/-- the frame's own places stay -/
theorem EnvRep.keepsAt {h h' : Heap} {env : Env} {m : Str → Option Value} (R : EnvRep h env m) (hk : ∀ a o, (a = env.locals ∨ ∃ x, env.cells.lookup x = some a) → h.get? a = some o → h'.get? a = some o) : EnvRep h' env m where
  kind := R.kind
  glob := R.glob
  blt := R.blt
  loc := let ⟨ml, h1, h2⟩ := R.loc; ⟨ml, Ns.keepAt h1 fun o e => hk _ o (.inl rfl) e, h2⟩
  cell := fun x hx => let ⟨c, h1, h2⟩ := R.cell x hx; ⟨c, h1, Cell.keepAt h2 fun o e => hk _ o (.inr ⟨x, h1⟩) e⟩
  inj := R.inj
  off := R.off
  ex := fun x c hc => let ⟨o, ho⟩ := R.ex x c hc; ⟨o, hk _ _ (.inr ⟨x, hc⟩) ho⟩

section
variable {M : Model} {A : Around} {E : Value → Shared → Prop} {s : Shared}

theorem load_snd {env : Env} {m : Str → Option Value} {x : Str} {v : Value} {pos : Pos} {Q : Value → Shared → Prop} (R : EnvRep s.heap env m) (hx : isVar env.kindOf x = true) (hv : m x = some v) (h : Q v s) :
    wpAny M A (eval (.Name x pos) env) Q E s := by
  unfold isVar at hx
  simp only [Bool.and_eq_true, Bool.or_eq_true, beq_iff_eq, bne_iff_ne] at hx
  obtain ⟨⟨⟨hk, hd⟩, hc⟩, _⟩ := hx
  have hd' : (x == ("__debug__" : Str)) = false := by simpa using hd
  have hc' : (x == ("__classdict__" : Str)) = false := by simpa using hc
  refine wpAny_Name ?_ hd'
  rcases hk with (hk | hk) | hk
  · obtain ⟨ml, h1, h2⟩ := R.loc
    exact wpAny_loadName_local R.kind hk h1 ((h2 x hk).trans hv) h
  · obtain ⟨c, h1, h2⟩ := R.cell x (.inl hk)
    exact wpAny_loadName_cell R.kind hk h1 (hv ▸ h2) h
  · obtain ⟨c, h1, h2⟩ := R.cell x (.inr hk)
    exact wpAny_loadName_free R.kind hk h1 (hv ▸ h2) h hc'

noncomputable def upd (m : Str → Option Value) (x : Str) (v : Value) : Str → Option Value := fun y => if y = x then some v else m y

theorem store_snd {env : Env} {m : Str → Option Value} {x : Str} {v : Value} {Q : Unit → Shared → Prop} (R : EnvRep s.heap env m) (hx : env.kindOf x = some .local ∨ env.kindOf x = some .cell)
    (h : ∀ h' tk a, EnvRep h' env (upd m x v) → (a = env.locals ∨ env.cells.lookup x = some a) → Heap.SameBut a s.heap h' → Q () { s with heap := h', toks := tk }) :
    wpAny M A (storeName env x v) Q E s := by
  rcases hx with hk | hk
  · obtain ⟨ml, h1, h2⟩ := R.loc
    refine wpAny_storeName_local hk h1 (fun h' hn hs => h h' _ env.locals ⟨R.kind, R.glob, R.blt, ⟨_, hn, fun y hy => ?_⟩, fun y hy => ?_, R.inj, R.off, fun y c hc => let ⟨o, ho⟩ := R.ex y c hc; ⟨o, (hs.2 c (R.off y c hc)).trans ho⟩⟩ (.inl rfl) hs) (by rw [R.kind]; rfl)
    · unfold upd; by_cases e : y = x
      · simp [e]
      · simp [e, h2 y hy]
    · obtain ⟨c, h3, h4⟩ := R.cell y hy
      have hne : y ≠ x := by rintro rfl; rw [hk] at hy; simp at hy
      refine ⟨c, h3, ?_⟩
      unfold upd; rw [if_neg hne]
      exact h4.sameBut hs (R.off y c h3)
  · obtain ⟨c, h3, h4⟩ := R.cell x (.inl hk)
    refine wpAny_storeName_cell R.kind hk h3 h4 fun h' hc hs => h h' s.toks c ⟨R.kind, R.glob, R.blt, ?_, fun y hy => ?_, R.inj, R.off, fun y c' hc' => ?_⟩ (.inr h3) hs
    · obtain ⟨ml, h1, h2⟩ := R.loc
      refine ⟨ml, h1.sameBut hs (fun e => R.off x c h3 e.symm), fun y hy => ?_⟩
      have hne : y ≠ x := by rintro rfl; rw [hk] at hy; simp at hy
      unfold upd; rw [if_neg hne]; exact h2 y hy
    · obtain ⟨c', h5, h6⟩ := R.cell y hy
      by_cases e : y = x
      · subst e
        rw [h3] at h5; cases h5
        exact ⟨c, h3, by simpa [upd] using hc⟩
      · refine ⟨c', h5, ?_⟩
        unfold upd; rw [if_neg e]
        exact h6.sameBut hs fun q => e (R.inj y x c' h5 (q ▸ h3))
    · by_cases e : c' = c
      · obtain ⟨o, ho, _⟩ := hc; exact ⟨o, e ▸ ho⟩
      · obtain ⟨o, ho⟩ := R.ex y c' hc'; exact ⟨o, (hs.2 c' e).trans ho⟩

/-! the closure that a comprehension's block takes -/
noncomputable def clGo (cells : List (Str × Addr)) : List (Str × NameKind) → List (Str × Addr) → List (Str × Addr)
  | [], acc => acc
  | (n, k) :: r, acc => if k == .free then (match cells.lookup n with | some c => clGo cells r ((n, c) :: acc) | none => clGo cells r acc) else clGo cells r acc

theorem closure_go {env : Env} (f : Str × NameKind → List (Str × Addr) → Sem (ForInStep (List (Str × Addr))))
    (hf : ∀ n k cs, f (n, k) cs = if k == .free then (do let c ← cellOf env n; pure (.yield ((n, c) :: cs))) else pure (.yield cs)) :
    ∀ (names : List (Str × NameKind)) (acc : List (Str × Addr)), (∀ p ∈ names, p.2 = .free → ∃ c, env.cells.lookup p.1 = some c) → forIn names acc f = pure (clGo env.cells names acc)
  | [], acc, _ => rfl
  | (n, k) :: r, acc, h => by
    have hr : ∀ p ∈ r, p.2 = .free → ∃ c, env.cells.lookup p.1 = some c := fun p hp => h p (List.mem_cons_of_mem _ hp)
    rw [List.forIn_cons, hf]
    unfold clGo
    by_cases hk : (k == NameKind.free) = true
    · obtain ⟨c, hc⟩ := h (n, k) List.mem_cons_self (by simpa using hk)
      rw [if_pos hk, if_pos hk]
      unfold cellOf
      simp only at hc
      rw [hc]
      simp only [pure_bind]
      exact closure_go f hf r _ hr
    · rw [if_neg hk, if_neg hk, pure_bind]
      exact closure_go f hf r _ hr

theorem closureFor_go {env : Env} {scope : Scope} (h : ∀ p ∈ scope.names, p.2 = .free → ∃ c, env.cells.lookup p.1 = some c) : closureFor scope env = pure (clGo env.cells scope.names []) := by
  unfold closureFor
  simp only []
  rw [closure_go (env := env) _ (fun n k cs => by
    by_cases hk : (k == NameKind.free) = true <;> simp [hk]) scope.names [] h]
  rfl

theorem lookup_cons' {α : Type} (x n : Str) (c : α) (l : List (Str × α)) : ((n, c) :: l).lookup x = if x = n then some c else l.lookup x := by
  rw [List.lookup_cons]
  by_cases h : x = n
  · simp [h]
  · have : (x == n) = false := by simpa using h
    simp [h, this]

theorem clGo_sound {cells : List (Str × Addr)} : ∀ (names : List (Str × NameKind)) (acc : List (Str × Addr)), (∀ x c, acc.lookup x = some c → cells.lookup x = some c) →
    ∀ x c, (clGo cells names acc).lookup x = some c → cells.lookup x = some c
  | [], acc, h => h
  | (n, k) :: r, acc, h => by
    unfold clGo
    split
    · cases hc : cells.lookup n with
      | none => exact clGo_sound r acc h
      | some c =>
        refine clGo_sound r _ fun x c' e => ?_
        rw [lookup_cons'] at e
        split at e
        · rename_i q; cases e; rw [q]; exact hc
        · exact h x c' e
    · exact clGo_sound r acc h

theorem clGo_mem {cells : List (Str × Addr)} : ∀ (names : List (Str × NameKind)) (acc : List (Str × Addr)) (x : Str) (c : Addr), (clGo cells names acc).lookup x = some c → (x, NameKind.free) ∈ names ∨ acc.lookup x = some c
  | [], acc, x, c, h => .inr h
  | (n, k) :: r, acc, x, c, h => by
    unfold clGo at h
    split at h
    · rename_i hk
      have hk' : k = .free := by simpa using hk
      subst hk'
      cases hc : cells.lookup n with
      | none => rw [hc] at h; exact (clGo_mem r acc x c h).imp (.tail _) id
      | some c' =>
        rw [hc] at h
        rcases clGo_mem r _ x c h with e | e
        · exact .inl (.tail _ e)
        · rw [lookup_cons'] at e
          split at e
          · rename_i q; exact .inl (q ▸ .head _)
          · exact .inr e
    · exact (clGo_mem r acc x c h).imp (.tail _) id

theorem clGo_has {cells : List (Str × Addr)} {x : Str} {c : Addr} (hx : cells.lookup x = some c) : ∀ (names : List (Str × NameKind)) (acc : List (Str × Addr)),
    ((x, NameKind.free) ∈ names ∨ acc.lookup x = some c) → (clGo cells names acc).lookup x = some c
  | [], acc, h => h.elim (fun e => nomatch e) id
  | (n, k) :: r, acc, h => by
    unfold clGo
    split
    · cases hc : cells.lookup n with
      | none =>
        refine clGo_has hx r acc (h.imp (fun e => ?_) id)
        rcases List.mem_cons.mp e with e | e
        · cases e; rw [hx] at hc; cases hc
        · exact e
      | some c' =>
        refine clGo_has hx r _ ?_
        rcases h with e | e
        · rcases List.mem_cons.mp e with e | e
          · cases e; rw [hx] at hc; cases hc
            exact .inr (by rw [lookup_cons', if_pos rfl])
          · exact .inl e
        · rw [lookup_cons']
          split
          · rename_i q; rw [← q, hx] at hc; cases hc; exact .inr rfl
          · exact .inr e
    · rename_i hk
      refine clGo_has hx r acc (h.imp (fun e => ?_) id)
      rcases List.mem_cons.mp e with e | e
      · cases e; simp at hk
      · exact e

theorem cellsFrom_app : ∀ (names : List (Str × NameKind)) (n : Nat) (acc : List (Str × Addr)), cellsFrom n names acc = cellsFrom n names [] ++ acc
  | [], _, _ => rfl
  | (x, k) :: r, n, acc => by
    unfold cellsFrom
    split
    · rw [cellsFrom_app r (n + 1) ((x, n) :: acc), cellsFrom_app r (n + 1) [(x, n)]]; simp
    · exact cellsFrom_app r n acc

theorem cellsFrom_mem : ∀ (names : List (Str × NameKind)) (n : Nat) (x : Str) (c : Addr), (x, c) ∈ cellsFrom n names [] → (x, NameKind.cell) ∈ names ∧ n ≤ c
  | [], _, _, _, h => nomatch h
  | (y, k) :: r, n, x, c, h => by
    unfold cellsFrom at h
    split at h
    · rename_i hk
      rw [cellsFrom_app] at h
      rcases List.mem_append.mp h with h | h
      · obtain ⟨h1, h2⟩ := cellsFrom_mem r (n + 1) x c h
        exact ⟨.tail _ h1, by omega⟩
      · simp only [List.mem_cons, List.not_mem_nil, or_false, Prod.mk.injEq] at h
        obtain ⟨rfl, rfl⟩ := h
        have : k = .cell := by simpa using hk
        subst this
        exact ⟨.head _, Nat.le_refl _⟩
    · obtain ⟨h1, h2⟩ := cellsFrom_mem r n x c h
      exact ⟨.tail _ h1, h2⟩

theorem cellsFrom_has : ∀ (names : List (Str × NameKind)) (n : Nat) (x : Str), (x, NameKind.cell) ∈ names → ∃ c, (x, c) ∈ cellsFrom n names []
  | (y, k) :: r, n, x, h => by
    unfold cellsFrom
    rcases List.mem_cons.mp h with e | e
    · cases e
      simp only [beq_self_eq_true, if_true]
      rw [cellsFrom_app]
      exact ⟨n, List.mem_append_right _ (List.mem_singleton.mpr rfl)⟩
    · split
      · obtain ⟨c, hc⟩ := cellsFrom_has r (n + 1) x e
        rw [cellsFrom_app]
        exact ⟨c, List.mem_append_left _ hc⟩
      · exact cellsFrom_has r n x e

theorem lookup_some_of_mem {α : Type} : ∀ {l : List (Str × α)} {x : Str} {c : α}, (x, c) ∈ l → ∃ c', l.lookup x = some c'
  | (y, d) :: r, x, c, h => by
    rw [lookup_cons']
    split
    · exact ⟨_, rfl⟩
    · rename_i hne
      rcases List.mem_cons.mp h with e | e
      · cases e; exact absurd rfl hne
      · exact lookup_some_of_mem e

theorem lookup_app {α : Type} (x : Str) : ∀ (l l' : List (Str × α)), (l ++ l').lookup x = (l.lookup x).or (l'.lookup x)
  | [], l' => by simp
  | (y, c) :: r, l' => by
    rw [List.cons_append, lookup_cons', lookup_cons', lookup_app x r l']
    split <;> simp
end
end Mine

namespace Mine
open PySem PySem.SeqAt

theorem lookup_map {α β : Type} (g : Str → α → β) (x : Str) : ∀ (l : List (Str × α)), (l.map fun p => (p.1, g p.1 p.2)).lookup x = (l.lookup x).map (g x)
  | [] => rfl
  | (y, c) :: r => by
    rw [List.map_cons, lookup_cons', lookup_cons', lookup_map g x r]
    split
    · rename_i h; subst h; rfl
    · rfl

theorem kindC_eq (k : KD) (scope : Scope) (x : Str) : kindC k scope x = (scope.names.lookup x).map fun q => if q == .free && k x == some .cell then .cell else q := by
  unfold kindC
  rw [← lookup_map (fun n q => if q == NameKind.free && k n == some .cell then NameKind.cell else q) x scope.names]
  congr 1
  refine List.map_congr_left fun p _ => ?_
  by_cases h : (p.2 == NameKind.free && k p.1 == some .cell) = true
  · simp [h]
  · simp [h]

theorem relabel_kind {env : Env} {scope : Scope} (hk : env.scope.kind = .function) : (fun x => (relabel scope env).names.lookup x) = kindC env.kindOf scope := by
  funext x
  unfold relabel kindC
  simp only [hk]
  congr 1
  refine List.map_congr_left fun p _ => ?_
  obtain ⟨a, b⟩ := p
  simp

section
variable {M : Model} {A : Around} {E : Value → Shared → Prop} {s : Shared}
theorem newEnvA {scope : Scope} {globals : Addr} {cl : List (Str × Addr)} {qual : Str} {env : Env} {Q : Env → Shared → Prop}
    (h : Q { scope, locals := s.heap.objs.size, globals, cells := cellsFrom (s.heap.objs.size + 1) scope.names cl, qual, func := none, code := env.code, frame := env.frame, builtins := env.builtins }
      { s with heap := pushCells (s.heap.push { cls := .type "dict", data := .dict #[] }) scope.names }) :
    wpAny M A (newFunctionEnv scope globals cl [] qual none .none (some env)) Q E s := by
  simp only [newFunctionEnv, Option.isSome_some, if_true]
  refine wpAny_bind (wpAny_alloc ?_)
  refine wpAny_bind (wpAny_layCells _ (fun name kind cells => by cases hkc : kind == NameKind.cell <;> simp [hkc]) _ _ _ _ ?_)
  rw [show ({ s with heap := s.heap.push { cls := .type "dict", data := .dict #[] } } : Shared).heap.objs.size = s.heap.objs.size + 1 from Heap.size_push ..]
  exact wpAny_pure h
end

theorem cells_facts (h : Heap) (scope : Scope) (o : Obj) :
    CellsOk (pushCells (h.push o) scope.names) (h.objs.size + 1) (cellsFrom (h.objs.size + 1) scope.names []) := by
  have ok := cellsFrom_ok scope.names (h.push o) (h.objs.size + 1) [] ⟨fun _ _ hm => (nomatch hm), List.Pairwise.nil⟩ (by rw [Heap.size_push]; exact Nat.le_refl _)
  rwa [Heap.size_push] at ok

/-- the environment of a comprehension's block -/
theorem compEnv_rep {h : Heap} {env : Env} {m : Str → Option Value} {scope : Scope} {y : Str} (R : EnvRep h env m) (hok : okScope env.kindOf scope y = true) :
    EnvRep (pushCells (h.push { cls := .type "dict", data := .dict #[] }) scope.names)
      { scope := relabel scope env, locals := h.objs.size, globals := env.globals, cells := cellsFrom (h.objs.size + 1) scope.names (clGo env.cells scope.names []), qual := env.qual, func := none, code := env.code, frame := env.frame, builtins := env.builtins }
      (fun x => if scope.names.lookup x = some .free then m x else none) := by
  unfold okScope at hok
  simp only [Bool.and_eq_true, decide_eq_true_eq, beq_iff_eq, List.all_eq_true] at hok
  obtain ⟨⟨⟨⟨hkind, hnd⟩, hy⟩, hfree⟩, _⟩ := hok
  have ok := cells_facts h scope { cls := .type "dict", data := .dict #[] }
  have keep : ∀ b o, h.get? b = some o → (pushCells (h.push { cls := .type "dict", data := .dict #[] }) scope.names).get? b = some o := fun b o e => pushCells_keeps _ _ b o (Heap.get?_push_of_some _ e)
  have uniq : ∀ x k k', (x, k) ∈ scope.names → (x, k') ∈ scope.names → k = k' := by
    intro x k k' h1 h2
    have : ∀ (l : List (Str × NameKind)), (l.map (·.1)).Nodup → (x, k) ∈ l → (x, k') ∈ l → k = k' := by
      intro l
      induction l with
      | nil => intro _ h; nomatch h
      | cons p l ih =>
        intro hn h1 h2
        simp only [List.map_cons, List.nodup_cons] at hn
        rcases List.mem_cons.mp h1 with e1 | e1 <;> rcases List.mem_cons.mp h2 with e2 | e2
        · rw [← e2] at e1; exact (Prod.mk.inj e1).2
        · exact absurd (List.mem_map_of_mem (f := (·.1)) e2) (by rw [← e1] at hn; exact hn.1)
        · exact absurd (List.mem_map_of_mem (f := (·.1)) e1) (by rw [← e2] at hn; exact hn.1)
        · exact ih hn.2 e1 e2
    exact this _ hnd h1 h2
  have own_none : ∀ x, scope.names.lookup x ≠ some .cell → (cellsFrom (h.objs.size + 1) scope.names []).lookup x = none := by
    intro x hx
    cases hc : (cellsFrom (h.objs.size + 1) scope.names []).lookup x with
    | none => rfl
    | some c =>
      exfalso
      have h1 := (cellsFrom_mem _ _ _ _ (mem_of_lookup hc)).1
      obtain ⟨k', h2⟩ := lookup_some_of_mem h1
      have := uniq _ _ _ (mem_of_lookup h2) h1
      rw [this] at h2
      exact hx h2
  have cases_cell : ∀ x c, (cellsFrom (h.objs.size + 1) scope.names (clGo env.cells scope.names [])).lookup x = some c →
      (cellsFrom (h.objs.size + 1) scope.names []).lookup x = some c ∨ ((cellsFrom (h.objs.size + 1) scope.names []).lookup x = none ∧ env.cells.lookup x = some c) := by
    intro x c hc
    rw [cellsFrom_app, lookup_app] at hc
    cases hq : (cellsFrom (h.objs.size + 1) scope.names []).lookup x with
    | some c' => rw [hq] at hc; simp at hc; exact .inl (by rw [hc])
    | none =>
      rw [hq] at hc
      simp only [Option.none_or] at hc
      exact .inr ⟨rfl, clGo_sound _ _ (fun _ _ e => by simp at e) x c hc⟩
  have outer_lt : ∀ x c, env.cells.lookup x = some c → @LT.lt Nat _ c h.objs.size := fun x c hc => let ⟨o, ho⟩ := R.ex x c hc; Heap.lt_size ho
  have own_ge : ∀ x c, (cellsFrom (h.objs.size + 1) scope.names []).lookup x = some c → @LE.le Nat _ (h.objs.size + 1) c := fun x c hc => (ok.empty x c (mem_of_lookup hc)).2
  refine ⟨hkind, R.glob, R.blt, ⟨fun _ => none, ?_, ?_⟩, ?_, ?_, ?_, ?_⟩
  · exact (Heap.Ns.new h (.type "dict")).keeps (pushCells_keeps _ _)
  · intro x hx
    have hx' : kindC env.kindOf scope x = some .local := by rw [← relabel_kind R.kind]; exact hx
    rw [kindC_eq] at hx'
    split
    · rename_i hf; rw [hf] at hx'; simp at hx'; split at hx' <;> cases hx'
    · rfl
  · intro x hx
    have hx' : kindC env.kindOf scope x = some .cell ∨ kindC env.kindOf scope x = some .free := by rw [← relabel_kind R.kind]; exact hx
    rw [kindC_eq] at hx'
    cases hq : scope.names.lookup x with
    | none => rw [hq] at hx'; simp at hx'
    | some k =>
      rw [hq] at hx'
      by_cases hf : k = .free
      · subst hf
        have hm := mem_of_lookup hq
        have hv := hfree _ hm
        simp only [bne_self_eq_false, Bool.false_or, Bool.or_eq_true, beq_iff_eq] at hv
        obtain ⟨c, h1, h2⟩ := R.cell x hv
        refine ⟨c, ?_, ?_⟩
        · show (cellsFrom _ _ _).lookup x = some c
          rw [cellsFrom_app, lookup_app, own_none x (by rw [hq]; simp)]
          simpa using clGo_has h1 scope.names [] (.inl hm)
        · rw [if_pos rfl]; exact h2.keeps keep
      · have hk : k = .cell := by
          have : (k == NameKind.free) = false := by simpa using hf
          simp [this, hf] at hx'
          exact hx'
        subst hk
        obtain ⟨c, hc⟩ := cellsFrom_has scope.names (h.objs.size + 1) x (mem_of_lookup hq)
        obtain ⟨c', hc'⟩ := lookup_some_of_mem hc
        refine ⟨c', ?_, ?_⟩
        · show (cellsFrom _ _ _).lookup x = some c'
          rw [cellsFrom_app, lookup_app, hc']; rfl
        · rw [if_neg (by simp)]
          exact (ok.empty x c' (mem_of_lookup hc')).1
  · intro x y' c h1 h2
    rcases cases_cell x c h1 with e1 | ⟨_, e1⟩ <;> rcases cases_cell y' c h2 with e2 | ⟨_, e2⟩
    · exact name_of_addr ok.apart (mem_of_lookup e1) (mem_of_lookup e2)
    · have := own_ge x c e1; have := outer_lt y' c e2; omega
    · have := own_ge y' c e2; have := outer_lt x c e1; omega
    · exact R.inj x y' c e1 e2
  · intro x c h1 e
    rcases cases_cell x c h1 with e1 | ⟨_, e1⟩
    · have := own_ge x c e1; have e' : @Eq Nat c h.objs.size := e; omega
    · have := outer_lt x c e1; have e' : @Eq Nat c h.objs.size := e; omega
  · intro x c h1
    rcases cases_cell x c h1 with e1 | ⟨_, e1⟩
    · obtain ⟨o, ho, _⟩ := (ok.empty x c (mem_of_lookup e1)).1; exact ⟨o, ho⟩
    · obtain ⟨o, ho⟩ := R.ex x c e1; exact ⟨o, keep _ _ ho⟩
end Mine

namespace Mine
open PySem PySem.SeqAt

theorem compM_snoc (f : D → Option (Option D)) : ∀ (l : List D) (x : D), compM f (l ++ [x]) = (match compM f l, f x with
    | some ds, some (some d) => some (ds ++ [d])
    | some ds, some Option.none => some ds
    | _, _ => Option.none)
  | [], x => by
    simp only [List.nil_append, compM]
    cases f x with
    | none => rfl
    | some o => cases o <;> rfl
  | y :: l, x => by
    rw [List.cons_append, compM, compM, compM_snoc f l x]
    cases f y with
    | none => rfl
    | some o =>
      cases compM f l with
      | none => rfl
      | some ds =>
        cases f x with
        | none => rfl
        | some o' => cases o' <;> cases o <;> rfl
theorem compM_pre {f : D → Option (Option D)} : ∀ {a b : List D} {out : List D}, compM f (a ++ b) = some out → ∃ o, compM f a = some o
  | [], b, out, h => ⟨[], rfl⟩
  | x :: a, b, out, h => by
    rw [List.cons_append, compM] at h
    rw [compM]
    cases hx : f x with
    | none => rw [hx] at h; cases h
    | some o =>
      rw [hx] at h
      cases hab : compM f (a ++ b) with
      | none => rw [hab] at h; cases h
      | some ds =>
        obtain ⟨o', ho'⟩ := compM_pre hab
        rw [ho']
        exact ⟨_, rfl⟩
theorem compM_len {f : D → Option (Option D)} : ∀ {a : List D} {out : List D}, compM f a = some out → out.length ≤ a.length
  | [], out, h => by simp [compM] at h; simp [← h]
  | x :: a, out, h => by
    rw [compM] at h
    cases hx : f x with
    | none => rw [hx] at h; cases h
    | some o =>
      rw [hx] at h
      cases hab : compM f a with
      | none => rw [hab] at h; cases h
      | some ds =>
        rw [hab] at h
        have := compM_len hab
        cases o <;> (cases h; simp; omega)

theorem notSet_folded {e : Expr} {env : Env} (h : notSet e = true) : ∀ x, foldedSetIterable e env x = pure x := by
  intro x
  cases e <;> first | rfl | (cases h)
theorem notSet_marks {e : Expr} {op : CmpOp} (h : notSet e = true) : behindInMarks op e = false := by
  cases e <;> first | rfl | (cases h)

theorem nodup_lookup : ∀ {l : List (Str × NameKind)}, (l.map (·.1)).Nodup → ∀ p ∈ l, l.lookup p.1 = some p.2
  | q :: l, hn, p, hp => by
    simp only [List.map_cons, List.nodup_cons] at hn
    obtain ⟨a, b⟩ := q
    rw [lookup_cons']
    rcases List.mem_cons.mp hp with e | e
    · subst e; simp
    · split
      · rename_i q; exact absurd (List.mem_map_of_mem (f := (·.1)) e) (by rw [q]; exact hn.1)
      · exact nodup_lookup hn.2 p e

section
variable {prog : Program} {w : World} {A : Around} {E : Value → Shared → Prop} {s : Shared} {H : Addr → Prop}

theorem comp_loop {cenv : Env} {m mC0 : Str → Option Value} {free : Str → Prop} {y : Str} {py pos : Pos} {it elt : Expr} {ifs : List Expr} {scope : Scope} {R : Result → Shared → Prop} {its out : List D} {f : D → Option (Option D)}
    {I L : Addr} {fp : List Addr} {P : Nat → Value → Prop} {St : Nat → Heap → Prop} {F : Addr → Prop} {h1 h4 : Heap} {tk4 : Nat}
    (W : Walks prog w A I fp [I] its.length P St) (hfp : ∀ b ∈ fp, b = I ∨ (¬ H b ∧ ∃ o, h1.get? b = some o)) (hP : ∀ i v, i < its.length → P i v → ∃ d, its[i]? = some d ∧ Rep w.params h1 H v d)
    (hky : cenv.kindOf y = some .local ∨ cenv.kindOf y = some .cell) (hyf : ¬ free y)
    (hst : St 0 h4) (hacc : h4.PlainList L #[]) (RC : EnvRep h4 cenv mC0) (hfv : ∀ x, free x → mC0 x = m x)
    (FI : F I) (FL : F L) (FC : F cenv.locals) (Fy : ∀ c, cenv.cells.lookup y = some c → F c)
    (nIL : I ≠ L) (nIC : I ≠ cenv.locals) (nLC : L ≠ cenv.locals) (ncell : ∀ x c, cenv.cells.lookup x = some c → c ≠ L ∧ c ≠ I)
    (Ff : ∀ b, F b → h1.get? b = none) (Fx : ∀ b, F b → b ≠ I → ∃ o, h4.get? b = some o) (IC : @LE.le Nat _ I cenv.locals) (hH : Ex h1 H) (k01 : ∀ b o, s.heap.get? b = some o → h1.get? b = some o) (k14 : ∀ b o, h1.get? b = some o → h4.get? b = some o)
    (hlen : its.length ≤ big) (hout : compM f its = some out)
    (helt : ∀ (s₂ : Shared) (mC : Str → Option Value) (H₂ : Addr → Prop) (v : Value) (dv : D) (r : Option D), dv ∈ its → f dv = some r → EnvRep s₂.heap cenv mC → mC y = some v → Rep w.params s₂.heap H₂ v dv →
      (∀ x, free x → mC x = m x) → Ex s₂.heap H₂ → Keeps s s₂ → (∀ a o, s.heap.get? a = some o → H₂ a → H a) → ∀ E' : Value → Shared → Prop,
      wpAny (model prog w) A (forIn ifs true fun c r => if r = true then do let ok ← isTrue c cenv (eval c cenv); pure (ForInStep.yield ok) else pure (ForInStep.yield r))
        (fun ok s₃ => Keeps s₂ s₃ ∧ ok = r.isSome ∧ ∀ dr, r = some dr → wpAny (model prog w) A (eval elt cenv) (fun v' s₄ => Keeps s₃ s₄ ∧ Rep w.params s₄.heap H₂ v' dr) E' s₃) E' s₂)
    (hR : ∀ h' tk m', h'.Ns cenv.locals m' → OwnL w.params h' (fun b => H b ∨ F b) L out → (∀ b o, s.heap.get? b = some o → h'.get? b = some o) → R (.ok .next) { s with heap := h', toks := tk }) :
    codeAny (model prog w) A (.compLoop (.ListComp elt [⟨.Name y py, it, ifs, 0⟩] scope pos) 0 (.ref I) (.ref L) cenv) R { s with heap := h4, toks := tk4 } := by
  refine codeAny_compLoop_tests
    (fun k s' => ∃ h tk done rest o ys mC, s' = { s with heap := h, toks := tk } ∧ its = done ++ rest ∧ St done.length h ∧ h.PlainList L ys ∧ compM f done = some o ∧ RepAll w.params h (fun b => H b ∨ F b) ys.toList o ∧ EnvRep h cenv mC ∧
      (∀ x, free x → mC x = m x) ∧ (∀ b o, h1.get? b = some o → h.get? b = some o) ∧ (∀ b, F b → b ≠ I → ∃ o, h.get? b = some o) ∧ k = its.length + 1 - done.length) ?_ (its.length + 1)
    ⟨h4, tk4, [], its, [], #[], mC0, rfl, rfl, hst, hacc, rfl, by simpa using RepAll.nil, RC, hfv, k14, Fx, rfl⟩
  rintro k s' ⟨h, tk, done, rest, o, ys, mC, rfl, hits, hst', hacc', ho, hys, RC', hfv', k1h, Fx', rfl⟩
  have hysl : ys.size = o.length := by have := hys.length; simpa using this
  have hol : o.length ≤ done.length := compM_len ho
  have hdl : done.length + rest.length = its.length := by rw [hits]; simp
  cases rest with
  | nil =>
    simp only [List.append_nil] at hits
    subst hits
    rw [hout] at ho; cases ho
    refine W.done _ _ _ hst' fun h' tk' hk' => ?_
    obtain ⟨ml, hns, _⟩ := RC'.loc
    refine hR h' tk' ml (Ns.keepAt hns fun o e => hk' _ o (by simpa using Ne.symm nIC) e) ?_ fun b o e => hk' b o ?_ (k1h b o (k01 b o e))
    · obtain ⟨n, hL⟩ := hacc'
      refine ⟨ys, n, hk' _ _ (by simpa using Ne.symm nIL) hL, Nat.le_trans hol hlen, ?_⟩
      exact hys.mono (fun a o' hn e => hk' a o' (fun q => hn (.inr (by simp at q; rw [q]; exact FI))) e) fun a o' _ q => q.elim id fun q => .inr (q ▸ FL)
    · intro q
      simp at q
      have := Ff I FI
      rw [← q, k01 b o e] at this; cases this
  | cons dv rest' =>
    have hlt : done.length < its.length := by rw [hits]; simp
    refine W.item done.length _ _ _ hlt hst' fun v h₁ tk₁ hPv hst₁ hk₁ => ?_
    obtain ⟨dv', e1, rv⟩ := hP _ v hlt hPv
    have : dv' = dv := by
      rw [hits] at e1
      simpa using e1.symm
    subst this
    have RC₁ : EnvRep h₁ cenv mC := RC'.keepsAt fun a o' ha e => hk₁ a o' (by
      simp only [List.mem_singleton]
      rcases ha with rfl | ⟨x, hx⟩
      · exact Ne.symm nIC
      · exact (ncell x a hx).2) e
    refine wpAny_assign_Name (store_snd (s := { s with heap := h₁, toks := tk₁ }) RC₁ hky fun h₂ tk₂ a RC₂ ha hs₂ => ?_)
    have Fa : F a := ha.elim (fun e => e ▸ FC) fun e => Fy a e
    have aI : a ≠ I := ha.elim (fun e => e ▸ Ne.symm nIC) fun e => (ncell y a e).2
    have aL : a ≠ L := ha.elim (fun e => e ▸ Ne.symm nLC) fun e => (ncell y a e).1
    have nF1 : ∀ b o', h1.get? b = some o' → ¬ F b := fun b o' e q => by have := Ff b q; rw [e] at this; cases this
    have k12 : ∀ b o', h1.get? b = some o' → h₂.get? b = some o' := fun b o' e => (hs₂.2 b (fun q => nF1 b o' e (q ▸ Fa))).trans (hk₁ b o' (by simp only [List.mem_singleton]; rintro rfl; exact nF1 _ _ e FI) (k1h b o' e))
    have hst₂ : St (done.length + 1) h₂ := W.frame _ _ _ hst₁ fun b hb o' e => by
      refine (hs₂.2 b fun q => ?_).trans e
      rcases hfp b hb with e2 | ⟨_, o2, e2⟩
      · exact aI (q ▸ e2)
      · exact nF1 b o2 e2 (q ▸ Fa)
    have Fx₂ : ∀ b, F b → b ≠ I → ∃ o', h₂.get? b = some o' := fun b hb hbI => by
      obtain ⟨o', e⟩ := Fx' b hb hbI
      have e1 := hk₁ b o' (by simpa using hbI) e
      by_cases q : b = a
      · rcases ha with e2 | e2
        · obtain ⟨_, ⟨o2, _, _, e3, _⟩, _⟩ := RC₂.loc
          exact ⟨o2, by rw [q, e2]; exact e3⟩
        · obtain ⟨o2, e3⟩ := RC₂.ex y a e2
          exact ⟨o2, by rw [q]; exact e3⟩
      · exact ⟨o', (hs₂.2 b q).trans e1⟩
    have hmem : dv' ∈ its := by rw [hits]; simp
    have hfd : ∃ r, f dv' = some r ∧ compM f (done ++ [dv']) = some (match r with | some x => o ++ [x] | Option.none => o) := by
      rw [hits, show done ++ dv' :: rest' = (done ++ [dv']) ++ rest' by simp] at hout
      obtain ⟨o', ho'⟩ := compM_pre hout
      have h2 := ho'
      rw [compM_snoc, ho] at ho'
      cases hf : f dv' with
      | none => rw [hf] at ho'; cases ho'
      | some r =>
        refine ⟨r, rfl, ?_⟩
        rw [hf] at ho'
        rw [h2]
        cases r <;> (cases ho'; rfl)
    obtain ⟨r, hfr, hnext⟩ := hfd
    have hH₂ : Ex h₂ (fun b => H b ∨ F b) := fun b hb => hb.elim (fun q => let ⟨b', o', hb', e⟩ := hH b q; ⟨b', o', hb', k12 b' o' e⟩) fun q => by
      by_cases hbI : b = I
      · obtain ⟨o', e⟩ := Fx₂ _ FC (Ne.symm nIC)
        exact ⟨_, o', hbI ▸ IC, e⟩
      · obtain ⟨o', e⟩ := Fx₂ b q hbI
        exact ⟨b, o', Nat.le_refl _, e⟩
    have rv₂ : Rep w.params h₂ (fun b => H b ∨ F b) v dv' := rv.mono (fun b o' _ e => k12 b o' e) fun b o' e q => q.elim id fun q => absurd q (nF1 b o' e)
    refine wpAny_mono (helt { s with heap := h₂, toks := tk₂ } (upd mC y v) (fun b => H b ∨ F b) v dv' r hmem hfr RC₂ (by simp [upd]) rv₂ (fun x hx => by
      have : x ≠ y := fun e => hyf (e ▸ hx)
      simp [upd, this, hfv' x hx]) hH₂ ⟨h₂, tk₂, rfl, fun b o' e => k12 b o' (k01 b o' e)⟩ (fun b o' e q => q.elim id fun q => absurd q (nF1 b o' (k01 b o' e))) _) (fun ok s₃ h₃ => ?_) fun _ _ e => e
    obtain ⟨kp3, rfl, he3⟩ := h₃
    obtain ⟨h₃, tk₃, rfl, k23⟩ := kp3
    have hys₂ : RepAll w.params h₂ (fun b => H b ∨ F b) ys.toList o := hys.mono (fun b o' hn e => (hs₂.2 b fun q => hn (.inr (q ▸ Fa))).trans (hk₁ b o' (by simp only [List.mem_singleton]; rintro rfl; exact hn (.inr FI)) e)) fun _ _ _ q => q
    have hacc₂ : h₂.PlainList L ys := by
      obtain ⟨n, hL⟩ := hacc'
      exact ⟨n, (hs₂.2 L (Ne.symm aL)).trans (hk₁ _ _ (by simpa using Ne.symm nIL) hL)⟩
    have hacc₃ : h₃.PlainList L ys := let ⟨n, hL⟩ := hacc₂; ⟨n, k23 _ _ hL⟩
    cases r with
    | none =>
      simp only [Option.isSome_none, Bool.false_eq_true, if_false]
      refine ⟨its.length + 1 - (done.length + 1), by omega, h₃, tk₃, done ++ [dv'], rest', o, ys, _, rfl, by rw [hits]; simp, ?_, hacc₃, hnext, hys₂.keeps k23, RC₂.keeps k23, ?_, fun b o' e => k23 _ _ (k12 b o' e), fun b hb hbI => let ⟨o', e⟩ := Fx₂ b hb hbI; ⟨o', k23 _ _ e⟩, by simp⟩
      · have := W.frame _ _ h₃ hst₂ fun b _ o' e => k23 b o' e
        simpa using this
      · intro x hx
        have : x ≠ y := fun e => hyf (e ▸ hx)
        simp [upd, this, hfv' x hx]
    | some dr =>
      simp only [Option.isSome_some, if_true]
      refine wpAny_mono (he3 dr rfl) (fun x s₄ h₄ => ?_) fun _ _ e => e
      obtain ⟨⟨h₄, tk₄, rfl, k34⟩, rx⟩ := h₄
      have hacc₄ : h₄.PlainList L ys := let ⟨n, hL⟩ := hacc₃; ⟨n, k34 _ _ hL⟩
      refine wpAny_list_append_plain hacc₄ (fun h₅ hl₅ hs₅ => ?_) (by
        have e9 : big = sizeLine := rfl
        omega)
      have notL : ∀ {b}, ¬ (H b ∨ F b) → b ≠ L := fun hn q => hn (.inr (q ▸ FL))
      refine ⟨its.length + 1 - (done.length + 1), by omega, h₅, tk₄, done ++ [dv'], rest', o ++ [dr], ys.push x, _, rfl, by rw [hits]; simp, ?_, hl₅, hnext, ?_, (RC₂.keeps fun b o' e => k34 _ _ (k23 b o' e)).keepsAt fun b o' hb e => (hs₅.2 b ?_).trans e, ?_, ?_, ?_, by simp⟩
      · have := W.frame _ _ h₅ hst₂ fun b hb o' e => (hs₅.2 b ?_).trans (k34 _ _ (k23 b o' e))
        · simpa using this
        · rcases hfp b hb with e2 | ⟨_, o2, e2⟩
          · rw [e2]; exact nIL
          · rintro rfl; exact nF1 _ _ e2 FL
      · have r1 := (hys₂.keeps k23).keeps k34
        have r2 : RepAll w.params h₄ (fun b => H b ∨ F b) (ys.toList ++ [x]) (o ++ [dr]) := r1.append (.cons rx .nil)
        have r3 := r2.mono (h' := h₅) (H' := fun b => H b ∨ F b) (fun b o' hn e => (hs₅.2 b (notL hn)).trans e) fun _ _ _ q => q
        simpa using r3
      · rcases hb with rfl | ⟨z, hz⟩
        · exact Ne.symm nLC
        · exact (ncell z b hz).1
      · intro z hz
        have : z ≠ y := fun e => hyf (e ▸ hz)
        simp [upd, this, hfv' z hz]
      · exact fun b o' e => (hs₅.2 b (fun q => nF1 b o' e (q ▸ FL))).trans (k34 _ _ (k23 _ _ (k12 b o' e)))
      · intro b hb hbI
        by_cases q : b = L
        · obtain ⟨n, hL⟩ := hl₅; exact ⟨_, q ▸ hL⟩
        · obtain ⟨o', e⟩ := Fx₂ b hb hbI
          exact ⟨o', (hs₅.2 b q).trans (k34 _ _ (k23 _ _ e))⟩

theorem comp_core {env : Env} {m : Str → Option Value} {scope : Scope} {y : Str} {py pos ppos : Pos} {it elt : Expr} {ifs : List Expr} {use : Option (Value → Sem Unit)} {Q : Value → Shared → Prop} {d : D} {its out : List D} {f : D → Option (Option D)}
    (R : EnvRep s.heap env m) (hok : okScope env.kindOf scope y = true) (hset : notSet it = true) (hh : A.handled = none) (hH : Ex s.heap H)
    (hit : wpAny (model prog w) A (eval it env) (Post w s H d) E s) (hits : d.items = some its) (hlen : its.length ≤ big) (hout : compM f its = some out)
    (helt : ∀ (s₂ : Shared) (cenv : Env) (mC : Str → Option Value) (H₂ : Addr → Prop) (v : Value) (dv : D) (r : Option D), dv ∈ its → f dv = some r → cenv.kindOf = kindC env.kindOf scope → EnvRep s₂.heap cenv mC → mC y = some v → Rep w.params s₂.heap H₂ v dv →
      (∀ x, scope.names.lookup x = some .free → mC x = m x) → Ex s₂.heap H₂ → Keeps s s₂ → (∀ a o, s.heap.get? a = some o → H₂ a → H a) → ∀ E' : Value → Shared → Prop,
      wpAny (model prog w) A (forIn ifs true fun c r => if r = true then do let ok ← isTrue c cenv (eval c cenv); pure (ForInStep.yield ok) else pure (ForInStep.yield r))
        (fun ok s₃ => Keeps s₂ s₃ ∧ ok = r.isSome ∧ ∀ dr, r = some dr → wpAny (model prog w) A (eval elt cenv) (fun v' s₄ => Keeps s₃ s₄ ∧ Rep w.params s₄.heap H₂ v' dr) E' s₃) E' s₂)
    (hQ : ∀ L C h' tk m', (∀ b o, s.heap.get? b = some o → @LT.lt Nat _ b L) → s.heap.get? C = none → L ≠ C → h'.Ns C m' → OwnL w.params h' (fun b => H b ∨ b = C) L out → (∀ b o, s.heap.get? b = some o → h'.get? b = some o) →
      compPost (model prog w) A E use Q (.ref L) C (.ok .next) { s with heap := h', toks := tk }) :
    wpAny (model prog w) A (comprehension (.ListComp elt [⟨.Name y py, it, ifs, 0⟩] scope pos) scope env ppos (newList []) false (eval it env) use) Q E s := by
  have hok' := hok
  unfold okScope at hok'
  simp only [Bool.and_eq_true, decide_eq_true_eq, beq_iff_eq, List.all_eq_true, Bool.or_eq_true] at hok'
  obtain ⟨⟨⟨⟨hkind, hnodup⟩, hy⟩, hfree⟩, _⟩ := hok'
  refine wpAny_comprehension_free (cl := clGo env.cells scope.names []) rfl (notSet_folded hset) (closureFor_go fun p hp hf => ?_) hkind (fun x hx hl => by rw [nodup_lookup hnodup x hx, hl]) ?_
  · have hv := hfree p hp
    simp only [hf, bne_self_eq_false, Bool.false_eq_true, false_or] at hv
    obtain ⟨c, h1, _⟩ := R.cell p.1 hv
    exact ⟨c, h1⟩
  refine wpAny_mono hit (fun xv s₁ h₁ => ?_) fun _ _ e => e
  obtain ⟨k1, rep1⟩ := h₁
  have hiter := iter_snd (prog := prog) (E := E) rep1 hh hits
  refine wpAny_mono hiter (fun itv s₂ h₂ => ?_) fun _ _ e => e
  obtain ⟨I, rfl, IA⟩ := h₂
  obtain ⟨fp, P, St, W, hst, hfp, hP, _⟩ := IA.walk
  refine wpAny_newObj_type (newEnvA ?_)
  dsimp only
  obtain ⟨h2, tk2, rfl, k12⟩ := IA.keeps
  obtain ⟨h1, tk1, rfl, k01⟩ := k1
  dsimp only at k12 k01 ⊢
  generalize hh3 : h2.push { cls := .type "list", dict := none, data := .seq ([] : List Value).toArray } = h3
  have R3 : EnvRep h3 env m := (R.keeps k01).keeps fun b o e => hh3 ▸ Heap.get?_push_of_some _ (k12 b o e)
  have RC := compEnv_rep (y := y) R3 hok
  have size3 : h3.objs.size = h2.objs.size + 1 := by rw [← hh3, Heap.size_push]
  obtain ⟨oI, hI⟩ := IA.ex
  dsimp only at hI
  have I_lt : @LT.lt Nat _ I h2.objs.size := Heap.lt_size hI
  have ok := cells_facts h3 scope { cls := .type "dict", data := .dict #[] }
  have k34 : ∀ b o, h3.get? b = some o → (pushCells (h3.push { cls := .type "dict", data := .dict #[] }) scope.names).get? b = some o := fun b o e => pushCells_keeps _ _ b o (Heap.get?_push_of_some _ e)
  have k23 : ∀ b o, h2.get? b = some o → h3.get? b = some o := fun b o e => hh3 ▸ Heap.get?_push_of_some _ e
  have hL3 : h3.get? h2.objs.size = some (lstO #[] 0) := by rw [← hh3]; exact Heap.get?_push_size _ rfl
  have lt1 : ∀ b o, h1.get? b = some o → @LT.lt Nat _ b h2.objs.size := fun b o e => Heap.lt_size (k12 b o e)
  have own_ge : ∀ x c, (x, c) ∈ cellsFrom (h3.objs.size + 1) scope.names [] → @LE.le Nat _ (h3.objs.size + 1) c := fun x c hc => (ok.empty x c hc).2
  have cellb : ∀ x c, (cellsFrom (h3.objs.size + 1) scope.names (clGo env.cells scope.names [])).lookup x = some c → (x, c) ∈ cellsFrom (h3.objs.size + 1) scope.names [] ∨ (∃ o, h1.get? c = some o ∧ True) := by
    intro x c hc
    rw [cellsFrom_app, lookup_app] at hc
    cases hq : (cellsFrom (h3.objs.size + 1) scope.names []).lookup x with
    | some c' => rw [hq] at hc; simp at hc; exact .inl (hc ▸ mem_of_lookup hq)
    | none =>
      rw [hq] at hc
      simp only [Option.none_or] at hc
      obtain ⟨o, ho⟩ := R.ex x c (clGo_sound _ _ (fun _ _ e => by simp at e) x c hc)
      exact .inr ⟨o, k01 _ _ ho, trivial⟩
  have hcellfacts : ∀ x c, (cellsFrom (h3.objs.size + 1) scope.names (clGo env.cells scope.names [])).lookup x = some c → c ≠ h2.objs.size ∧ c ≠ I := by
    intro x c hc
    rcases cellb x c hc with e | ⟨o, e, _⟩
    · have := own_ge x c e
      constructor
      · rintro rfl; omega
      · rintro rfl; omega
    · have := lt1 c o e
      constructor
      · rintro rfl; exact Nat.lt_irrefl _ this
      · rintro rfl; have := IA.fresh; dsimp only at this; rw [e] at this; cases this
  have nIC : I ≠ h3.objs.size := by rintro rfl; omega
  have nLC : h2.objs.size ≠ h3.objs.size := by omega
  have nIL : I ≠ h2.objs.size := by rintro rfl; exact Nat.lt_irrefl _ I_lt
  have hkC : (fun x => (relabel scope env).names.lookup x) = kindC env.kindOf scope := relabel_kind R.kind
  have ynf : scope.names.lookup y ≠ some .free := by rcases hy with e | e <;> (rw [e]; simp)
  have none_of : ∀ b, (∀ o, h1.get? b ≠ some o) → h1.get? b = none := fun b hb => by
    cases e : h1.get? b with
    | none => rfl
    | some o => exact absurd e (hb o)
  have loop : ∀ tk4, codeAny (model prog w) A (.compLoop (.ListComp elt [⟨.Name y py, it, ifs, 0⟩] scope pos) 0 (.ref I) (.ref h2.objs.size)
      { scope := relabel scope env, locals := h3.objs.size, globals := env.globals, cells := cellsFrom (h3.objs.size + 1) scope.names (clGo env.cells scope.names []), qual := env.qual, func := none, code := env.code, frame := env.frame, builtins := env.builtins })
      (compPost (model prog w) A E use Q (.ref h2.objs.size) h3.objs.size) { s with heap := pushCells (h3.push { cls := .type "dict", data := .dict #[] }) scope.names, toks := tk4 } := by
    intro tk4
    refine comp_loop (s := s) (H := H) (m := m) (free := fun x => scope.names.lookup x = some .free) (F := fun b => b = I ∨ b = h2.objs.size ∨ b = h3.objs.size ∨ ∃ x, (x, b) ∈ cellsFrom (h3.objs.size + 1) scope.names []) (h1 := h1) (mC0 := fun x => if scope.names.lookup x = some .free then m x else none)
      W hfp hP ?_ ynf ?_ ?_ RC (fun x hx => by simp [hx]) (.inl rfl) (.inr (.inl rfl)) (.inr (.inr (.inl rfl))) ?_ nIL nIC nLC hcellfacts ?_ ?_ (by show @LE.le Nat _ I h3.objs.size; omega) (hH.keeps k01) k01 (fun b o e => k34 b o (k23 b o (k12 b o e))) hlen hout ?_ ?_
    · show (fun x => (relabel scope env).names.lookup x) y = _ ∨ (fun x => (relabel scope env).names.lookup x) y = _
      rw [hkC, kindC_eq]
      rcases hy with e | e
      · exact .inl (by rw [e]; rfl)
      · exact .inr (by rw [e]; rfl)
    · refine W.frame _ _ _ hst fun b _ o e => k34 b o (k23 b o e)
    · exact ⟨0, k34 _ _ hL3⟩
    · intro c hc
      rcases cellb y c hc with e | ⟨o, e, _⟩
      · exact .inr (.inr (.inr ⟨y, e⟩))
      · exfalso
        have hc' : (cellsFrom (h3.objs.size + 1) scope.names (clGo env.cells scope.names [])).lookup y = some c := hc
        rw [cellsFrom_app, lookup_app] at hc'
        have hym : scope.names.lookup y = some .cell := by
          rcases hy with e1 | e1
          · exfalso
            have hno : (cellsFrom (h3.objs.size + 1) scope.names []).lookup y = none := by
              cases hq : (cellsFrom (h3.objs.size + 1) scope.names []).lookup y with
              | none => rfl
              | some c' =>
                have h5 := (cellsFrom_mem _ _ _ _ (mem_of_lookup hq)).1
                have h6 := nodup_lookup hnodup _ h5
                simp only at h6
                rw [e1] at h6; cases h6
            rw [hno] at hc'
            simp only [Option.none_or] at hc'
            rcases clGo_mem _ _ _ _ hc' with q | q
            · have h6 := nodup_lookup hnodup _ q
              simp only at h6
              rw [e1] at h6; cases h6
            · simp at q
          · exact e1
        obtain ⟨c2, hc2⟩ := cellsFrom_has scope.names (h3.objs.size + 1) y (mem_of_lookup hym)
        obtain ⟨c3, hc3⟩ := lookup_some_of_mem hc2
        rw [hc3] at hc'
        simp at hc'
        subst hc'
        have := own_ge y c3 (mem_of_lookup hc3)
        have := lt1 c3 o e
        omega
    · intro b hb
      refine none_of b fun o e => ?_
      have := lt1 b o e
      rcases hb with rfl | rfl | rfl | ⟨x, hx⟩
      · have := IA.fresh; dsimp only at this; rw [e] at this; cases this
      · exact Nat.lt_irrefl _ this
      · omega
      · have := own_ge x b hx; omega
    · intro b hb hbI
      rcases hb with rfl | rfl | rfl | ⟨x, hx⟩
      · exact absurd rfl hbI
      · exact ⟨_, k34 _ _ hL3⟩
      · obtain ⟨_, ⟨o, _, _, e, _⟩, _⟩ := RC.loc
        exact ⟨o, e⟩
      · obtain ⟨o, e, _⟩ := (ok.empty x b hx).1
        exact ⟨o, e⟩
    · intro s₂ mC H₂ v dv r hm hf RC' hv rv hfv hx kp hsub E'
      refine helt s₂ _ mC H₂ v dv r hm hf ?_ RC' hv rv hfv hx kp hsub E'
      exact hkC
    · intro h' tk m' hns hown hk
      refine hQ h2.objs.size h3.objs.size h' tk m' ?_ ?_ nLC hns ?_ hk
      · exact fun b o e => lt1 _ o (k01 _ o e)
      · cases e : s.heap.get? h3.objs.size with
        | none => rfl
        | some o => have := lt1 _ o (k01 _ o e); omega
      · obtain ⟨vs, n, q1, q2, q3⟩ := hown
        exact ⟨vs, n, q1, q2, q3.mono (fun _ _ _ e => e) fun a o _ q => q.elim (fun q => q.elim (fun q => .inl (.inl q)) fun q => .inl (.inr (.inr (.inr (.inl q))))) fun q => .inr q⟩
  refine codeAny_compStart_list (loop _) (W.self 0 _ _ _ ?_ (loop _))
  exact W.frame _ _ _ hst fun b _ o e => k34 b o (k23 b o e)
end
end Mine

namespace Mine
open PySem PySem.SeqAt

noncomputable def bltNames : List String := ["len", "isinstance", "range", "tuple", "int", "str", "list", "bool", "set", "sum", "max", "min", "sorted"]

structure GOk (mg mb : Str → Option Value) (h : Heap) : Prop where
  g : h.Ns mainGlobals mg
  b : h.Ns builtinsNs mb
  lim : h.NoLimit
  blt : ∀ f ∈ bltNames, mg (Str.ofString f) = none ∧ mb (Str.ofString f) = some (bltVal f)

/-- the heap bears the base; the places in H are laid, and none of the base's -/
structure HOk (base h : Heap) (H : Addr → Prop) : Prop where
  keep : ∀ b o, base.get? b = some o → h.get? b = some o
  ex : Ex h H
  off : ∀ b o, base.get? b = some o → ¬ H b
theorem HOk.keeps {base h h' : Heap} {H : Addr → Prop} (x : HOk base h H) (hk : ∀ a o, h.get? a = some o → h'.get? a = some o) : HOk base h' H :=
  ⟨fun b o e => hk b o (x.keep b o e), x.ex.keeps hk, x.off⟩

structure CSound (prog : Program) (w : World) (base : Heap) (mg : Str → Option Value) (cf : CF) (A : Around) : Prop where
  call : ∀ f ds d fr, cf.call f ds = some (d, fr) → ∃ a o fd, mg (Str.ofString f) = some (.ref a) ∧ base.get? a = some o ∧ o.data = .func fd ∧
    ∀ (s : Shared) (H : Addr → Prop) (vs : List Value) (E : Value → Shared → Prop), HOk base s.heap H → RepAll w.params s.heap H vs ds →
      wpAny (model prog w) A (PySem.call (.ref a) vs) (PostF w s H d fr) E s
  glob : ∀ x d, cf.glob x = some d → ∃ v, mg (Str.ofString x) = some v ∧ Rep w.params base (fun _ => False) v d

/-- what is known of the variables that are read -/
noncomputable def NV (P : Params) (k : KD) (ns : List String) (ρ : List (String × D)) (m : Str → Option Value) (h : Heap) (H : Addr → Prop) : Prop :=
  ∀ x ∈ ns, isVar k (Str.ofString x) = true → ∀ d, ρ.lookup x = some d → ∃ v, m (Str.ofString x) = some v ∧ Rep P h H v d
theorem NV.sub {P : Params} {k : KD} {ns ns' : List String} {ρ : List (String × D)} {m : Str → Option Value} {h : Heap} {H : Addr → Prop} (n : NV P k ns ρ m h H) (hs : ∀ x ∈ ns', x ∈ ns) : NV P k ns' ρ m h H :=
  fun x hx => n x (hs x hx)
theorem NV.keeps {P : Params} {k : KD} {ns : List String} {ρ : List (String × D)} {m : Str → Option Value} {h h' : Heap} {H : Addr → Prop} (n : NV P k ns ρ m h H) (hk : ∀ a o, h.get? a = some o → h'.get? a = some o) : NV P k ns ρ m h' H :=
  fun x hx hv d hd => let ⟨v, h1, h2⟩ := n x hx hv d hd; ⟨v, h1, h2.keeps hk⟩

section
variable {prog : Program} {w : World} {A : Around} {s : Shared} {base : Heap} {mg mb : Str → Option Value} {cf : CF}

/-- a run of an expression is sound -/
noncomputable def SE (prog : Program) (w : World) (A : Around) (base : Heap) (cf : CF) (me : ME) : Prop :=
  ∀ (s : Shared) (env : Env) (e : Expr) (H : Addr → Prop) (ρ : List (String × D)) (m : Str → Option Value) (d : D) (E : Value → Shared → Prop), chkE env.kindOf e me = true → EnvRep s.heap env m →
    HOk base s.heap H → NV w.params env.kindOf me.names ρ m s.heap H → evE cf ρ me = some d → wpAny (model prog w) A (eval e env) (Post w s H d) E s
noncomputable def SEs (prog : Program) (w : World) (A : Around) (base : Heap) (cf : CF) (ms : List ME) : Prop :=
  ∀ (s : Shared) (env : Env) (es : List Expr) (H : Addr → Prop) (ρ : List (String × D)) (m : Str → Option Value) (ds : List D) (E : Value → Shared → Prop), chkEs env.kindOf es ms = true → EnvRep s.heap env m →
    HOk base s.heap H → NV w.params env.kindOf (namesL ms) ρ m s.heap H → evEs cf ρ ms = some ds →
    wpAny (model prog w) A (spliced (es.map fun e => (false, eval e env))) (fun vs s' => Keeps s s' ∧ RepAll w.params s'.heap H vs ds) E s
noncomputable def ST (prog : Program) (w : World) (A : Around) (base : Heap) (cf : CF) (me : ME) : Prop :=
  ∀ (s : Shared) (env : Env) (e : Expr) (H : Addr → Prop) (ρ : List (String × D)) (m : Str → Option Value) (d : D) (t : Bool) (E : Value → Shared → Prop), chkE env.kindOf e me = true → EnvRep s.heap env m →
    HOk base s.heap H → NV w.params env.kindOf me.names ρ m s.heap H → evE cf ρ me = some d → truth d = some t →
    wpAny (model prog w) A (isTrue e env (eval e env)) (fun b s' => Keeps s s' ∧ b = t) E s
noncomputable def SB (prog : Program) (w : World) (A : Around) (base : Heap) (cf : CF) (ms : List ME) : Prop :=
  ∀ (s : Shared) (env : Env) (es : List Expr) (op : BoolOp) (pos : Pos) (H : Addr → Prop) (ρ : List (String × D)) (m : Str → Option Value) (d : D) (E : Value → Shared → Prop), chkEs env.kindOf es ms = true → EnvRep s.heap env m →
    HOk base s.heap H → NV w.params env.kindOf (namesL ms) ρ m s.heap H → evBop cf ρ op ms = some d →
    wpAny (model prog w) A (eval (.BoolOp op es pos) env) (Post w s H d) E s ∧ ∀ t whole, truth d = some t → wpAny (model prog w) A (isTrue (.BoolOp op es pos) env whole) (fun b s' => Keeps s s' ∧ b = t) E s
noncomputable def SC (prog : Program) (w : World) (A : Around) (base : Heap) (cf : CF) (ms : List ME) : Prop :=
  ∀ (s : Shared) (env : Env) (es : List Expr) (H : Addr → Prop) (ρ : List (String × D)) (m : Str → Option Value) (t : Bool) (E : Value → Shared → Prop), chkEs env.kindOf es ms = true → EnvRep s.heap env m →
    HOk base s.heap H → NV w.params env.kindOf (namesL ms) ρ m s.heap H → evCs cf ρ ms = some t →
    wpAny (model prog w) A (forIn es true fun c r => if r = true then do let ok ← isTrue c env (eval c env); pure (ForInStep.yield ok) else pure (ForInStep.yield r)) (fun b s' => Keeps s s' ∧ b = t) E s

/-! leaves -/
theorem se_var (x : String) : SE prog w A base cf (.var x) := by
  intro s env e H ρ m d E hc R hb hn he
  replace hc := inv_var hc; obtain ⟨_, _, rfl, hc⟩ := hc
  · simp only [Bool.and_eq_true, beq_iff_eq] at hc
    obtain ⟨rfl, hv⟩ := hc
    simp only [evE] at he
    obtain ⟨v, h1, h2⟩ := hn x (by simp [ME.names]) hv d he
    exact load_snd R hv h1 ⟨Kp.refl _, h2⟩
theorem se_glob (G : GOk mg mb base) (C : CSound prog w base mg cf A) (x : String) : SE prog w A base cf (.glob x) := by
  intro s env e H ρ m d E hc R hb hn he
  replace hc := inv_glob hc; obtain ⟨_, _, rfl, hc⟩ := hc
  · simp only [Bool.and_eq_true, beq_iff_eq, isGlob, bne_iff_ne] at hc
    obtain ⟨rfl, hv, hd⟩ := hc
    simp only [evE] at he
    obtain ⟨v, h1, h2⟩ := C.glob x d he
    refine Calls.Name_function_global R.kind hv (Calls.loadGlobal_global (mg := mg) (by rw [R.glob]; exact G.g.keeps hb.keep) h1 ⟨Kp.refl _, ?_⟩) (by simpa using hd)
    exact h2.mono (fun a o _ e => hb.keep a o e) fun a o e q => absurd q (hb.off a o e)
theorem se_int (i : Int) : SE prog w A base cf (.int i) := by
  intro s env e H ρ m d E hc R hb hn he
  replace hc := inv_int hc; obtain ⟨_, _, rfl⟩ := hc
  · simp only [evE] at he; cases he
    exact wpAny_Constant_int ⟨Kp.tok _ _, .int _ _⟩
theorem se_str (x : String) : SE prog w A base cf (.str x) := by
  intro s env e H ρ m d E hc R hb hn he
  replace hc := inv_str hc; obtain ⟨_, _, rfl⟩ := hc
  · simp only [evE] at he; cases he
    exact Calls.Constant_str ⟨Kp.tok _ _, .str _ _⟩
theorem se_bool (b : Bool) : SE prog w A base cf (.bool b) := by
  intro s env e H ρ m d E hc R hb hn he
  replace hc := inv_bool hc; obtain ⟨_, _, rfl⟩ := hc
  · simp only [evE] at he; cases he
    exact PyProof.Rows.Constant_bool ⟨Kp.refl _, .bool _⟩
theorem se_none : SE prog w A base cf .none := by
  intro s env e H ρ m d E hc R hb hn he
  replace hc := inv_none hc; obtain ⟨_, _, rfl⟩ := hc
  · simp only [evE] at he; cases he
    exact PyProof.Rows.Constant_none ⟨Kp.refl _, .none⟩

theorem spliced_ok {es : List Expr} {ms : List ME} {k : KD} (hc : chkEs k es ms = true) (env : Env) : starEach es env = es.map fun e => (false, eval e env) := by
  induction ms generalizing es with
  | nil => cases es with
    | nil => rfl
    | cons _ _ => simp [chkEs] at hc
  | cons a r ih => cases es with
    | nil => simp [chkEs] at hc
    | cons e es' =>
      simp only [chkEs, Bool.and_eq_true] at hc
      have he : ∀ x p, e ≠ .Starred x p := by
        rintro x p rfl
        have := chk_shape hc.1
        cases a <;> cases this
      have : starEach (e :: es') env = (false, eval e env) :: starEach es' env := by
        cases e <;> first | rfl | exact absurd rfl (he _ _)
      rw [this, ih hc.2]; rfl
theorem backTo_ok (pos : Pos) (es : List Expr) (env : Env) : backTo pos (es.map fun e => (false, eval e env)) = es.map fun e => (false, eval e env) := by
  unfold backTo
  rw [List.map_map]
  rfl

/-! nodes -/
noncomputable def SF (prog : Program) (w : World) (A : Around) (base : Heap) (cf : CF) (me : ME) : Prop :=
  ∀ (s : Shared) (env : Env) (e : Expr) (H : Addr → Prop) (ρ : List (String × D)) (m : Str → Option Value) (d : D) (fr : Bool) (E : Value → Shared → Prop), chkE env.kindOf e me = true → EnvRep s.heap env m →
    HOk base s.heap H → NV w.params env.kindOf me.names ρ m s.heap H → evF cf ρ me = some (d, fr) → wpAny (model prog w) A (eval e env) (PostF w s H d fr) E s
theorem sf_bin {op : Operator} {a b : ME} (ha : SE prog w A base cf a) (hb : SE prog w A base cf b) : SF prog w A base cf (.bin op a b) := by
  intro s env e H ρ m d fr E hc R hw hn he
  replace hc := inv_bin hc; obtain ⟨_, _, _, _, rfl, hc⟩ := hc
  · simp only [Bool.and_eq_true, beq_iff_eq] at hc
    obtain ⟨⟨rfl, h1⟩, h2⟩ := hc
    simp only [evF_bin, evE, Option.map_eq_some_iff] at he
    obtain ⟨d', he, e'⟩ := he
    cases e'
    split at he
    · rename_i x hx
      split at he
      · rename_i y hy
        refine wpAny_BinOp (wpAny_mono (ha s env _ H ρ m x E h1 R hw (hn.sub fun _ hx => List.mem_append_left _ hx) hx) (fun v s₁ q₁ => ?_) fun _ _ e => e)
        refine wpAny_mono (hb s₁ env _ H ρ m y E h2 (R.keeps (Kp.heap q₁.1)) (hw.keeps (Kp.heap q₁.1)) ((hn.keeps (Kp.heap q₁.1)).sub fun _ hx => List.mem_append_right _ hx) hy) (fun v₂ s₂ q₂ => ?_) fun _ _ e => e
        exact wpAny_mono (bin_snd (q₁.2.keeps (Kp.heap q₂.1)) q₂.2 ((hw.keeps (Kp.heap q₁.1)).keeps (Kp.heap q₂.1)).ex he) (fun v₃ s₃ q₃ => q₃.after (Kp.trans q₁.1 q₂.1)) fun _ _ e => e
      · cases he
    · cases he

theorem se_cmp {op : CmpOp} {a b : ME} (hu : A.units + 1 < cLine) (ha : SE prog w A base cf a) (hb : SE prog w A base cf b) : SE prog w A base cf (.cmp op a b) := by
  intro s env e H ρ m d E hc R hw hn he
  replace hc := inv_cmp hc; obtain ⟨_, _, _, rfl, hc⟩ := hc
  · simp only [Bool.and_eq_true, beq_iff_eq] at hc
    obtain ⟨⟨hs, h1⟩, h2⟩ := hc
    simp only [evE] at he
    split at he
    · rename_i x hx
      split at he
      · rename_i y hy
        refine wpAny_Compare1 (wpAny_mono (ha s env _ H ρ m x E h1 R hw (hn.sub fun _ hx => List.mem_append_left _ hx) hx) (fun v s₁ q₁ => ?_) fun _ _ e => e) (notSet_marks hs)
        refine wpAny_mono (hb s₁ env _ H ρ m y E h2 (R.keeps (Kp.heap q₁.1)) (hw.keeps (Kp.heap q₁.1)) ((hn.keeps (Kp.heap q₁.1)).sub fun _ hx => List.mem_append_right _ hx) hy) (fun v₂ s₂ q₂ => ?_) fun _ _ e => e
        refine wpAny_mono (cmp_snd (q₁.2.keeps (Kp.heap q₂.1)) q₂.2 hu he) (fun v₃ s₃ q₃ => ⟨Kp.trans (Kp.trans q₁.1 q₂.1) q₃.1, q₃.2⟩) fun _ _ e => e
      · cases he
    · cases he
theorem st_cmp {op : CmpOp} {a b : ME} (hu : A.units + 1 < cLine) (ha : SE prog w A base cf a) (hb : SE prog w A base cf b) : ST prog w A base cf (.cmp op a b) := by
  intro s env e H ρ m d t E hc R hw hn he ht
  replace hc := inv_cmp hc; obtain ⟨_, _, _, rfl, hc⟩ := hc
  · simp only [Bool.and_eq_true, beq_iff_eq] at hc
    obtain ⟨⟨hs, h1⟩, h2⟩ := hc
    simp only [evE] at he
    split at he
    · rename_i x hx
      split at he
      · rename_i y hy
        refine wpAny_isTrue_Compare1 (wpAny_mono (ha s env _ H ρ m x E h1 R hw (hn.sub fun _ hx => List.mem_append_left _ hx) hx) (fun v s₁ q₁ => ?_) fun _ _ e => e) (notSet_marks hs)
        refine wpAny_mono (hb s₁ env _ H ρ m y E h2 (R.keeps (Kp.heap q₁.1)) (hw.keeps (Kp.heap q₁.1)) ((hn.keeps (Kp.heap q₁.1)).sub fun _ hx => List.mem_append_right _ hx) hy) (fun v₂ s₂ q₂ => ?_) fun _ _ e => e
        refine wpAny_mono (cmp_snd (q₁.2.keeps (Kp.heap q₂.1)) q₂.2 hu he) (fun v₃ s₃ q₃ => ?_) fun _ _ e => e
        exact wpAny_mono (truth_snd q₃.2 ht) (fun b s₄ q₄ => ⟨Kp.trans (Kp.trans (Kp.trans q₁.1 q₂.1) q₃.1) q₄.1, q₄.2⟩) fun _ _ e => e
      · cases he
    · cases he
theorem se_not {a : ME} (ha : SE prog w A base cf a) : SE prog w A base cf (.not a) := by
  intro s env e H ρ m d E hc R hw hn he
  replace hc := inv_not hc; obtain ⟨_, _, rfl, hc⟩ := hc
  · simp only [evE] at he
    split at he
    · rename_i x hx
      simp only [Option.map_eq_some_iff] at he
      obtain ⟨t, ht, rfl⟩ := he
      refine PyProof.Rows.UnaryOp_ (wpAny_mono (ha s env _ H ρ m x E hc R hw hn hx) (fun v s₁ q₁ => ?_) fun _ _ e => e)
      exact PyProof.Rows.not_of (wpAny_mono (truth_snd q₁.2 ht) (fun b s₂ q₂ => ⟨Kp.trans q₁.1 q₂.1, q₂.2 ▸ .bool _⟩) fun _ _ e => e)
    · cases he
theorem st_not {a : ME} (ha : ST prog w A base cf a) : ST prog w A base cf (.not a) := by
  intro s env e H ρ m d t E hc R hw hn he ht
  replace hc := inv_not hc; obtain ⟨_, _, rfl, hc⟩ := hc
  · simp only [evE] at he
    split at he
    · rename_i x hx
      simp only [Option.map_eq_some_iff] at he
      obtain ⟨t', ht', rfl⟩ := he
      cases ht
      exact PyProof.Rows.isTrue_not (wpAny_mono (ha s env _ H ρ m x t' E hc R hw hn hx ht') (fun b s₂ q₂ => ⟨q₂.1, by rw [q₂.2]⟩) fun _ _ e => e)
    · cases he
theorem se_neg {a : ME} (ha : SE prog w A base cf a) : SE prog w A base cf (.neg a) := by
  intro s env e H ρ m d E hc R hw hn he
  replace hc := inv_neg hc; obtain ⟨_, _, rfl, hc⟩ := hc
  · simp only [evE] at he
    split at he
    · rename_i i hx
      cases he
      refine PyProof.Rows.UnaryOp_ (wpAny_mono (ha s env _ H ρ m _ E hc R hw hn hx) (fun v s₁ q₁ => ?_) fun _ _ e => e)
      obtain ⟨k, r⟩ := q₁
      cases r
      exact PyProof.Rows.neg_int ⟨Kp.trans k (Kp.tok _ _), .int _ _⟩
    · cases he
theorem ses_nil : SEs prog w A base cf [] := by
  intro s env es H ρ m ds E hc R hw hn he
  cases es with
  | nil => simp only [evEs] at he; cases he; exact Calls.spliced_nil ⟨Kp.refl _, .nil⟩
  | cons _ _ => simp [chkEs] at hc
theorem ses_cons {a : ME} {r : List ME} (ha : SE prog w A base cf a) (hr : SEs prog w A base cf r) : SEs prog w A base cf (a :: r) := by
  intro s env es H ρ m ds E hc R hw hn he
  cases es with
  | nil => simp [chkEs] at hc
  | cons e es' =>
    simp only [chkEs, Bool.and_eq_true] at hc
    simp only [evEs] at he
    split at he
    · rename_i x hx
      split at he
      · rename_i xs hxs
        cases he
        refine Calls.spliced_cons (wpAny_mono (ha s env _ H ρ m x E hc.1 R hw (hn.sub fun _ hx => List.mem_append_left _ hx) hx) (fun v s₁ q₁ => ?_) fun _ _ e => e)
        refine wpAny_mono (hr s₁ env _ H ρ m xs E hc.2 (R.keeps (Kp.heap q₁.1)) (hw.keeps (Kp.heap q₁.1)) ((hn.keeps (Kp.heap q₁.1)).sub fun _ hx => List.mem_append_right _ hx) hxs) (fun vs s₂ q₂ => ?_) fun _ _ e => e
        exact ⟨Kp.trans q₁.1 q₂.1, .cons (q₁.2.keeps (Kp.heap q₂.1)) q₂.2⟩
      · cases he
    · cases he
theorem se_tup {ms : List ME} (hr : SEs prog w A base cf ms) : SE prog w A base cf (.tup ms) := by
  intro s env e H ρ m d E hc R hw hn he
  replace hc := inv_tup hc; obtain ⟨_, _, _, rfl, hc⟩ := hc
  · simp only [evE] at he
    split at he
    · rename_i ds hds
      split at he
      · rename_i hl; cases he
        refine PyProof.Rows.Tuple_ ?_
        rw [spliced_ok hc, backTo_ok]
        refine wpAny_mono (hr s env _ H ρ m ds E hc R hw hn hds) (fun vs s₁ q₁ => ?_) fun _ _ e => e
        have e := q₁.2.length
        refine wpAny_newObj_type ⟨Kp.trans q₁.1 (Kp.push _ _), ?_⟩ (by show vs.toArray.size ≤ sizeLine; rw [List.size_toArray, e]; exact hl)
        exact rep_newTup (hw.keeps (Kp.heap q₁.1)).ex hl (by simpa using q₁.2)
      · cases he
    · cases he
/-- a new list -/
theorem sf_lst {ms : List ME} (hr : SEs prog w A base cf ms) : SF prog w A base cf (.lst ms) := by
  intro s env e H ρ m d fr E hc R hw hn he
  replace hc := inv_lst hc; obtain ⟨_, _, rfl, hc⟩ := hc
  · simp only [evF_lst, evE, Option.map_eq_some_iff] at he
    obtain ⟨d', he, e'⟩ := he
    cases e'
    split at he
    · rename_i ds hds
      split at he
      · rename_i hl; cases he
        refine PyProof.Rows.List_ ?_
        rw [spliced_ok hc, backTo_ok]
        refine wpAny_mono (hr s env _ H ρ m ds E hc R hw hn hds) (fun vs s₁ q₁ => ?_) fun _ _ e => e
        have e := q₁.2.length
        have hx := (hw.keeps (Kp.heap q₁.1)).ex
        have own : OwnL w.params (s₁.heap.push (lstO vs.toArray 0)) H s₁.heap.objs.size ds := by
          refine ⟨vs.toArray, 0, Heap.get?_push_size _ rfl, hl, ?_⟩
          have r : RepAll w.params s₁.heap H vs.toArray.toList ds := by simpa using q₁.2
          exact r.mono (fun _ _ _ e => Heap.get?_push_of_some _ e) fun a o e q => q.elim id fun q => absurd (Heap.lt_size e) (q ▸ Nat.lt_irrefl _)
        refine wpAny_newObj_type ⟨Kp.trans q₁.1 (Kp.push _ _), own.rep hx.fresh, fun _ => ⟨_, rfl, ?_, own⟩⟩ (by show vs.toArray.size ≤ sizeLine; rw [List.size_toArray, e]; exact hl)
        cases q : s.heap.get? s₁.heap.objs.size with
        | none => rfl
        | some o => exact absurd (Heap.lt_size (Kp.heap q₁.1 _ _ q)) (Nat.lt_irrefl _)
      · cases he
    · cases he
end
end Mine

namespace Mine
open PySem PySem.SeqAt

section
variable {prog : Program} {w : World} {A : Around} {s : Shared} {base : Heap} {mg mb : Str → Option Value} {cf : CF}

theorem se_of_sf {me : ME} (h : SF prog w A base cf me) (hf : ∀ ρ d, evE cf ρ me = some d → ∃ fr, evF cf ρ me = some (d, fr)) : SE prog w A base cf me := by
  intro s env e H ρ m d E hc R hw hn he
  obtain ⟨fr, hfr⟩ := hf ρ d he
  exact wpAny_mono (h s env e H ρ m d fr E hc R hw hn hfr) (fun _ _ q => ⟨q.1, q.2.1⟩) fun _ _ e => e

theorem subscripted_plain {sl : Expr} {o i : Value} (h : ∀ a b c d, sl ≠ .Slice a b c d) : subscripted sl false o i = operate [o, i] (getItem o i) := by
  cases sl <;> first | rfl | exact absurd rfl (h _ _ _ _)

theorem se_sub {a b : ME} (ha : SE prog w A base cf a) (hb : SE prog w A base cf b) : SE prog w A base cf (.sub a b) := by
  intro s env e H ρ m d E hc R hw hn he
  replace hc := inv_sub hc; obtain ⟨v, sl, pos, rfl, hns, hc⟩ := hc
  · skip
    simp only [Bool.and_eq_true] at hc
    simp only [evE] at he
    split at he
    · rename_i x hx
      split at he
      · rename_i y hy
        refine PyProof.Rows.Subscript_ (wpAny_mono (ha s env _ H ρ m x E hc.1 R hw (hn.sub fun _ hx => List.mem_append_left _ hx) hx) (fun v s₁ q₁ => ?_) fun _ _ e => e)
        refine wpAny_mono (hb s₁ env _ H ρ m y E hc.2 (R.keeps (Kp.heap q₁.1)) (hw.keeps (Kp.heap q₁.1)) ((hn.keeps (Kp.heap q₁.1)).sub fun _ hx => List.mem_append_right _ hx) hy) (fun v₂ s₂ q₂ => ?_) fun _ _ e => e
        obtain ⟨g, T, id, hT, hl⟩ := getItem_snd (prog := prog) (w := w) (A := A) (E := E) (q₁.2.keeps (Kp.heap q₂.1)) q₂.2 he
        refine PyProof.Rows.tail_any hT hl (wpAny_mono g (fun v₃ s₃ q₃ => ⟨Kp.trans (Kp.trans q₁.1 q₂.1) q₃.1, q₃.2⟩) fun _ _ e => e) (subscripted_plain fun a b c d q => ?_)
        exact hns a b c d q
      · cases he
    · cases he

/-- a bound of a slice -/
theorem part_snd {a : ME} (ha : SE prog w A base cf a) {s : Shared} {env : Env} {l : Option Expr} {H : Addr → Prop} {ρ : List (String × D)} {m : Str → Option Value} {d : D} {E : Value → Shared → Prop}
    (hc : (match l with | Option.none => a.isNone | some x => chkE env.kindOf x a) = true) (R : EnvRep s.heap env m) (hw : HOk base s.heap H) (hn : NV w.params env.kindOf a.names ρ m s.heap H) (he : evE cf ρ a = some d) :
    wpAny (model prog w) A (evalPart l env) (Post w s H d) E s := by
  cases l with
  | none =>
    have : a = .none := by cases a <;> first | rfl | (cases hc)
    subst this
    simp only [evE] at he; cases he
    rw [evalPart_none]
    exact wpAny_pure ⟨Kp.refl _, .none⟩
  | some x => exact ha s env x H ρ m d E hc R hw hn he

theorem take_clip {α : Type} (l : List α) (a b : Nat) : (l.drop (min a l.length)).take (min b l.length - min a l.length) = (l.take b).drop a := by
  rw [List.drop_take]
  apply List.ext_getElem?
  intro i
  simp only [List.getElem?_take, List.getElem?_drop]
  by_cases ha : a ≤ l.length
  · have : min a l.length = a := by omega
    rw [this]
    by_cases hb : b ≤ l.length
    · have : min b l.length = b := by omega
      rw [this]
    · have : min b l.length = l.length := by omega
      rw [this]
      split <;> split <;> first | rfl | omega | (rw [List.getElem?_eq_none (by omega)])
  · have h1 : min a l.length = l.length := by omega
    rw [h1]
    have h2 : ∀ j, l[a + j]? = none := fun j => List.getElem?_eq_none (by omega)
    have h3 : ∀ j, l[l.length + j]? = none := fun j => List.getElem?_eq_none (by omega)
    rw [h2, h3]; simp

theorem slicePick_nat (items : Array Value) {ds : List D} {P : Params} {h : Heap} {H : Addr → Prop} {lo hi : D} {va vb : Value} {a b : Nat} (r : RepAll P h H items.toList ds) (ra : Rep P h H va lo) (rb : Rep P h H vb hi) (ha : bnd lo 0 = some a) (hb : bnd hi ds.length = some b) :
    ∃ ka kb, IsPart va ka ∧ IsPart vb kb ∧ RepAll P h H (slicePick items ka kb none).toList ((ds.take b).drop a) := by
  have e := r.length
  simp only [Array.length_toList] at e
  have key : ∀ (ka kb : Option Int) (a b : Nat), (ka.elim 0 (clipAt items.size)) = min a items.size → (kb.elim items.size (clipAt items.size)) = min b items.size →
      RepAll P h H (slicePick items ka kb none).toList ((ds.take b).drop a) := by
    intro ka kb a b h1 h2
    rw [slicePick_plain]
    rw [h1, h2]
    have := take_clip items.toList a b
    simp only [Array.length_toList] at this
    simp only [this]
    exact (r.take b).drop a
  have bounds : ∀ {v : Value} {x : D} {n : Nat} (dflt : Nat), Rep P h H v x → bnd x dflt = some n → ∃ k, IsPart v k ∧ ((k = none ∧ n = dflt) ∨ k = some (n : Int)) := by
    intro v x n dflt rv hv
    cases rv <;> simp only [bnd] at hv <;> (try cases hv)
    · exact ⟨none, .none, .inl ⟨rfl, rfl⟩⟩
    · split at hv
      · cases hv
        rename_i i t hi
        refine ⟨some i, .int _ _, .inr ?_⟩
        rw [Int.toNat_of_nonneg hi]
      · cases hv
  obtain ⟨ka, pa, ea⟩ := bounds 0 ra ha
  obtain ⟨kb, pb, eb⟩ := bounds ds.length rb hb
  refine ⟨ka, kb, pa, pb, key ka kb a b ?_ ?_⟩
  · rcases ea with ⟨rfl, rfl⟩ | rfl
    · simp
    · simpa using clipAt_nat items.size a
  · rcases eb with ⟨rfl, rfl⟩ | rfl
    · simp [e]
    · simpa using clipAt_nat items.size b

theorem part_str {P : Params} {h : Heap} {H : Addr → Prop} {v : Value} {d : D} {a : Option Int} (r : Rep P h H v d) (ha : bndS d = some a) : ∃ l : Option (Int × Tok), v = partValue l ∧ l.map (·.1) = a := by
  cases r <;> simp only [bndS] at ha <;> cases ha
  · exact ⟨none, rfl, rfl⟩
  · exact ⟨some (_, _), rfl, rfl⟩
theorem sl_str {x : Str} {t : Tok} {vl vu : Value} {lo hi d : D} {H : Addr → Prop} {E : Value → Shared → Prop} (rl : Rep w.params s.heap H vl lo) (ru : Rep w.params s.heap H vu hi) (he : slD (.str x) lo hi = some d) {a : Addr}
    (ho : s.heap.get? a = some { cls := .type "slice", data := .fields #[vl, vu, .none] }) : wpAny (model prog w) A (getItem (.str x t) (.ref a)) (PostF w s H d d.isList) E s := by
  simp only [slD] at he
  split at he
  · rename_i hsz
    rw [Option.bind_eq_some_iff] at he
    obtain ⟨a', h1, he⟩ := he
    rw [Option.map_eq_some_iff] at he
    obtain ⟨b', h2, rfl⟩ := he
    obtain ⟨l, rfl, rfl⟩ := part_str rl h1
    obtain ⟨u, rfl, rfl⟩ := part_str ru h2
    exact wpAny_getItem_str_slice (st := none) ⟨_, ho, rfl, rfl⟩ rfl (post_val_or_str ⟨Nat.le_trans (Txt.slice_le _ _ _) hsz, fun t' k => ⟨Kp.tok _ _, .str _ _, fun e => nomatch e⟩⟩)
  · cases he
theorem sl_list {x : Value} {ds : List D} {vl vu : Value} {lo hi d : D} {H : Addr → Prop} {E : Value → Shared → Prop} (hH : Ex s.heap H) (rx : Rep w.params s.heap H x (.list ds)) (rl : Rep w.params s.heap H vl lo) (ru : Rep w.params s.heap H vu hi) (he : slD (.list ds) lo hi = some d) {a : Addr}
    (ho : s.heap.get? a = some { cls := .type "slice", data := .fields #[vl, vu, .none] }) : wpAny (model prog w) A (getItem x (.ref a)) (PostF w s H d d.isList) E s := by
  simp only [slD] at he
  rw [Option.bind_eq_some_iff] at he
  obtain ⟨a', h1, he⟩ := he
  rw [Option.map_eq_some_iff] at he
  obtain ⟨b', h2, rfl⟩ := he
  cases rx with
  | list hx hno hle hr =>
    obtain ⟨ka, kb, p1, p2, r⟩ := slicePick_nat _ hr rl ru h1 h2
    have e := hr.length
    simp only [Array.length_toList] at e
    refine wpAny_getItem_list_slice (isList_of hx) ⟨_, ho, rfl, rfl⟩ p1 p2 .none (by simp) ?_ (by rw [e]; exact hle)
    exact post_newList hH (by simp only [List.length_drop, List.length_take]; omega) r (fun _ _ e => Heap.get?_push_of_some _ e) (Heap.get?_push_size _ rfl)
theorem slice_snd {v : Value} {x : D} {vl vu : Value} {lo hi d : D} {H : Addr → Prop} {E : Value → Shared → Prop} (hH : Ex s.heap H) (rx : Rep w.params s.heap H v x) (rl : Rep w.params s.heap H vl lo) (ru : Rep w.params s.heap H vu hi) (he : slD x lo hi = some d) {a : Addr}
    (ho : s.heap.get? a = some { cls := .type "slice", data := .fields #[vl, vu, .none] }) : wpAny (model prog w) A (getItem v (.ref a)) (PostF w s H d d.isList) E s ∧ ∃ T id, s.TypeIs v T ∧ typeLookup (.type T) "__getitem__" = pure (some (.builtin id)) := by
  cases x <;> first | (cases he; done) | skip
  · cases rx
    exact ⟨sl_str rl ru he ho, "str", _, typeIs_str _ _ _, F.slot_str_getitem.lookup⟩
  · refine ⟨sl_list hH rx rl ru he ho, "list", ?_⟩
    cases rx with
    | list hx => exact ⟨_, (isList_of hx).typeIs, F.slot_list_getitem.lookup⟩
theorem sf_sl {a lo hi : ME} (ha : SE prog w A base cf a) (hl : SE prog w A base cf lo) (hh : SE prog w A base cf hi) : SF prog w A base cf (.sl a lo hi) := by
  intro s env e H ρ m d fr E hc R hw hn he
  replace hc := inv_sl hc; obtain ⟨_, _, _, _, _, rfl, hc⟩ := hc
  · rename_i v l u p pos
    simp only [Bool.and_eq_true] at hc
    obtain ⟨⟨h1, h2⟩, h3⟩ := hc
    simp only [evF_sl, evE, Option.map_eq_some_iff] at he
    obtain ⟨d', he, e'⟩ := he
    cases e'
    split at he
    · rename_i x hx
      split at he
      · rename_i y hy
        split at he
        · rename_i z hz
          refine PyProof.Rows.Subscript_ (wpAny_mono (ha s env _ H ρ m x E h1 R hw (hn.sub fun _ hx => List.mem_append_left _ (List.mem_append_left _ hx)) hx) (fun v s₁ q₁ => ?_) fun _ _ e => e)
          refine wpAny_Slice ?_
          refine wpAny_mono (part_snd hl h2 (R.keeps (Kp.heap q₁.1)) (hw.keeps (Kp.heap q₁.1)) ((hn.keeps (Kp.heap q₁.1)).sub fun _ hx => List.mem_append_left _ (List.mem_append_right _ hx)) hy) (fun vl s₂ q₂ => ?_) fun _ _ e => e
          have k2 := Kp.trans q₁.1 q₂.1
          refine wpAny_mono (part_snd hh h3 (R.keeps (Kp.heap k2)) (hw.keeps (Kp.heap k2)) ((hn.keeps (Kp.heap k2)).sub fun _ hx => List.mem_append_right _ hx) hz) (fun vu s₃ q₃ => ?_) fun _ _ e => e
          rw [evalPart_none]
          refine wpAny_pure ?_
          have k3 := Kp.trans k2 q₃.1
          have kp := Kp.push s₃ { cls := .type "slice", data := .fields #[vl, vu, .none] }
          have rx := (q₁.2.keeps (Kp.heap (Kp.trans q₂.1 q₃.1))).keeps (Kp.heap kp)
          have rl := (q₂.2.keeps (Kp.heap q₃.1)).keeps (Kp.heap kp)
          have ru := q₃.2.keeps (Kp.heap kp)
          have hex := ((hw.keeps (Kp.heap k3)).keeps (Kp.heap kp)).ex
          have ho := Heap.get?_push_size s₃.heap (o := { cls := .type "slice", data := .fields #[vl, vu, .none] }) rfl
          obtain ⟨g1, T, id, g2, g3⟩ := slice_snd (prog := prog) (A := A) (E := E) (s := { s₃ with heap := s₃.heap.push { cls := .type "slice", data := .fields #[vl, vu, .none] } }) hex rx rl ru he ho
          exact PyProof.Rows.tail_any (ops := [_, _]) g2 g3 (wpAny_mono g1 (fun _ _ q => q.after (Kp.trans k3 kp)) fun _ _ e => e) rfl
        · cases he
      · cases he
    · cases he
end
end Mine

namespace Mine
open PySem PySem.SeqAt

section
variable {prog : Program} {w : World} {A : Around} {s : Shared} {base : Heap} {mg mb : Str → Option Value} {cf : CF}

theorem evalArgs_snd {f : Value} {es : List Expr} {ms : List ME} {env : Env} {pos : Pos} {Q : Args → Shared → Prop} {E : Value → Shared → Prop} (hc : chkEs env.kindOf es ms = true)
    (h : wpAny (model prog w) A (spliced (es.map fun e => (false, eval e env))) (fun vs s' => Q ⟨vs, []⟩ s') E s) :
    wpAny (model prog w) A (evalArgs f true (backTo pos (starEach es env)) []) Q E s := by
  rw [spliced_ok hc, backTo_ok]
  cases es with
  | nil =>
    unfold evalArgs
    show wpAny _ A (spliced [] >>= _) Q E s
    refine wpAny_bind (wpAny_mono h (fun vs s' h' => ?_) fun _ _ x => x)
    refine wpAny_bind (wpAny_pure ?_)
    refine wpAny_holding ?_
    exact wpAny_bind (wpAny_pure (wpAny_bind (wpAny_pure (wpAny_pure h'))))
  | cons e es => exact Calls.evalArgs_plain h

theorem any_false (es : List Expr) (env : Env) : ((es.map fun e => (false, eval e env)).any (·.1)) = false := by
  induction es with
  | nil => rfl
  | cons _ _ ih => simpa using ih

theorem sf_call (G : GOk mg mb base) (C : CSound prog w base mg cf A) {f : String} {ms : List ME} (hr : SEs prog w A base cf ms) : SF prog w A base cf (.call f ms) := by
  intro s env e H ρ m d fr E hc R hw hn he
  replace hc := inv_call hc; obtain ⟨_, _, _, _, rfl, hc⟩ := hc
  · rename_i g gp as pos
    simp only [Bool.and_eq_true, beq_iff_eq, isGlob, bne_iff_ne] at hc
    obtain ⟨⟨rfl, hk, hd⟩, hc⟩ := hc
    simp only [evF_call] at he
    split at he
    · rename_i ds hds
      obtain ⟨a, o, fd, h1, h2, h3, h4⟩ := C.call f ds d fr he
      refine PyProof.Rows.Call_Name rfl (Calls.Name_function_global R.kind hk (Calls.loadGlobal_global (mg := mg) (by rw [R.glob]; exact G.g.keeps hw.keep) h1 ?_) (by simpa using hd))
      refine Calls.callWith_function (o := o) (fd := fd) (evalArgs_snd hc ?_)
      refine wpAny_mono (hr s env as H ρ m ds E hc R hw hn hds) (fun vs s₁ q₁ => ⟨⟨(hw.keeps (Kp.heap q₁.1)).keep _ _ h2, h3⟩, ?_⟩) fun _ _ e => e
      refine wpAny_mono (h4 s₁ H vs E (hw.keeps (Kp.heap q₁.1)) q₁.2) (fun v s₂ q₂ => ⟨Kp.trans q₁.1 q₂.1, q₂.2.1, fun hf => ?_⟩) fun _ _ e => e
      obtain ⟨a', e1, e3, e4⟩ := q₂.2.2 hf
      refine ⟨a', e1, ?_, e4⟩
      cases q : s.heap.get? a' with
      | none => rfl
      | some o' => rw [Kp.heap q₁.1 _ _ q] at e3; cases e3
    · cases he

theorem name_blt (G : GOk mg mb base) {env : Env} {m : Str → Option Value} {H : Addr → Prop} {f : String} {p : Pos} {E : Value → Shared → Prop} {Q : Value → Shared → Prop} (hf : f ∈ bltNames) (R : EnvRep s.heap env m) (hw : HOk base s.heap H)
    (hk : env.kindOf (Str.ofString f) = some .globalImplicit) (hd : Str.ofString f ≠ Str.ofString "__debug__") (h : Q (bltVal f) s) : wpAny (model prog w) A (eval (.Name (Str.ofString f) p) env) Q E s := by
  obtain ⟨h1, h2⟩ := G.blt f hf
  exact Calls.Name_function_global R.kind hk (Calls.loadGlobal_builtin (mg := mg) (mb := mb) (by rw [R.glob]; exact G.g.keeps hw.keep) h1 (by rw [R.blt]; exact G.b.keeps hw.keep) h2 h) (by simpa using hd)

theorem callWith_blt {f : String} {pos : Pos} {es : List Expr} {ms : List ME} {env : Env} {Q : Value → Shared → Prop} {E : Value → Shared → Prop} (hc : chkEs env.kindOf es ms = true)
    (h : wpAny (model prog w) A (spliced (es.map fun e => (false, eval e env))) (fun vs s' => wpAny (model prog w) A (call (bltVal f) vs) Q E s') E s) :
    wpAny (model prog w) A (callWith pos (bltVal f) [] (backTo pos (starEach es env)) []) Q E s := by
  have hp : (backTo pos (starEach es env)).any (·.1) = false := by rw [spliced_ok hc, backTo_ok]; exact any_false _ _
  have key : (∃ id, bltVal f = .builtin id) ∨ ∃ T, bltVal f = .type T := by
    unfold bltVal; split <;> first | exact .inl ⟨_, rfl⟩ | exact .inr ⟨_, rfl⟩
  rcases key with ⟨id, e⟩ | ⟨T, e⟩
  · rw [e] at h ⊢; exact Calls.callWith_builtin hp (evalArgs_snd hc h)
  · rw [e] at h ⊢; exact PyProof.Rows.callWith_type hp (evalArgs_snd hc h)

theorem se_blt (G : GOk mg mb base) (hh : A.handled = none) {f : String} {ms : List ME} (hf : f ∈ bltNames) (hr : SEs prog w A base cf ms) : SE prog w A base cf (.blt f ms) := by
  intro s env e H ρ m d E hc R hw hn he
  replace hc := inv_blt hc; obtain ⟨_, _, _, _, rfl, hc⟩ := hc
  · rename_i g gp as pos
    simp only [Bool.and_eq_true, beq_iff_eq, isGlob, bne_iff_ne] at hc
    obtain ⟨⟨rfl, hk, hd⟩, hc⟩ := hc
    simp only [evE] at he
    split at he
    · rename_i ds hds
      refine PyProof.Rows.Call_Name rfl (name_blt G hf R hw hk hd (callWith_blt hc ?_))
      refine wpAny_mono (hr s env as H ρ m ds E hc R hw hn hds) (fun vs s₁ q₁ => ?_) fun _ _ e => e
      exact wpAny_mono (blt_snd hh q₁.2 (hw.keeps (Kp.heap q₁.1)).ex he) (fun v s₂ q₂ => ⟨Kp.trans q₁.1 q₂.1, q₂.2⟩) fun _ _ e => e
    · cases he
theorem sf_lcp (G : GOk mg mb base) (hh : A.handled = none) {a : ME} (hr : SEs prog w A base cf [a]) : SF prog w A base cf (.lcp a) := by
  intro s env e H ρ m d fr E hc R hw hn he
  replace hc := inv_lcp hc; obtain ⟨g, gp, x, pos, rfl, hc, hx⟩ := hc
  simp only [Bool.and_eq_true, beq_iff_eq, isGlob, bne_iff_ne] at hc
  obtain ⟨rfl, hk, hd⟩ := hc
  simp only [evF_lcp, evE, Option.map_eq_some_iff] at he
  obtain ⟨d', he, e'⟩ := he
  cases e'
  split at he
  · rename_i dx hdx
    rw [Option.map_eq_some_iff] at he
    obtain ⟨ds, he, rfl⟩ := he
    have hc' : chkEs env.kindOf [x] [a] = true := by simp [chkEs, hx]
    refine PyProof.Rows.Call_Name rfl (name_blt G (f := "list") (by decide) R hw hk hd (callWith_blt hc' ?_))
    refine wpAny_mono (hr s env [x] H ρ m [dx] E hc' R hw (hn.sub fun y hy => by simpa [namesL, ME.names] using hy) (by simp [evEs, hdx])) (fun vs s₁ q₁ => ?_) fun _ _ e => e
    obtain ⟨k, r⟩ := q₁
    cases r with
    | cons r1 r2 =>
      cases r2
      exact wpAny_mono (lst_snd hh r1 (hw.keeps (Kp.heap k)).ex he) (fun v s₂ q₂ => q₂.after k) fun _ _ e => e
  · cases he

theorem se_isi (G : GOk mg mb base) {a : ME} {T : String} (ha : SE prog w A base cf a) : SE prog w A base cf (.isi a T) := by
  intro s env e H ρ m d E hc R hw hn he
  replace hc := inv_isi hc; obtain ⟨_, _, _, _, _, _, rfl, hc⟩ := hc
  · rename_i g gp x t tp pos
    simp only [Bool.and_eq_true, beq_iff_eq, isGlob, bne_iff_ne] at hc
    obtain ⟨⟨⟨⟨rfl, hk, hd⟩, rfl⟩, hk2, hd2⟩, hc⟩ := hc
    simp only [evE] at he
    split at he
    · rename_i dx hdx
      simp only [Option.map_eq_some_iff] at he
      obtain ⟨b, hb, rfl⟩ := he
      have hT : T ∈ bltNames ∧ bltVal T = .type T := by
        unfold isiD at hb
        split at hb
        · rename_i h
          rcases h with rfl | rfl | rfl | rfl | rfl <;> exact ⟨by decide, rfl⟩
        · cases hb
      have hs : starEach [x, .Name (Str.ofString T) tp] env = [(false, eval x env), (false, eval (.Name (Str.ofString T) tp) env)] := by
        have := spliced_ok (es := [x]) (ms := [a]) (k := env.kindOf) (by simp [chkEs, hc]) env
        have hx : ∀ y p, x ≠ .Starred y p := by
          rintro y p rfl
          simp [starEach] at this
        cases x <;> first | rfl | exact absurd rfl (hx _ _)
      refine PyProof.Rows.Call_Name (trees := [(false, eval x env), (false, eval (.Name (Str.ofString T) tp) env)]) (by rw [hs]; rfl) (name_blt G (f := "isinstance") (by decide) R hw hk hd ?_)
      refine Calls.callWith_builtin rfl (Calls.evalArgs_plain (Calls.spliced_cons ?_))
      refine wpAny_mono (ha s env x H ρ m dx E hc R hw hn hdx) (fun v s₁ q₁ => Calls.spliced_cons ?_) fun _ _ e => e
      refine name_blt G hT.1 (R.keeps (Kp.heap q₁.1)) (hw.keeps (Kp.heap q₁.1)) hk2 hd2 (Calls.spliced_nil ?_)
      rw [hT.2]
      exact wpAny_mono (isi_snd q₁.2 hb) (fun v s₂ q₂ => ⟨Kp.trans q₁.1 q₂.1, q₂.2⟩) fun _ _ e => e
    · cases he
end
end Mine

namespace Mine
open PySem PySem.SeqAt

section
variable {prog : Program} {w : World} {A : Around} {s : Shared} {base : Heap} {mg mb : Str → Option Value} {cf : CF}

theorem st_plain {me : ME} (h : SE prog w A base cf me) (hp : ∀ e k env whole, chkE k e me = true → isTrue e env whole = (do let v ← whole; standAt e.pos; holding [v] (truthy v))) : ST prog w A base cf me := by
  intro s env e H ρ m d t E hc R hw hn he ht
  refine PyProof.Rows.isTrue_plain (wpAny_mono (h s env e H ρ m d E hc R hw hn he) (fun v s₁ q₁ => ?_) fun _ _ e => e) (hp e _ env _ hc)
  exact wpAny_mono (truth_snd q₁.2 ht) (fun b s₂ q₂ => ⟨Kp.trans q₁.1 q₂.1, q₂.2⟩) fun _ _ e => e

theorem sb_nil : SB prog w A base cf [] := by
  intro s env es op pos H ρ m d E hc R hw hn he
  simp only [evBop] at he; cases he

theorem sb_one {a : ME} (ha : SE prog w A base cf a) (ta : ST prog w A base cf a) : SB prog w A base cf [a] := by
  intro s env es op pos H ρ m d E hc R hw hn he
  cases es with
  | nil => simp [chkEs] at hc
  | cons e es' =>
    simp only [chkEs, Bool.and_eq_true, List.isEmpty_iff] at hc
    obtain ⟨hc, rfl⟩ := hc
    simp only [evBop] at he
    have hn' := hn.sub (ns' := a.names) fun _ hx => List.mem_append_left _ hx
    refine ⟨PyProof.Rows.BoolOp_one (ha s env e H ρ m d E hc R hw hn' he), fun t whole ht => ?_⟩
    cases op with
    | And =>
      refine PyProof.Rows.isTrue_and (wpAny_mono (ta s env e H ρ m d t E hc R hw hn' he ht) (fun b s₁ q₁ => ?_) fun _ _ e => e)
      cases b with
      | true => exact PyProof.Rows.isTrue_and_nil ⟨q₁.1, q₁.2⟩
      | false => exact ⟨q₁.1, q₁.2⟩
    | Or =>
      refine PyProof.Rows.isTrue_or (wpAny_mono (ta s env e H ρ m d t E hc R hw hn' he ht) (fun b s₁ q₁ => ?_) fun _ _ e => e)
      cases b with
      | true => exact ⟨q₁.1, q₁.2⟩
      | false => exact PyProof.Rows.isTrue_or_nil ⟨q₁.1, q₁.2⟩

theorem sb_cons {a b : ME} {r : List ME} (ha : SE prog w A base cf a) (ta : ST prog w A base cf a) (hr : SB prog w A base cf (b :: r)) : SB prog w A base cf (a :: b :: r) := by
  intro s env es op pos H ρ m d E hc R hw hn he
  cases es with
  | nil => simp [chkEs] at hc
  | cons e es' => cases es' with
    | nil => simp [chkEs] at hc
    | cons e2 es' =>
      have hc' : chkE env.kindOf e a = true ∧ chkEs env.kindOf (e2 :: es') (b :: r) = true := by
        rw [chkEs] at hc; simpa using hc
      simp only [evBop] at he
      have hn1 := hn.sub (ns' := a.names) fun _ hx => List.mem_append_left _ hx
      have hn2 := hn.sub (ns' := namesL (b :: r)) fun _ hx => List.mem_append_right _ hx
      split at he
      · rename_i x hx
        split at he
        · rename_i t1 ht1
          have rest : ∀ s₁, Keeps s s₁ → evBop cf ρ op (b :: r) = some d → _ := fun s₁ (k : Keeps s s₁) (h : evBop cf ρ op (b :: r) = some d) =>
            hr s₁ env (e2 :: es') op pos H ρ m d E hc'.2 (R.keeps (Kp.heap k)) (hw.keeps (Kp.heap k)) (hn2.keeps (Kp.heap k)) h
          refine ⟨?_, fun t whole ht => ?_⟩
          · cases op with
            | And =>
              refine PyProof.Rows.BoolOp_and (wpAny_mono (ha s env e H ρ m x E hc'.1 R hw hn1 hx) (fun v s₁ q₁ => ?_) fun _ _ e => e)
              refine wpAny_mono (truth_snd q₁.2 ht1) (fun c s₂ q₂ => ?_) fun _ _ e => e
              obtain ⟨k2, rfl⟩ := q₂
              cases c with
              | true =>
                simp only [Bool.true_eq_false, if_false] at he
                exact wpAny_mono (rest s₂ (Kp.trans q₁.1 k2) he).1 (fun _ _ q => ⟨Kp.trans (Kp.trans q₁.1 k2) q.1, q.2⟩) fun _ _ e => e
              | false =>
                simp only [if_true] at he; cases he
                exact ⟨Kp.trans q₁.1 k2, q₁.2.keeps (Kp.heap k2)⟩
            | Or =>
              refine PyProof.Rows.BoolOp_or (wpAny_mono (ha s env e H ρ m x E hc'.1 R hw hn1 hx) (fun v s₁ q₁ => ?_) fun _ _ e => e)
              refine wpAny_mono (truth_snd q₁.2 ht1) (fun c s₂ q₂ => ?_) fun _ _ e => e
              obtain ⟨k2, rfl⟩ := q₂
              cases c with
              | false =>
                simp only [Bool.false_eq_true, if_false] at he
                exact wpAny_mono (rest s₂ (Kp.trans q₁.1 k2) he).1 (fun _ _ q => ⟨Kp.trans (Kp.trans q₁.1 k2) q.1, q.2⟩) fun _ _ e => e
              | true =>
                simp only [if_true] at he; cases he
                exact ⟨Kp.trans q₁.1 k2, q₁.2.keeps (Kp.heap k2)⟩
          · cases op with
            | And =>
              refine PyProof.Rows.isTrue_and (wpAny_mono (ta s env e H ρ m x t1 E hc'.1 R hw hn1 hx ht1) (fun c s₁ q₁ => ?_) fun _ _ e => e)
              obtain ⟨k1, rfl⟩ := q₁
              cases c with
              | true =>
                simp only [Bool.true_eq_false, if_false] at he
                exact wpAny_mono ((rest s₁ k1 he).2 t whole ht) (fun _ _ q => ⟨Kp.trans k1 q.1, q.2⟩) fun _ _ e => e
              | false =>
                simp only [if_true] at he; cases he
                rw [ht1] at ht; cases ht
                exact ⟨k1, rfl⟩
            | Or =>
              refine PyProof.Rows.isTrue_or (wpAny_mono (ta s env e H ρ m x t1 E hc'.1 R hw hn1 hx ht1) (fun c s₁ q₁ => ?_) fun _ _ e => e)
              obtain ⟨k1, rfl⟩ := q₁
              cases c with
              | false =>
                simp only [Bool.false_eq_true, if_false] at he
                exact wpAny_mono ((rest s₁ k1 he).2 t whole ht) (fun _ _ q => ⟨Kp.trans k1 q.1, q.2⟩) fun _ _ e => e
              | true =>
                simp only [if_true] at he; cases he
                rw [ht1] at ht; cases ht
                exact ⟨k1, rfl⟩
        · cases he
      · cases he

theorem se_bop {op : BoolOp} {ms : List ME} (h : SB prog w A base cf ms) : SE prog w A base cf (.bop op ms) := by
  intro s env e H ρ m d E hc R hw hn he
  replace hc := inv_bop hc; obtain ⟨_, _, _, rfl, hc⟩ := hc
  · simp only [Bool.and_eq_true, beq_iff_eq] at hc
    obtain ⟨rfl, hc⟩ := hc
    simp only [evE] at he
    exact (h s env _ op _ H ρ m d E hc R hw hn he).1
theorem st_bop {op : BoolOp} {ms : List ME} (h : SB prog w A base cf ms) : ST prog w A base cf (.bop op ms) := by
  intro s env e H ρ m d t E hc R hw hn he ht
  replace hc := inv_bop hc; obtain ⟨_, _, _, rfl, hc⟩ := hc
  · simp only [Bool.and_eq_true, beq_iff_eq] at hc
    obtain ⟨rfl, hc⟩ := hc
    simp only [evE] at he
    exact (h s env _ op _ H ρ m d E hc R hw hn he).2 t _ ht

theorem forIn_false {env : Env} {E : Value → Shared → Prop} {Q : Bool → Shared → Prop} : ∀ (es : List Expr), Q false s →
    wpAny (model prog w) A (forIn es false fun c r => if r = true then do let ok ← isTrue c env (eval c env); pure (ForInStep.yield ok) else pure (ForInStep.yield r)) Q E s
  | [], h => by rw [List.forIn_nil]; exact wpAny_pure h
  | c :: es, h => by
    rw [List.forIn_cons]
    simp only [Bool.false_eq_true, if_false, pure_bind]
    exact forIn_false es h

theorem sc_nil : SC prog w A base cf [] := by
  intro s env es H ρ m t E hc R hw hn he
  cases es with
  | nil => simp only [evCs] at he; cases he; rw [List.forIn_nil]; exact wpAny_pure ⟨Kp.refl _, rfl⟩
  | cons _ _ => simp [chkEs] at hc
theorem sc_cons {a : ME} {r : List ME} (ta : ST prog w A base cf a) (hr : SC prog w A base cf r) : SC prog w A base cf (a :: r) := by
  intro s env es H ρ m t E hc R hw hn he
  cases es with
  | nil => simp [chkEs] at hc
  | cons e es' =>
    simp only [chkEs, Bool.and_eq_true] at hc
    simp only [evCs] at he
    split at he
    · rename_i x hx
      split at he
      · rename_i t1 ht1
        rw [List.forIn_cons]
        simp only [if_true, bind_assoc, pure_bind]
        refine wpAny_bind (wpAny_mono (ta s env e H ρ m x t1 E hc.1 R hw (hn.sub fun _ hx => List.mem_append_left _ hx) hx ht1) (fun b s₁ q₁ => ?_) fun _ _ e => e)
        obtain ⟨k1, rfl⟩ := q₁
        cases b with
        | true =>
          simp only [if_true] at he
          exact wpAny_mono (hr s₁ env es' H ρ m t E hc.2 (R.keeps (Kp.heap k1)) (hw.keeps (Kp.heap k1)) ((hn.sub fun _ hx => List.mem_append_right _ hx).keeps (Kp.heap k1)) he) (fun _ _ q => ⟨Kp.trans k1 q.1, q.2⟩) fun _ _ e => e
        | false =>
          simp only [Bool.false_eq_true, if_false] at he; cases he
          exact forIn_false es' ⟨k1, rfl⟩
      · cases he
    · cases he

/-- a comprehension's element, in its own block -/
theorem comp_inner {env cenv : Env} {m mC : Str → Option Value} {scope : Scope} {x : String} {ns : List String} {ρ : List (String × D)} {s₂ : Shared} {H H₂ : Addr → Prop} {v : Value} {dv : D} (hok : okScope env.kindOf scope (Str.ofString x) = true)
    (hk : cenv.kindOf = kindC env.kindOf scope) (hv : mC (Str.ofString x) = some v) (rv : Rep w.params s₂.heap H₂ v dv) (hfv : ∀ z, scope.names.lookup z = some .free → mC z = m z) (kp : Keeps s s₂) (hsub : ∀ a o, s.heap.get? a = some o → H₂ a → H a)
    (hn : NV w.params env.kindOf (ns.filter (· != x)) ρ m s.heap H) : NV w.params cenv.kindOf ns ((x, dv) :: ρ) mC s₂.heap H₂ := by
  intro z hz hvar d hd
  rw [List.lookup_cons] at hd
  by_cases hzx : z = x
  · subst hzx
    simp only [beq_self_eq_true] at hd
    cases hd
    exact ⟨v, hv, rv⟩
  · have hb : (z == x) = false := by simpa using hzx
    rw [hb] at hd
    unfold okScope at hok
    simp only [Bool.and_eq_true, decide_eq_true_eq, beq_iff_eq, List.all_eq_true, Bool.or_eq_true] at hok
    obtain ⟨⟨⟨⟨_, hnodup⟩, _⟩, hfree⟩, hall⟩ := hok
    have hvar' := hvar
    unfold isVar at hvar
    simp only [Bool.and_eq_true, Bool.or_eq_true, beq_iff_eq, bne_iff_ne] at hvar
    obtain ⟨⟨⟨hkz, hd1⟩, hd2⟩, hd3⟩ := hvar
    rw [hk, kindC_eq] at hkz
    have hfr : scope.names.lookup (Str.ofString z) = some .free := by
      cases hq : scope.names.lookup (Str.ofString z) with
      | none => rw [hq] at hkz; simp at hkz
      | some k =>
        have := hall _ (mem_of_lookup hq)
        simp only at this
        rcases this with ((e | e) | e) | e
        · rw [e]
        · rw [hq, e] at hkz; simp at hkz
        · exact absurd (ofString_inj e) hzx
        · exact absurd e hd3
    have hok2 := hfree _ (mem_of_lookup hfr)
    simp only [bne_self_eq_false, Bool.false_eq_true, false_or] at hok2
    obtain ⟨v', h1, h2⟩ := hn z (by simp [hz, hzx]) (by
      unfold isVar
      simp only [Bool.and_eq_true, Bool.or_eq_true, beq_iff_eq, bne_iff_ne]
      exact ⟨⟨⟨hok2.elim (fun e => .inl (.inr e)) .inr, hd1⟩, hd2⟩, hd3⟩) d hd
    exact ⟨v', (hfv _ hfr).trans h1, h2.mono (fun a o _ e => Kp.heap kp a o e) hsub⟩

theorem comp_snd {elt src : ME} {x : String} {cs : List ME} (hh : A.handled = none) (he : SE prog w A base cf elt) (hs : SE prog w A base cf src) (hcs : SC prog w A base cf cs)
    {s : Shared} {env : Env} {H : Addr → Prop} {ρ : List (String × D)} {m : Str → Option Value} {d : D} {E : Value → Shared → Prop} {t it : Expr} {y : Str} {py pos ppos : Pos} {ifs : List Expr} {scope : Scope} {use : Option (Value → Sem Unit)} {Q : Value → Shared → Prop}
    (hc : chkE env.kindOf (.ListComp t [⟨.Name y py, it, ifs, 0⟩] scope pos) (.comp elt x src cs) = true) (R : EnvRep s.heap env m) (hw : HOk base s.heap H) (hn : NV w.params env.kindOf (ME.comp elt x src cs).names ρ m s.heap H)
    (hev : evE cf ρ (.comp elt x src cs) = some d)
    (hQ : ∀ L C h' tk m' out, d = .list out → (∀ b o, s.heap.get? b = some o → @LT.lt Nat _ b L) → s.heap.get? C = none → L ≠ C → h'.Ns C m' → OwnL w.params h' (fun b => H b ∨ b = C) L out → (∀ b o, s.heap.get? b = some o → h'.get? b = some o) →
      compPost (model prog w) A E use Q (.ref L) C (.ok .next) { s with heap := h', toks := tk }) :
    wpAny (model prog w) A (comprehension (.ListComp t [⟨.Name y py, it, ifs, 0⟩] scope pos) scope env ppos (newList []) false (eval it env) use) Q E s := by
  simp only [chkE, cLC, c1, cName, beq_self_eq_true, Bool.true_and, Bool.and_eq_true, beq_iff_eq] at hc
  obtain ⟨⟨⟨⟨⟨rfl, hset⟩, hok⟩, hcsrc⟩, hcelt⟩, hcifs⟩ := hc
  simp only [evE] at hev
  split at hev
  · rename_i dsrc hdsrc
    split at hev
    · rename_i its hits
      split at hev
      · rename_i hlen
        simp only [Option.map_eq_some_iff] at hev
        obtain ⟨out, hout, rfl⟩ := hev
        refine comp_core R hok hset hh hw.ex (hs s env it H ρ m dsrc E hcsrc R hw (hn.sub fun _ hx => List.mem_append_left _ hx) hdsrc) hits hlen hout ?_ (fun L C h' tk m' h1 h2 h3 h4 h5 h6 => hQ L C h' tk m' out rfl h1 h2 h3 h4 h5 h6)
        intro s₂ cenv mC H₂ v dv r hm hf hk RC hv rv hfv hx kp hsub E'
        have hn' := hn.sub (ns' := (elt.names ++ namesL cs).filter (· != x)) fun _ hx => List.mem_append_right _ hx
        have nv := comp_inner hok hk hv rv hfv kp hsub hn'
        have hw₂ : HOk base s₂.heap H₂ := ⟨fun b o e => Kp.heap kp b o (hw.keep b o e), hx, fun b o e q => hw.off b o e (hsub b o (hw.keep b o e) q)⟩
        split at hf
        · rename_i hb
          split at hf
          · rename_i y' hy'
            cases hf
            refine wpAny_mono (hcs s₂ cenv ifs H₂ _ mC true E' (by rw [hk]; exact hcifs) RC hw₂ (nv.sub fun _ hx => List.mem_append_right _ hx) hb) (fun ok s₃ q => ⟨q.1, q.2, fun dr e => ?_⟩) fun _ _ e => e
            cases e
            exact wpAny_mono (he s₃ cenv t H₂ _ mC y' E' (by rw [hk]; exact hcelt) (RC.keeps (Kp.heap q.1)) (hw₂.keeps (Kp.heap q.1)) ((nv.sub fun _ hx => List.mem_append_left _ hx).keeps (Kp.heap q.1)) hy') (fun _ _ q => q) fun _ _ e => e
          · cases hf
        · rename_i hb
          cases hf
          exact wpAny_mono (hcs s₂ cenv ifs H₂ _ mC false E' (by rw [hk]; exact hcifs) RC hw₂ (nv.sub fun _ hx => List.mem_append_right _ hx) hb) (fun ok s₃ q => ⟨q.1, q.2, fun dr e => by cases e⟩) fun _ _ e => e
        · cases hf
      · cases hev
    · cases hev
  · cases hev
end
end Mine

namespace Mine
open PySem PySem.SeqAt
/-! dict displays -/
theorem stored_kvs {P : Params} {h : Heap} {H : Addr → Prop} {k : CK} {v : Value} {d : D} (hv : Rep P h H v d) {kvs : List (CK × Value)} {vs : List D} (hn : (kvs.map (·.1)).Nodup) (hr : RepAll P h H (kvs.map (·.2)) vs) :
    ((stored kvs k v).map fun p => ofCK p.1) = (dput (kvs.map fun p => ofCK p.1) vs (ofCK k) d).1 ∧ RepAll P h H ((stored kvs k v).map (·.2)) (dput (kvs.map fun p => ofCK p.1) vs (ofCK k) d).2 := by
  have e : (kvs.map (·.1)).zip (kvs.map (·.2)) = kvs := by
    clear hn hr
    induction kvs with
    | nil => rfl
    | cons a l ih => simp [ih]
  have := stored_dput (k := k) hv (cs := kvs.map (·.1)) (vals := kvs.map (·.2)) (by simp) hn hr
  rw [e, List.map_map] at this
  exact this
theorem stored_nodup {kvs : List (CK × Value)} {k : CK} {v : Value} (hn : (kvs.map (·.1)).Nodup) : ((stored kvs k v).map (·.1)).Nodup := by
  unfold stored
  split
  · rw [keys_map_store]; exact hn
  · rename_i hc
    rw [List.map_append, List.nodup_append]
    refine ⟨hn, by simp, ?_⟩
    intro a ha b hb e
    simp only [List.map_cons, List.map_nil, List.mem_singleton] at hb
    subst hb e
    obtain ⟨p, hp, rfl⟩ := List.mem_map.mp ha
    exact hc (List.any_eq_true.mpr ⟨p, hp, by simp⟩)
theorem merged_dputs {P : Params} {h : Heap} {H : Addr → Prop} : ∀ {kvs acc : List (CK × Value)} {es accD : List D} {accK : List D}, RepAll P h H (kvs.map (·.2)) es → (acc.map (·.1)).Nodup → RepAll P h H (acc.map (·.2)) accD → accK = (acc.map fun p => ofCK p.1) →
    ((merged acc kvs).map fun p => ofCK p.1) = (((kvs.map fun p => ofCK p.1).zip es).foldl (fun a p => dput a.1 a.2 p.1 p.2) (accK, accD)).1 ∧ RepAll P h H ((merged acc kvs).map (·.2)) (((kvs.map fun p => ofCK p.1).zip es).foldl (fun a p => dput a.1 a.2 p.1 p.2) (accK, accD)).2 := by
  intro kvs
  induction kvs with
  | nil =>
    intro acc es accD accK hr hn ha hk
    cases hr
    subst hk
    exact ⟨rfl, ha⟩
  | cons p kvs ih =>
    intro acc es accD accK hr hn ha hk
    cases hr with
    | cons hv hr =>
      subst hk
      obtain ⟨q1, q2⟩ := stored_kvs (k := p.1) hv hn ha
      exact ih hr (stored_nodup hn) q2 q1.symm
theorem dput_len (k d : D) : ∀ (ks vs : List D), (dput ks vs k d).1.length ≤ ks.length + 1
  | [], _ => by simp [dput]
  | _ :: _, [] => by simp [dput]
  | k' :: ks, v :: vs => by
    have := dput_len k d ks vs
    unfold dput
    split <;> simp <;> omega
theorem dputs_len : ∀ (l : List (D × D)) (a : List D × List D), (l.foldl (fun a p => dput a.1 a.2 p.1 p.2) a).1.length ≤ a.1.length + l.length
  | [], a => by simp
  | p :: l, a => by
    have h1 := dputs_len l (dput a.1 a.2 p.1 p.2)
    have h2 := dput_len p.1 p.2 a.1 a.2
    simp only [List.foldl_cons, List.length_cons]
    omega
section
variable {prog : Program} {w : World} {A : Around} {s : Shared} {base : Heap} {mg mb : Str → Option Value} {cf : CF}
theorem evalPairs_snd {env : Env} {pos : Pos} {H : Addr → Prop} {ρ : List (String × D)} {m : Str → Option Value} {E : Value → Shared → Prop} : ∀ {ks vs : List ME} {kes ves : List Expr} {ds es : List D} {s : Shared}, (∀ e ∈ ks, SE prog w A base cf e) → (∀ e ∈ vs, SE prog w A base cf e) →
    chkEs env.kindOf kes ks = true → chkEs env.kindOf ves vs = true → EnvRep s.heap env m → HOk base s.heap H → NV w.params env.kindOf (namesL ks ++ namesL vs) ρ m s.heap H → evEs cf ρ ks = some ds → evEs cf ρ vs = some es → ds.all D.isCell = true → ds.length = es.length →
    wpAny (model prog w) A (evalPairs ((kes.zip ves).map fun p => (eval p.1 env, do let x ← eval p.2 env; standAt pos; pure x)))
      (fun prs s' => Keeps s s' ∧ ∃ kvs, Carries (cellKind prog w) prs kvs ∧ ds = (kvs.map fun p => ofCK p.1) ∧ RepAll w.params s'.heap H (kvs.map (·.2)) es) E s := by
  intro ks
  induction ks with
  | nil =>
    intro vs kes ves ds es s _ _ hk hv _ _ _ hd he _ hl
    cases kes with
    | cons _ _ => simp [chkEs] at hk
    | nil =>
      simp only [evEs] at hd; cases hd
      cases es with
      | cons _ _ => simp at hl
      | nil => exact evalPairs_nil ⟨Kp.refl _, [], trivial, rfl, .nil⟩
  | cons a ks ih =>
    intro vs kes ves ds es s hsk hsv hk hv R hw hn hd he hc hl
    cases kes with
    | nil => simp [chkEs] at hk
    | cons ke kes =>
    cases vs with
    | nil =>
      simp only [evEs] at he; cases he
      simp only [evEs] at hd
      split at hd
      · split at hd
        · cases hd; simp at hl
        · cases hd
      · cases hd
    | cons b vs =>
    cases ves with
    | nil => simp [chkEs] at hv
    | cons ve ves =>
      simp only [chkEs, Bool.and_eq_true] at hk hv
      simp only [evEs] at hd he
      split at hd
      · rename_i x hx
        split at hd
        · rename_i xs hxs
          cases hd
          split at he
          · rename_i y hy
            split at he
            · rename_i ys hys
              cases he
              simp only [List.all_cons, Bool.and_eq_true] at hc
              obtain ⟨c, rfl⟩ := cell_ck hc.1
              refine evalPairs_cons (wpAny_mono (hsk a (by simp) s env ke H ρ m _ E hk.1 R hw (hn.sub fun z hz => by simp only [namesL, List.mem_append]; exact .inl (.inl hz)) hx) (fun kv s₁ q₁ => ?_) fun _ _ e => e)
              refine wpAny_bind (wpAny_mono (hsv b (by simp) s₁ env ve H ρ m y E hv.1 (R.keeps (Kp.heap q₁.1)) (hw.keeps (Kp.heap q₁.1)) ((hn.keeps (Kp.heap q₁.1)).sub fun z hz => by simp only [namesL, List.mem_append]; exact .inr (.inl hz)) hy) (fun vv s₂ q₂ => ?_) fun _ _ e => e)
              refine wpAny_bind (wpAny_standAt (wpAny_pure ?_))
              have k02 := Kp.trans q₁.1 q₂.1
              refine wpAny_mono (ih (s := s₂) (fun e he => hsk e (by simp [he])) (fun e he => hsv e (by simp [he])) hk.2 hv.2 (R.keeps (Kp.heap k02)) (hw.keeps (Kp.heap k02)) ((hn.keeps (Kp.heap k02)).sub fun z hz => by
                simp only [namesL, List.mem_append] at hz ⊢
                exact hz.elim (fun q => .inl (.inr q)) fun q => .inr (.inr q)) hxs hys hc.2 (by simpa using hl)) (fun prs s₃ q₃ => ?_) fun _ _ e => e
              obtain ⟨k23, kvs, hcar, rfl, hr⟩ := q₃
              exact ⟨Kp.trans k02 k23, (c, vv) :: kvs, ⟨rep_ck q₁.2, rfl, hcar⟩, rfl, .cons (q₂.2.keeps (Kp.heap k23)) hr⟩
            · cases he
          · cases he
        · cases hd
      · cases hd
theorem evalEach_map (es : List Expr) (env : Env) : evalEach es env = es.map fun e => eval e env := by
  induction es with
  | nil => rfl
  | cons e es ih => rw [arm_evalEach_cons, ih]; rfl
theorem evalEachOpt_map (es : List Expr) (env : Env) : evalEachOpt (es.map some) env = es.map fun e => some (eval e env) := by
  induction es with
  | nil => rfl
  | cons e es ih => rw [List.map_cons, List.map_cons, ← ih]; rfl
theorem chkEs_len {k : KD} : ∀ {es : List Expr} {ms : List ME}, chkEs k es ms = true → es.length = ms.length
  | [], [], _ => rfl
  | _ :: _, [], h => by simp [chkEs] at h
  | [], _ :: _, h => by simp [chkEs] at h
  | e :: es, m :: ms, h => by
    simp only [chkEs, Bool.and_eq_true] at h
    simp [chkEs_len h.2]
theorem evEs_len {ρ : List (String × D)} : ∀ {ms : List ME} {ds : List D}, evEs cf ρ ms = some ds → ds.length = ms.length
  | [], ds, h => by simp only [evEs] at h; cases h; rfl
  | m :: ms, ds, h => by
    simp only [evEs] at h
    split at h
    · split at h
      · rename_i q; cases h; simp [evEs_len q]
      · cases h
    · cases h
theorem sf_dct (G : GOk mg mb base) {ks vs : List ME} (hsk : ∀ e ∈ ks, SE prog w A base cf e) (hsv : ∀ e ∈ vs, SE prog w A base cf e) : SF prog w A base cf (.dct ks vs) := by
  intro s env e H ρ m d fr E hc R hw hn he
  obtain ⟨kes, ves, pos, rfl, hk, hv⟩ := inv_dct hc
  simp only [evF_dct, evE, Option.map_eq_some_iff] at he
  obtain ⟨d', he, e'⟩ := he
  cases e'
  split at he
  · rename_i ds hds
    split at he
    · rename_i es hes
      split at he
      · rename_i hcc; cases he
        simp only [Bool.and_eq_true, beq_iff_eq, decide_eq_true_eq] at hcc
        obtain ⟨⟨hcell, hlen⟩, h15⟩ := hcc
        have hsys : (s.heap.objs.size == sysModules) = false := by
          obtain ⟨o, _, _, h1, _⟩ := G.g
          have h2 := Heap.lt_size (hw.keep _ _ h1)
          have : (mainGlobals : Nat) = 3 := rfl
          have h3 : s.heap.objs.size ≠ sysModules := fun q => by rw [q] at h2; exact absurd h2 (by decide)
          simpa using h3
        have hnone : s.heap.get? s.heap.objs.size = none := by
          cases q : s.heap.get? s.heap.objs.size with
          | none => rfl
          | some o => exact absurd (Heap.lt_size q) (Nat.lt_irrefl _)
        -- the result
        have fin : ∀ (s₁ : Shared) (h' : Heap) (tk : Nat) (kvs : List (CK × Value)), Keeps { s with heap := s.heap.push { cls := .type "dict", data := .dict #[] } } s₁ → ds = (kvs.map fun p => ofCK p.1) → RepAll w.params s₁.heap (fun b => H b ∨ b = s.heap.objs.size) (kvs.map (·.2)) es → h'.DictOf (cellKind prog w) s.heap.objs.size (merged [] kvs) → Heap.SameBut s.heap.objs.size s₁.heap h' →
            PostF w s H (.dict (dputs ds es).1 (dputs ds es).2) true (.ref s.heap.objs.size) { s₁ with heap := h', toks := tk } := by
          intro s₁ h' tk kvs kp hds' hr hm hs
          obtain ⟨h₁, tk₁, rfl, hk1⟩ := kp
          obtain ⟨q1, q2⟩ := merged_dputs (acc := []) (accD := []) (accK := []) hr List.nodup_nil .nil rfl
          rw [← hds'] at q1 q2
          obtain ⟨es', n, r1, r2, r3, r4, r5, r6⟩ := rep_dictOf (H := fun b => H b ∨ b = s.heap.objs.size) hm
          rw [q1] at r2 r4 r5 r6
          have own : OwnD w.params h' H s.heap.objs.size (.dict (dputs ds es).1 (dputs ds es).2) := by
            refine ⟨es', n, r1, ?_, r2, ?_, r4, r5, r6, hsys⟩
            · have := dputs_len (ds.zip es) ([], [])
              unfold dputs
              simp only [List.length_nil, List.length_zip] at this
              unfold big
              omega
            · rw [r3]
              exact q2.mono (fun b o hb e => (hs.2 b fun q => hb (.inr q)).trans e) fun _ _ _ q => q
          refine ⟨⟨h', tk, rfl, fun b o e => ?_⟩, own.rep hw.ex.fresh, fun _ => ⟨_, rfl, hnone, own⟩⟩
          exact (hs.2 b fun q => by rw [q, hnone] at e; cases e).trans (hk1 b o (Heap.get?_push_of_some _ e))
        by_cases h0 : kes.zip ves = []
        · have hk0 : kes = [] ∧ ves = [] := by
            have l1 := chkEs_len hk
            have l2 := chkEs_len hv
            have l3 := evEs_len hds
            have l4 := evEs_len hes
            cases kes with
            | nil => cases ves with
              | nil => exact ⟨rfl, rfl⟩
              | cons _ _ => simp at l1 l2; omega
            | cons _ _ => cases ves with
              | nil => simp at l1 l2; omega
              | cons _ _ => simp at h0
          obtain ⟨rfl, rfl⟩ := hk0
          have l1 := chkEs_len hk
          have l2 := chkEs_len hv
          cases ks with
          | cons _ _ => simp at l1
          | nil =>
          cases vs with
          | cons _ _ => simp at l2
          | nil =>
            simp only [evEs] at hds hes
            cases hds; cases hes
            exact wpAny_Dict_empty (fin { s with heap := s.heap.push { cls := .type "dict", data := .dict #[] } } _ _ [] (Kp.refl _) rfl .nil (Heap.DictOf.new _) (Heap.SameBut.refl _ _))
        · have hlz : (kes.zip ves).length ≤ 15 := by
            have l1 := chkEs_len hk
            have l3 := evEs_len hds
            rw [List.length_zip]; omega
          refine wpAny_Dict_pairs (knd := cellKind prog w) (pairs := (kes.zip ves).map fun p => (eval p.1 env, do let x ← eval p.2 env; standAt pos; pure x)) ?_ (by simpa using h0) (by simpa using hlz) ?_
          · rw [evalEach_map, evalEachOpt_map, List.map_map, List.map_map, List.zip_map]
            simp [Function.comp_def]
          · have hw' : HOk base (s.heap.push { cls := .type "dict", data := .dict #[] }) (fun b => H b ∨ b = s.heap.objs.size) := by
              have k1 := hw.keeps (h' := s.heap.push { cls := .type "dict", data := .dict #[] }) fun _ _ e => Heap.get?_push_of_some _ e
              refine ⟨k1.keep, fun b q => ?_, fun b o e q => ?_⟩
              · rcases q with q | q
                · exact k1.ex b q
                · exact ⟨b, _, Nat.le_refl _, q ▸ Heap.get?_push_size _ rfl⟩
              · rcases q with q | q
                · exact hw.off b o e q
                · rw [q] at e; rw [hw.keep _ _ e] at hnone; cases hnone
            have hn' : NV w.params env.kindOf (namesL ks ++ namesL vs) ρ m (s.heap.push { cls := .type "dict", data := .dict #[] }) (fun b => H b ∨ b = s.heap.objs.size) := by
              intro x hx hv d hd
              obtain ⟨v, h1, h2⟩ := hn x (by simpa only [ME.names] using hx) hv d hd
              refine ⟨v, h1, h2.mono (fun b o _ e => Heap.get?_push_of_some _ e) fun b o e q => ?_⟩
              rcases q with q | q
              · exact q
              · rw [q, hnone] at e; cases e
            refine wpAny_mono (evalPairs_snd (s := { s with heap := s.heap.push { cls := .type "dict", data := .dict #[] } }) hsk hsv hk hv (R.keeps fun _ _ e => Heap.get?_push_of_some _ e) hw' hn' hds hes hcell hlen) (fun prs s₁ q => ?_) fun _ _ e => e
            obtain ⟨kp, kvs, hcar, e1, hr⟩ := q
            refine ⟨kvs, hcar, ?_, fun h' hm hs => fin s₁ h' _ kvs kp e1 hr hm hs⟩
            obtain ⟨o, es', ep, ho, r⟩ := Heap.DictOf.new (knd := cellKind prog w) s.heap
            exact ⟨o, es', ep, Kp.heap kp _ _ ho, r⟩
      · cases he
    · cases he
  · cases he
end
end Mine

namespace Mine
open PySem PySem.SeqAt

noncomputable def plainE : Expr → Bool
  | .UnaryOp .Not _ _ | .BoolOp .. | .IfExp .. | .Compare .. => false
  | _ => true
theorem isTrue_plainE {e : Expr} {env : Env} {whole : Sem Value} (h : plainE e = true) : isTrue e env whole = (do let v ← whole; standAt e.pos; holding [v] (truthy v)) := by
  cases e with
  | UnaryOp op x p => cases op <;> first | rfl | cases h
  | BoolOp => cases h
  | IfExp => cases h
  | Compare => cases h
  | _ => rfl
noncomputable def ME.plain : ME → Bool
  | .not _ | .bop _ _ | .cmp _ _ _ => false
  | _ => true
theorem chk_plain {k : KD} {e : Expr} {me : ME} (hp : me.plain = true) (hc : chkE k e me = true) : plainE e = true := by
  by_cases h6 : shapeM me = 6
  · cases me <;> first | (cases hp; done) | (obtain ⟨_, _, rfl, _⟩ := inv_neg hc; rfl) | (cases h6; done)
  · have h := chk_shape hc
    have h4 : (shapeM me != 0 && shapeM me != 4 && shapeM me != 5) = true := by cases me <;> first | (cases hp; done) | rfl
    rw [← h] at h4 h6
    cases e <;> first | rfl | exact absurd rfl h6 | exact absurd h4 Bool.false_ne_true

section
variable {prog : Program} {w : World} {A : Around} {s : Shared} {base : Heap} {mg mb : Str → Option Value} {cf : CF}

theorem sf_plain {me : ME} (h : SE prog w A base cf me) (hf : ∀ ρ, evF cf ρ me = (evE cf ρ me).map fun d => (d, false)) : SF prog w A base cf me := by
  intro s env e H ρ m d fr E hc R hw hn he
  rw [hf, Option.map_eq_some_iff] at he
  obtain ⟨d', h1, h2⟩ := he
  cases h2
  exact wpAny_mono (h s env e H ρ m d E hc R hw hn h1) (fun _ _ q => ⟨q.1, q.2, fun e => by cases e⟩) fun _ _ e => e

theorem sf_comp {elt src : ME} {x : String} {cs : List ME} (hh : A.handled = none) (he : SE prog w A base cf elt) (hs : SE prog w A base cf src) (hcs : SC prog w A base cf cs) : SF prog w A base cf (.comp elt x src cs) := by
  intro s env e H ρ m d fr E hc R hw hn hev
  simp only [evF_comp, Option.map_eq_some_iff] at hev
  obtain ⟨d', hev, e'⟩ := hev
  cases e'
  obtain ⟨_, _, _, _, _, _, _, rfl, _⟩ := inv_comp hc
  · rw [eval_ListComp]
    refine comp_snd (use := none) hh he hs hcs hc R hw hn hev fun L C h' tk m' out hd hL hC hLC hns hown hk => ⟨m', hns, fun h'' hs'' => ?_⟩
    have kk : ∀ b o, s.heap.get? b = some o → h''.get? b = some o := fun b o e => (hs''.2 b (fun q => by rw [q, hC] at e; cases e)).trans (hk b o e)
    have own : OwnL w.params h'' H L out := by
      obtain ⟨vs, n, q1, q2, q3⟩ := hown
      refine ⟨vs, n, (hs''.2 L hLC).trans q1, q2, q3.mono (fun a o hn e => (hs''.2 a fun q => hn (.inl (.inr q))).trans e) fun a o _ q => q.elim (fun q => .inl (.inl q)) .inr⟩
    have hLn : s.heap.get? L = none := by
      cases e : s.heap.get? L with
      | none => rfl
      | some o => exact absurd (hL _ _ e) (Nat.lt_irrefl _)
    refine ⟨⟨h'', tk, rfl, kk⟩, ?_, fun _ => ⟨L, rfl, hLn, by rw [hd]; exact own⟩⟩
    rw [hd]
    refine own.rep fun q => ?_
    obtain ⟨b, o, hb, ho⟩ := hw.ex L q
    exact Nat.lt_irrefl _ (Nat.lt_of_le_of_lt hb (hL b o ho))

theorem evF_callx (f : String) (ms : List ME) (ρ : List (String × D)) (d : D) (h : evE cf ρ (.call f ms) = some d) : ∃ fr, evF cf ρ (.call f ms) = some (d, fr) := by
  simp only [evE] at h
  simp only [evF_call]
  split at h
  · rename_i ds hds
    rw [Option.map_eq_some_iff] at h
    obtain ⟨⟨d', fr⟩, h1, h2⟩ := h
    cases h2
    exact ⟨fr, h1⟩
  · cases h

theorem blt_name {f : String} {ds : List D} {d : D} (h : bltD f ds = some d) : f ∈ bltNames := by
  unfold bltD bltI bltI2 at h
  repeat' split at h
  all_goals first | (cases h; done) | (subst_vars; decide)
mutual
theorem all_E (G : GOk mg mb base) (C : CSound prog w base mg cf A) (hh : A.handled = none) (hu : A.units + 1 < cLine) (me : ME) : SE prog w A base cf me ∧ ST prog w A base cf me ∧ SF prog w A base cf me := by
  have fin : SE prog w A base cf me → me.plain = true → (∀ ρ, evF cf ρ me = (evE cf ρ me).map fun d => (d, false)) → SE prog w A base cf me ∧ ST prog w A base cf me ∧ SF prog w A base cf me := fun h1 h2 h3 =>
    ⟨h1, st_plain h1 (fun e k env whole hc => isTrue_plainE (chk_plain h2 hc)), sf_plain h1 h3⟩
  have finF : SF prog w A base cf me → me.plain = true → (∀ ρ d, evE cf ρ me = some d → ∃ fr, evF cf ρ me = some (d, fr)) → SE prog w A base cf me ∧ ST prog w A base cf me ∧ SF prog w A base cf me := fun h1 h2 h3 =>
    have h4 := se_of_sf h1 h3
    ⟨h4, st_plain h4 (fun e k env whole hc => isTrue_plainE (chk_plain h2 hc)), h1⟩
  match me with
  | .var x => exact fin (se_var x) rfl fun _ => rfl
  | .glob x => exact fin (se_glob G C x) rfl fun _ => rfl
  | .int i => exact fin (se_int i) rfl fun _ => rfl
  | .str x => exact fin (se_str x) rfl fun _ => rfl
  | .bool b => exact fin (se_bool b) rfl fun _ => rfl
  | .none => exact fin se_none rfl fun _ => rfl
  | .bin op a b => exact finF (sf_bin (all_E G C hh hu a).1 (all_E G C hh hu b).1) rfl fun ρ d h => ⟨d.isList, by rw [evF_bin, h]; rfl⟩
  | .cmp op a b =>
    have ha := (all_E G C hh hu a).1
    have hb := (all_E G C hh hu b).1
    exact ⟨se_cmp hu ha hb, st_cmp hu ha hb, sf_plain (se_cmp hu ha hb) fun _ => rfl⟩
  | .bop op ms =>
    have h := (all_Es G C hh hu ms).2.1
    exact ⟨se_bop h, st_bop h, sf_plain (se_bop h) fun _ => rfl⟩
  | .not a =>
    have h := all_E G C hh hu a
    exact ⟨se_not h.1, st_not h.2.1, sf_plain (se_not h.1) fun _ => rfl⟩
  | .neg a => exact fin (se_neg (all_E G C hh hu a).1) rfl fun _ => rfl
  | .tup ms => exact fin (se_tup (all_Es G C hh hu ms).1) rfl fun _ => rfl
  | .lst ms => exact finF (sf_lst (all_Es G C hh hu ms).1) rfl fun ρ d h => ⟨true, by rw [evF_lst, h]; rfl⟩
  | .dct ks vs => exact finF (sf_dct G (all_Es G C hh hu ks).2.2.2 (all_Es G C hh hu vs).2.2.2) rfl fun ρ d h => ⟨true, by rw [evF_dct, h]; rfl⟩
  | .sub a b => exact fin (se_sub (all_E G C hh hu a).1 (all_E G C hh hu b).1) rfl fun _ => rfl
  | .sl a b c => exact finF (sf_sl (all_E G C hh hu a).1 (all_E G C hh hu b).1 (all_E G C hh hu c).1) rfl fun ρ d h => ⟨d.isList, by rw [evF_sl, h]; rfl⟩
  | .lcp a => exact finF (sf_lcp G hh (ses_cons (all_E G C hh hu a).1 ses_nil)) rfl fun ρ d h => ⟨true, by rw [evF_lcp, h]; rfl⟩
  | .comp elt x src cs => exact finF (sf_comp hh (all_E G C hh hu elt).1 (all_E G C hh hu src).1 (all_Es G C hh hu cs).2.2.1) rfl fun ρ d h => ⟨true, by rw [evF_comp, h]; rfl⟩
  | .call f ms => exact finF (sf_call G C (all_Es G C hh hu ms).1) rfl (evF_callx f ms)
  | .isi a T => exact fin (se_isi G (all_E G C hh hu a).1) rfl fun _ => rfl
  | .blt f ms =>
    refine fin ?_ rfl fun _ => rfl
    by_cases hf : f ∈ bltNames
    · exact se_blt G hh hf (all_Es G C hh hu ms).1
    · intro s env e H ρ m d E hc R hw hn he
      exfalso
      simp only [evE] at he
      split at he
      · exact hf (blt_name he)
      · cases he
termination_by structural me
theorem all_Es (G : GOk mg mb base) (C : CSound prog w base mg cf A) (hh : A.handled = none) (hu : A.units + 1 < cLine) (ms : List ME) : SEs prog w A base cf ms ∧ SB prog w A base cf ms ∧ SC prog w A base cf ms ∧ ∀ e ∈ ms, SE prog w A base cf e := by
  match ms with
  | [] => exact ⟨ses_nil, sb_nil, sc_nil, fun _ h => nomatch h⟩
  | a :: r =>
    have ha := all_E G C hh hu a
    have hr := all_Es G C hh hu r
    refine ⟨ses_cons ha.1 hr.1, ?_, sc_cons ha.2.1 hr.2.2.1, fun e he => (List.mem_cons.mp he).elim (fun q => q ▸ ha.1) (hr.2.2.2 e)⟩
    cases r with
    | nil => exact sb_one ha.1 ha.2.1
    | cons b r => exact sb_cons ha.1 ha.2.1 hr.2.1
termination_by structural ms
end
end
end Mine

namespace Mine
open PySem PySem.SeqAt

noncomputable def isStore (k : KD) (x : Str) : Bool := (k x == some .local || k x == some .cell) && isVar k x
noncomputable def notComp : Expr → Bool
  | .ListComp .. | .SetComp .. | .DictComp .. => false
  | _ => true

noncomputable def cAssign (e : Stmt) (f : List Expr → Expr → Pos → Bool) : Bool := match e with | .Assign ts v p => f ts v p | _ => false
theorem cAssign_inv {e : Stmt} {f : List Expr → Expr → Pos → Bool} (h : cAssign e f = true) : ∃ (ts : List Expr) (v : Expr) (p : Pos), e = .Assign ts v p ∧ f ts v p = true := by
  cases e <;> first | exact ⟨_, _, _, rfl, h⟩ | exact absurd h Bool.false_ne_true
noncomputable def cExpr (e : Stmt) (f : Expr → Pos → Bool) : Bool := match e with | .Expr v p => f v p | _ => false
theorem cExpr_inv {e : Stmt} {f : Expr → Pos → Bool} (h : cExpr e f = true) : ∃ (v : Expr) (p : Pos), e = .Expr v p ∧ f v p = true := by
  cases e <;> first | exact ⟨_, _, rfl, h⟩ | exact absurd h Bool.false_ne_true
noncomputable def cIf (e : Stmt) (f : Expr → List Stmt → List Stmt → Pos → Bool) : Bool := match e with | .If v b o p => f v b o p | _ => false
theorem cIf_inv {e : Stmt} {f : Expr → List Stmt → List Stmt → Pos → Bool} (h : cIf e f = true) : ∃ (v : Expr) (b : List Stmt) (o : List Stmt) (p : Pos), e = .If v b o p ∧ f v b o p = true := by
  cases e <;> first | exact ⟨_, _, _, _, rfl, h⟩ | exact absurd h Bool.false_ne_true
noncomputable def cFor (e : Stmt) (f : Expr → Expr → List Stmt → List Stmt → Pos → Bool) : Bool := match e with | .For t i b o p => f t i b o p | _ => false
theorem cFor_inv {e : Stmt} {f : Expr → Expr → List Stmt → List Stmt → Pos → Bool} (h : cFor e f = true) : ∃ (t : Expr) (i : Expr) (b : List Stmt) (o : List Stmt) (p : Pos), e = .For t i b o p ∧ f t i b o p = true := by
  cases e <;> first | exact ⟨_, _, _, _, _, rfl, h⟩ | exact absurd h Bool.false_ne_true
noncomputable def cRet (e : Stmt) (f : Option Expr → Pos → Bool) : Bool := match e with | .Return v p => f v p | _ => false
theorem cRet_inv {e : Stmt} {f : Option Expr → Pos → Bool} (h : cRet e f = true) : ∃ (v : Option Expr) (p : Pos), e = .Return v p ∧ f v p = true := by
  cases e <;> first | exact ⟨_, _, rfl, h⟩ | exact absurd h Bool.false_ne_true
mutual
noncomputable def chkS (k : KD) (st : Stmt) (ms : MS) : Bool := match ms with
  | .assign x e => cAssign st fun ts v _ => c1 ts fun t => cName t fun y _ => y == Str.ofString x && isStore k y && chkE k v e
  | .append x e => cExpr st fun v _ => cCall v fun g as ks p => ks.isEmpty && c1 as fun a => cAttr g fun n at_ ap => cName n fun y _ => y == Str.ofString x && isStore k y && at_ == Str.ofString "append" && ap.endLine == p.line && chkE k a e
  | .setk x ke e => cAssign st fun ts v _ => c1 ts fun t => cSub t fun o i _ => cName o fun y _ => y == Str.ofString x && isStore k y && chkE k i ke && chkE k v e
  | .ite c t f => cIf st fun v b o _ => chkE k v c && chkSs k b t && chkSs k o f
  | .for_ x src body => cFor st fun t it b o _ => o.isEmpty && cName t fun y _ => y == Str.ofString x && isStore k y && notSet it && chkE k it src && chkSs k b body
  | .ret e => cRet st fun v _ => cOpt v fun v => chkE k v e
  | .bad => true
termination_by structural ms
noncomputable def chkSs (k : KD) (ss : List Stmt) (ms : List MS) : Bool := match ms with
  | [] => ss.isEmpty
  | a :: r => (match ss with | s :: ss' => chkS k s a && chkSs k ss' r | [] => false)
termination_by structural ms
end

section
variable {k : KD} {st : Stmt}
theorem inv_assign {x : String} {e : ME} (h : chkS k st (.assign x e) = true) : ∃ y p v pos, st = .Assign [.Name y p] v pos ∧ (y == Str.ofString x && isStore k y && chkE k v e) = true := by
  rw [chkS] at h; replace h := cAssign_inv h; obtain ⟨ts, v, p, rfl, h⟩ := h
  replace h := c1_inv h; obtain ⟨t, rfl, h⟩ := h
  replace h := cName_inv h; obtain ⟨y, py, rfl, h⟩ := h
  exact ⟨y, py, v, p, rfl, h⟩
theorem inv_append {x : String} {e : ME} (h : chkS k st (.append x e) = true) : ∃ y yp at_ ap a p pos, st = .Expr (.Call (.Attribute (.Name y yp) at_ ap) [a] [] p) pos ∧ (y == Str.ofString x && isStore k y && at_ == Str.ofString "append" && ap.endLine == p.line && chkE k a e) = true := by
  rw [chkS] at h; replace h := cExpr_inv h; obtain ⟨v, pos, rfl, h⟩ := h
  replace h := cCall_inv h; obtain ⟨g, as, ks, p, rfl, h⟩ := h
  rw [Bool.and_eq_true] at h
  obtain ⟨h1, h⟩ := h
  replace h := c1_inv h; obtain ⟨a, rfl, h⟩ := h
  replace h := cAttr_inv h; obtain ⟨n, at_, ap, rfl, h⟩ := h
  replace h := cName_inv h; obtain ⟨y, yp, rfl, h⟩ := h
  exact ⟨y, yp, at_, ap, a, p, pos, by rw [List.isEmpty_iff.mp h1], h⟩
theorem inv_setk {x : String} {ke e : ME} (h : chkS k st (.setk x ke e) = true) : ∃ y yp i p v pos, st = .Assign [.Subscript (.Name y yp) i p] v pos ∧ (y == Str.ofString x && isStore k y && chkE k i ke && chkE k v e) = true := by
  rw [chkS] at h; replace h := cAssign_inv h; obtain ⟨ts, v, pos, rfl, h⟩ := h
  replace h := c1_inv h; obtain ⟨t, rfl, h⟩ := h
  replace h := cSub_inv h; obtain ⟨o, i, p, rfl, h⟩ := h
  replace h := cName_inv h; obtain ⟨y, yp, rfl, h⟩ := h
  exact ⟨y, yp, i, p, v, pos, rfl, h⟩
theorem inv_ite {c : ME} {t f : List MS} (h : chkS k st (.ite c t f) = true) : ∃ v b o p, st = .If v b o p ∧ (chkE k v c && chkSs k b t && chkSs k o f) = true := by
  rw [chkS] at h; exact cIf_inv h
theorem inv_for {x : String} {src : ME} {body : List MS} (h : chkS k st (.for_ x src body) = true) : ∃ y yp it b p, st = .For (.Name y yp) it b [] p ∧ (y == Str.ofString x && isStore k y && notSet it && chkE k it src && chkSs k b body) = true := by
  rw [chkS] at h; replace h := cFor_inv h; obtain ⟨t, it, b, o, p, rfl, h⟩ := h
  rw [Bool.and_eq_true] at h
  obtain ⟨h1, h⟩ := h
  replace h := cName_inv h; obtain ⟨y, yp, rfl, h⟩ := h
  exact ⟨y, yp, it, b, p, by rw [List.isEmpty_iff.mp h1], h⟩
theorem inv_ret {e : ME} (h : chkS k st (.ret e) = true) : ∃ v p, st = .Return (some v) p ∧ chkE k v e = true := by
  rw [chkS] at h; replace h := cRet_inv h; obtain ⟨v, p, rfl, h⟩ := h
  replace h := cOpt_inv h; obtain ⟨v, rfl, h⟩ := h
  exact ⟨v, p, rfl, h⟩
end

noncomputable abbrev Own := String → Option Addr
noncomputable def Hot (env : Env) (H₀ : Addr → Prop) (own : Own) (b : Addr) : Prop := H₀ b ∨ b = env.locals ∨ (∃ x, env.cells.lookup x = some b) ∨ ∃ x, own x = some b
noncomputable def Own.less (own : Own) (ns : List String) : Own := fun x => if x ∈ ns then none else own x
theorem Hot.less {env : Env} {H₀ : Addr → Prop} {own : Own} {ns : List String} {b : Addr} (h : Hot env H₀ (own.less ns) b) : Hot env H₀ own b := by
  rcases h with h | h | h | ⟨x, h⟩
  · exact .inl h
  · exact .inr (.inl h)
  · exact .inr (.inr (.inl h))
  · unfold Own.less at h
    split at h
    · cases h
    · exact .inr (.inr (.inr ⟨x, h⟩))

structure StOk (w : World) (base ent h : Heap) (env : Env) (H₀ : Addr → Prop) (own : Own) (m : Str → Option Value) (σ : St) : Prop where
  rep : EnvRep h env m
  plain : ∀ x d, σ.lookup x = some (false, d) → ∃ v, m (Str.ofString x) = some v ∧ Rep w.params h (Hot env H₀ own) v d
  owned : ∀ x d, σ.lookup x = some (true, d) → ∃ a, own x = some a ∧ m (Str.ofString x) = some (.ref a) ∧ OwnD w.params h (Hot env H₀ own) a d
  hot : HOk base h (Hot env H₀ own)
  keep : ∀ b o, ent.get? b = some o → h.get? b = some o
  frE : ent.get? env.locals = none ∧ ∀ x c, env.cells.lookup x = some c → ent.get? c = none
  own1 : ∀ x a, own x = some a → ent.get? a = none ∧ ¬ H₀ a ∧ a ≠ env.locals ∧ ∀ y, env.cells.lookup y ≠ some a
  inj : ∀ x y a, own x = some a → own y = some a → x = y
  ownx : ∀ x a, own x = some a → ∃ o, h.get? a = some o

theorem OwnL.mono {P : Params} {h h' : Heap} {H H' : Addr → Prop} {a : Addr} {ds : List D} (o : OwnL P h H a ds) (ha : ∀ o, h.get? a = some o → h'.get? a = some o) (hk : ∀ b o, ¬ H b → h.get? b = some o → h'.get? b = some o) (hH : ∀ b o, h.get? b = some o → H' b → H b ∨ b = a) : OwnL P h' H' a ds := by
  obtain ⟨vs, n, h1, h2, h3⟩ := o
  refine ⟨vs, n, ha _ h1, h2, h3.mono (fun b o hn e => hk b o (fun q => hn (.inl q)) e) fun b o e q => q.elim (hH b o e) .inr⟩

theorem OwnD.mono {P : Params} {h h' : Heap} {H H' : Addr → Prop} {a : Addr} {d : D} (o : OwnD P h H a d) (ha : ∀ o, h.get? a = some o → h'.get? a = some o) (hk : ∀ b o, ¬ H b → h.get? b = some o → h'.get? b = some o) (hH : ∀ b o, h.get? b = some o → H' b → H b ∨ b = a) : OwnD P h' H' a d := by
  cases d <;> first | exact OwnL.mono o ha hk hH | exact False.elim o | skip
  obtain ⟨es, n, h1, h2, h3, h4, h5⟩ := o
  exact ⟨es, n, ha _ h1, h2, h3.mono (fun b o hn e => hk b o (fun q => hn (.inl q)) e) (fun b o e q => q.elim (hH b o e) .inr), h4.mono (fun b o hn e => hk b o (fun q => hn (.inl q)) e) (fun b o e q => q.elim (hH b o e) .inr), h5⟩

theorem StOk.keeps {w : World} {base ent h h' : Heap} {env : Env} {H₀ : Addr → Prop} {own : Own} {m : Str → Option Value} {σ : St} (S : StOk w base ent h env H₀ own m σ) (hk : ∀ a o, h.get? a = some o → h'.get? a = some o) :
    StOk w base ent h' env H₀ own m σ where
  rep := S.rep.keeps hk
  plain := fun x d e => let ⟨v, h1, h2⟩ := S.plain x d e; ⟨v, h1, h2.keeps hk⟩
  owned := fun x d e => let ⟨a, h1, h2, h4⟩ := S.owned x d e; ⟨a, h1, h2, h4.mono (fun o e => hk _ o e) (fun b o _ e => hk b o e) fun _ _ _ q => .inl q⟩
  hot := S.hot.keeps hk
  keep := fun b o e => hk b o (S.keep b o e)
  frE := S.frE
  own1 := S.own1
  inj := S.inj
  ownx := fun x a e => let ⟨o, ho⟩ := S.ownx x a e; ⟨o, hk _ _ ho⟩

theorem lookup_vis (x : String) : ∀ (σ : St), (vis σ).lookup x = (σ.lookup x).map (·.2)
  | [] => rfl
  | (y, v) :: r => by
    have ih := lookup_vis x r
    unfold vis at ih ⊢
    rw [List.map_cons, List.lookup_cons, List.lookup_cons]
    by_cases h : x = y
    · subst h; simp
    · have : (x == y) = false := by simpa using h
      simp only [this]
      exact ih
theorem lookup_setv (x y : String) (v : Bool × D) : ∀ (σ : St), (setv σ x v).lookup y = if y = x then some v else σ.lookup y
  | [] => by
    unfold setv
    rw [List.lookup_cons]
    by_cases h : y = x
    · simp [h]
    · have : (y == x) = false := by simpa using h
      simp [h, this]
  | (z, u) :: r => by
    unfold setv
    split
    · rename_i h; subst h
      rw [List.lookup_cons, List.lookup_cons]
      by_cases h : y = z
      · simp [h]
      · have : (y == z) = false := by simpa using h
        simp [h, this]
    · rename_i hz
      rw [List.lookup_cons, List.lookup_cons, lookup_setv x y v r]
      by_cases h : y = x
      · subst h
        have : (y == z) = false := by simpa using Ne.symm hz
        simp [this]
      · simp [h]
theorem lookup_freeze (ns : List String) (x : String) : ∀ (σ : St), (freeze ns σ).lookup x = (σ.lookup x).map fun p => (p.1 && !ns.contains x, p.2)
  | [] => rfl
  | (y, v) :: r => by
    have ih := lookup_freeze ns x r
    unfold freeze at ih ⊢
    rw [List.map_cons, List.lookup_cons, List.lookup_cons]
    by_cases h : x = y
    · subst h; simp
    · have : (x == y) = false := by simpa using h
      simp only [this]
      exact ih

theorem StOk.freeze {w : World} {base ent h : Heap} {env : Env} {H₀ : Addr → Prop} {own : Own} {m : Str → Option Value} {σ : St} (S : StOk w base ent h env H₀ own m σ) (ns : List String) :
    StOk w base ent h env H₀ (own.less ns) m (Mine.freeze ns σ) where
  rep := S.rep
  plain := fun x d e => by
    rw [lookup_freeze] at e
    simp only [Option.map_eq_some_iff, Prod.mk.injEq] at e
    obtain ⟨⟨o, d'⟩, h1, h2, h3⟩ := e
    simp only at h2 h3
    subst h3
    cases o with
    | false =>
      obtain ⟨v, q1, q2⟩ := S.plain x d' h1
      exact ⟨v, q1, q2.sub fun _ q => q.less⟩
    | true =>
      simp only [Bool.true_and, Bool.not_eq_false', List.contains_iff_mem] at h2
      obtain ⟨a, q1, q2, q4⟩ := S.owned x d' h1
      refine ⟨_, q2, (q4.mono (H' := Hot env H₀ (own.less ns)) (fun _ e => e) (fun _ _ _ e => e) fun _ _ _ q => .inl q.less).rep ?_⟩
      obtain ⟨_, g1, g2, g3⟩ := S.own1 x a q1
      rintro (e | e | ⟨y, e⟩ | ⟨y, e⟩)
      · exact g1 e
      · exact g2 e
      · exact g3 y e
      · unfold Own.less at e
        split at e
        · cases e
        · rename_i hy
          exact hy (S.inj x y a q1 e ▸ h2)
  owned := fun x d e => by
    rw [lookup_freeze] at e
    simp only [Option.map_eq_some_iff, Prod.mk.injEq] at e
    obtain ⟨⟨o, d'⟩, h1, h2, h3⟩ := e
    simp only at h2 h3
    subst h3
    simp only [Bool.and_eq_true, Bool.not_eq_true', List.contains_eq_mem, decide_eq_false_iff_not] at h2
    obtain ⟨rfl, h2⟩ := h2
    obtain ⟨a, q1, q2, q4⟩ := S.owned x d' h1
    exact ⟨a, by unfold Own.less; rw [if_neg h2]; exact q1, q2, q4.mono (fun _ e => e) (fun _ _ _ e => e) fun _ _ _ q => .inl q.less⟩
  hot := ⟨S.hot.keep, fun a q => S.hot.ex a q.less, fun b o e q => S.hot.off b o e q.less⟩
  keep := S.keep
  frE := S.frE
  own1 := fun x a e => S.own1 x a (by unfold Own.less at e; split at e <;> first | cases e | exact e)
  inj := fun x y a e1 e2 => S.inj x y a (by unfold Own.less at e1; split at e1 <;> first | cases e1 | exact e1) (by unfold Own.less at e2; split at e2 <;> first | cases e2 | exact e2)
  ownx := fun x a e => S.ownx x a (by unfold Own.less at e; split at e <;> first | cases e | exact e)

/-- what is known of the variables, all those of ns let go -/
theorem StOk.nv {w : World} {base ent h : Heap} {env : Env} {H₀ : Addr → Prop} {own : Own} {m : Str → Option Value} {σ : St} (S : StOk w base ent h env H₀ own m σ) (ns : List String) :
    NV w.params env.kindOf ns (vis σ) m h (Hot env H₀ (own.less ns)) := by
  intro x hx _ d hd
  rw [lookup_vis] at hd
  simp only [Option.map_eq_some_iff] at hd
  obtain ⟨⟨o, d'⟩, h1, h2⟩ := hd
  simp only at h2
  subst h2
  have : (Mine.freeze ns σ).lookup x = some (false, d') := by
    rw [lookup_freeze, h1]
    simp [List.contains_iff_mem, hx]
  exact (S.freeze ns).plain x d' this
end Mine

namespace Mine
open PySem PySem.SeqAt

section
variable {w : World} {base ent h h₁ h₂ : Heap} {env : Env} {H₀ : Addr → Prop} {own : Own} {m : Str → Option Value} {σ : St}

theorem frame_ex {a : Addr} (R : EnvRep h env m) (ha : a = env.locals ∨ ∃ y, env.cells.lookup y = some a) : ∃ o, h.get? a = some o := by
  rcases ha with rfl | ⟨y, e⟩
  · obtain ⟨_, ⟨o, _, _, e, _⟩, _⟩ := R.loc; exact ⟨o, e⟩
  · exact R.ex y a e

theorem StOk.assign (S : StOk w base ent h env H₀ own m σ) (hk : ∀ b o, h.get? b = some o → h₁.get? b = some o) {x : String} {v : Value} {a : Addr} {fr : Bool} {d : D} {nw : Option Addr}
    (R₂ : EnvRep h₂ env (upd m (Str.ofString x) v)) (ha : a = env.locals ∨ ∃ y, env.cells.lookup y = some a) {X : Addr → Prop} (hX : ∀ b, X b → h.get? b = none) (hs : ∀ b, b ≠ a → ¬ X b → h₂.get? b = h₁.get? b)
    (hv : (fr = false ∧ nw = none ∧ Rep w.params h₁ (fun b => Hot env H₀ own b ∨ X b) v d) ∨ (fr = true ∧ ∃ c, nw = some c ∧ v = .ref c ∧ h.get? c = none ∧ ¬ H₀ c ∧ ¬ X c ∧ OwnD w.params h₁ (fun b => Hot env H₀ own b ∨ X b) c d)) :
    StOk w base ent h₂ env H₀ (fun y => if y = x then nw else own y) (upd m (Str.ofString x) v) (setv σ x (fr, d)) := by
  have aHot : ∀ own', Hot env H₀ own' a := fun own' => .inr (ha.elim .inl fun e => .inr (.inl e))
  have aEx : ∃ o, h.get? a = some o := frame_ex S.rep ha
  have nX : ∀ b o, h.get? b = some o → ¬ X b := fun b o e q => by have := hX b q; rw [e] at this; cases this
  have newc : ∀ c, nw = some c → h.get? c = none ∧ ¬ H₀ c ∧ ∃ o, h₂.get? c = some o := by
    intro c hc
    rcases hv with ⟨_, e, _⟩ | ⟨_, c', e, _, h1, h2, hXc, h3⟩
    · rw [e] at hc; cases hc
    · rw [e] at hc; cases hc
      obtain ⟨_, h3⟩ := h3.ex
      refine ⟨h1, h2, _, (hs c (fun q => ?_) hXc).trans h3⟩
      obtain ⟨o, ho⟩ := aEx
      rw [← q, h1] at ho; cases ho
  have hotEq : ∀ b o, h.get? b = some o → Hot env H₀ (fun y => if y = x then nw else own y) b → Hot env H₀ own b := by
    intro b o e q
    rcases q with q | q | q | ⟨y, q⟩
    · exact .inl q
    · exact .inr (.inl q)
    · exact .inr (.inr (.inl q))
    · dsimp only at q
      split at q
      · have := (newc b q).1; rw [e] at this; cases this
      · exact .inr (.inr (.inr ⟨y, q⟩))
  have k2 : ∀ b o, ¬ Hot env H₀ own b → h.get? b = some o → h₂.get? b = some o := fun b o hn e => (hs b (fun q => hn (q ▸ aHot own)) (nX b o e)).trans (hk b o e)
  have k2' : ∀ b o, h.get? b = some o → ∃ o', h₂.get? b = some o' := fun b o e => by
    by_cases q : b = a
    · exact q ▸ frame_ex R₂ ha
    · exact ⟨o, (hs b q (nX b o e)).trans (hk b o e)⟩
  refine ⟨R₂, ?_, ?_, ⟨?_, ?_, ?_⟩, ?_, S.frE, ?_, ?_, ?_⟩
  · intro y d' e
    rw [lookup_setv] at e
    split at e
    · rename_i q; subst q
      cases e
      rcases hv with ⟨_, rfl, r⟩ | ⟨e, _⟩
      · refine ⟨v, by simp [upd], r.mono (fun b o hn e => (hs b (fun q => hn (.inl (q ▸ aHot own))) (fun q => hn (.inr q))).trans e) fun b o _ q => .inl ?_⟩
        rcases q with q | q | q | ⟨z, q⟩
        · exact .inl q
        · exact .inr (.inl q)
        · exact .inr (.inr (.inl q))
        · dsimp only at q
          split at q
          · cases q
          · exact .inr (.inr (.inr ⟨z, q⟩))
      · cases e
    · rename_i q
      obtain ⟨u, h1, h2⟩ := S.plain y d' e
      refine ⟨u, ?_, h2.mono k2 hotEq⟩
      have : Str.ofString y ≠ Str.ofString x := fun e => q (ofString_inj e)
      simp [upd, this, h1]
  · intro y d' e
    rw [lookup_setv] at e
    split at e
    · rename_i q; subst q
      cases e
      rcases hv with ⟨e, _⟩ | ⟨_, c, rfl, rfl, h1, h2, hXc, h3⟩
      · cases e
      · have hca : c ≠ a := fun q => by obtain ⟨o, ho⟩ := aEx; rw [← q, h1] at ho; cases ho
        refine ⟨c, by simp, by simp [upd], h3.mono (fun o e => (hs c hca hXc).trans e) (fun b o hn e => (hs b (fun q => hn (.inl (q ▸ aHot own))) (fun q => hn (.inr q))).trans e) fun b o _ q => ?_⟩
        rcases q with q | q | q | ⟨z, q⟩
        · exact .inl (.inl (.inl q))
        · exact .inl (.inl (.inr (.inl q)))
        · exact .inl (.inl (.inr (.inr (.inl q))))
        · dsimp only at q
          split at q
          · cases q; exact .inr rfl
          · exact .inl (.inl (.inr (.inr (.inr ⟨z, q⟩))))
    · rename_i q
      obtain ⟨c, h1, h2, h4⟩ := S.owned y d' e
      have hca : c ≠ a := by
        obtain ⟨_, _, g2, g3⟩ := S.own1 y c h1
        rcases ha with rfl | ⟨z, e⟩
        · exact g2
        · rintro rfl; exact g3 z e
      have : Str.ofString y ≠ Str.ofString x := fun e => q (ofString_inj e)
      exact ⟨c, by simp [q, h1], by simp [upd, this, h2], h4.mono (fun o e => (hs c hca (nX _ _ e)).trans (hk _ _ e)) k2 fun b o e q => .inl (hotEq b o e q)⟩
  · intro b o e
    exact k2 b o (S.hot.off b o e) (S.hot.keep b o e)
  · intro b q
    rcases q with q | q | q | ⟨y, q⟩
    · obtain ⟨b', o, hb, ho⟩ := S.hot.ex b (.inl q)
      obtain ⟨o', ho'⟩ := k2' b' o ho
      exact ⟨b', o', hb, ho'⟩
    · obtain ⟨o', ho'⟩ := frame_ex R₂ (.inl q)
      exact ⟨b, o', Nat.le_refl _, ho'⟩
    · obtain ⟨o', ho'⟩ := frame_ex R₂ (.inr q)
      exact ⟨b, o', Nat.le_refl _, ho'⟩
    · dsimp only at q
      split at q
      · obtain ⟨_, _, o', ho'⟩ := newc b q
        exact ⟨b, o', Nat.le_refl _, ho'⟩
      · obtain ⟨b', o, hb, ho⟩ := S.hot.ex b (.inr (.inr (.inr ⟨y, q⟩)))
        obtain ⟨o', ho'⟩ := k2' b' o ho
        exact ⟨b', o', hb, ho'⟩
  · intro b o e q
    exact S.hot.off b o e (hotEq b o (S.hot.keep b o e) q)
  · intro b o e
    refine (hs b (fun q => ?_) (nX b o (S.keep b o e))).trans (hk b o (S.keep b o e))
    rcases ha with rfl | ⟨z, ez⟩
    · rw [q, S.frE.1] at e; cases e
    · rw [q, S.frE.2 z a ez] at e; cases e
  · intro y c hc
    split at hc
    · obtain ⟨g1, g2, _⟩ := newc c hc
      refine ⟨?_, g2, ?_, ?_⟩
      · cases e : ent.get? c with
        | none => rfl
        | some o => rw [S.keep c o e] at g1; cases g1
      · rintro rfl
        obtain ⟨o, ho⟩ := frame_ex S.rep (.inl rfl)
        rw [g1] at ho; cases ho
      · intro z ez
        obtain ⟨o, ho⟩ := frame_ex S.rep (.inr ⟨z, ez⟩)
        rw [g1] at ho; cases ho
    · exact S.own1 y c hc
  · intro y z c h1 h2
    split at h1 <;> split at h2
    · rename_i e1 e2; rw [e1, e2]
    · obtain ⟨o, ho⟩ := S.ownx z c h2
      rw [(newc c h1).1] at ho; cases ho
    · obtain ⟨o, ho⟩ := S.ownx y c h1
      rw [(newc c h2).1] at ho; cases ho
    · exact S.inj y z c h1 h2
  · intro y c hc
    split at hc
    · exact (newc c hc).2.2
    · obtain ⟨o, ho⟩ := S.ownx y c hc
      exact k2' c o ho

/-- the owned object of x turns into another -/
theorem StOk.turn (S : StOk w base ent h env H₀ own m σ) {x : String} {a : Addr} {d₀ d : D} (hx : σ.lookup x = some (true, d₀)) (hown : own x = some a) (hs : Heap.SameBut a h h₂) (hd : OwnD w.params h₂ (Hot env H₀ own) a d) :
    StOk w base ent h₂ env H₀ own m (setv σ x (true, d)) := by
  have aHot : Hot env H₀ own a := .inr (.inr (.inr ⟨x, hown⟩))
  obtain ⟨g0, g1, g2, g3⟩ := S.own1 x a hown
  have k2 : ∀ b o, ¬ Hot env H₀ own b → h.get? b = some o → h₂.get? b = some o := fun b o hn e => (hs.2 b fun q => hn (q ▸ aHot)).trans e
  have k2' : ∀ b o, h.get? b = some o → ∃ o', h₂.get? b = some o' := fun b o e => by
    by_cases q : b = a
    · exact q ▸ hd.ex
    · exact ⟨o, (hs.2 b q).trans e⟩
  have R₂ : EnvRep h₂ env m := S.rep.keepsAt fun b o hb e => (hs.2 b (by
    rcases hb with rfl | ⟨z, ez⟩
    · exact Ne.symm g2
    · rintro rfl; exact g3 z ez)).trans e
  refine ⟨R₂, ?_, ?_, ⟨?_, ?_, S.hot.off⟩, ?_, S.frE, S.own1, S.inj, ?_⟩
  · intro y d' e
    rw [lookup_setv] at e
    split at e
    · cases e
    · obtain ⟨u, h1, h2⟩ := S.plain y d' e
      exact ⟨u, h1, h2.mono k2 fun _ _ _ q => q⟩
  · intro y d' e
    rw [lookup_setv] at e
    split at e
    · rename_i q; subst q
      cases e
      obtain ⟨a', q1, q2, _⟩ := S.owned y _ hx
      rw [hown] at q1; cases q1
      exact ⟨a, hown, q2, hd⟩
    · rename_i q
      obtain ⟨c, h1, h2, h4⟩ := S.owned y d' e
      have hca : c ≠ a := fun e => q (S.inj y x a (e ▸ h1) hown)
      exact ⟨c, h1, h2, h4.mono (fun o e => (hs.2 c hca).trans e) k2 fun b o e q => .inl q⟩
  · intro b o e
    exact k2 b o (S.hot.off b o e) (S.hot.keep b o e)
  · intro b q
    obtain ⟨b', o, hb, ho⟩ := S.hot.ex b q
    obtain ⟨o', ho'⟩ := k2' b' o ho
    exact ⟨b', o', hb, ho'⟩
  · intro b o e
    exact (hs.2 b fun q => by rw [q, g0] at e; cases e).trans (S.keep b o e)
  · intro y c hc
    obtain ⟨o, ho⟩ := S.ownx y c hc
    exact k2' c o ho
theorem StOk.append (S : StOk w base ent h env H₀ own m σ) {x : String} {a : Addr} {ds : List D} {vs : Array Value} {n : Nat} {v : Value} {d : D} (hx : σ.lookup x = some (true, .list ds)) (hown : own x = some a)
    (hl : h.get? a = some (lstO vs n)) (hr : RepAll w.params h (fun b => Hot env H₀ own b ∨ b = a) vs.toList ds) (hv : Rep w.params h (Hot env H₀ own) v d) (hsz : (ds ++ [d]).length ≤ big) (hs : Heap.SameBut a h h₂) (hl₂ : ∃ n', h₂.get? a = some (lstO (vs.push v) n')) :
    StOk w base ent h₂ env H₀ own m (setv σ x (true, .list (ds ++ [d]))) := by
  have aHot : Hot env H₀ own a := .inr (.inr (.inr ⟨x, hown⟩))
  have k2 : ∀ b o, ¬ Hot env H₀ own b → h.get? b = some o → h₂.get? b = some o := fun b o hn e => (hs.2 b fun q => hn (q ▸ aHot)).trans e
  obtain ⟨n', e'⟩ := hl₂
  refine S.turn hx hown hs ⟨vs.push v, n', e', hsz, ?_⟩
  have r : RepAll w.params h (fun b => Hot env H₀ own b ∨ b = a) (vs.toList ++ [v]) (ds ++ [d]) := hr.append (.cons (hv.mono (fun _ _ _ e => e) fun b o _ q => q.elim id fun q => q ▸ aHot) .nil)
  have r' := r.mono (h' := h₂) (H' := fun b => Hot env H₀ own b ∨ b = a) (fun b o hn e => k2 b o (fun q => hn (.inl q)) e) fun _ _ _ q => q
  simpa using r'
end
end Mine

namespace Mine
open PySem PySem.SeqAt
section
variable {prog : Program} {w : World} {A : Around}
theorem isKey_tk (k : List CK) : (ofTK k).isKey = true := by
  show (k.map ofCK).all D.isCell = true
  rw [List.all_eq_true]
  intro d hd
  obtain ⟨c, _, rfl⟩ := List.mem_map.mp hd
  cases c <;> rfl
theorem StOk.ownM {base ent h : Heap} {env : Env} {H₀ : Addr → Prop} {own : Own} {m : Str → Option Value} {σ : St} (S : StOk w base ent h env H₀ own m σ) {x : String} {L : Addr} {ks vs : List D} (hx : σ.lookup x = some (true, .dict ks vs)) (hL : own x = some L) :
    OwnM w.params h (Hot env H₀ own) L ks vs := by
  obtain ⟨L', q1, q2, o⟩ := S.owned x _ hx
  rw [hL] at q1; cases q1
  exact o
theorem setItem_own {s : Shared} {H : Addr → Prop} {L : Addr} {ks vs : List D} {u kv : Value} {d dk : D} {Q : Unit → Shared → Prop} {E : Value → Shared → Prop} (hu : A.units + 1 < cLine) (o : OwnM w.params s.heap H L ks vs)
    (rk : Rep w.params s.heap (fun b => H b ∨ b = L) kv dk) (rv : Rep w.params s.heap (fun b => H b ∨ b = L) u d) (hc : keyOk dk ks = true) (hlen : ks.length < big)
    (hQ : ∀ h' tk, Heap.SameBut L s.heap h' → OwnM w.params h' H L (dput ks vs dk d).1 (dput ks vs dk d).2 → Q () { s with heap := h', toks := tk }) : wpAny (model prog w) A (setItem (.ref L) kv u) Q E s := by
  obtain ⟨es, n, o1, o2, o3, o4, o5, o6, o7, o8⟩ := o
  have e0 : big ≤ sizeLine := by decide
  have hdl : (dput ks vs dk d).1.length ≤ big := by have := dput_len dk d ks vs; omega
  unfold keyOk at hc
  rw [Bool.or_eq_true, Bool.and_eq_true, Bool.and_eq_true] at hc
  have mv : ∀ {h'}, Heap.SameBut L s.heap h' → ∀ {l : List Value} {ds : List D}, RepAll w.params s.heap (fun b => H b ∨ b = L) l ds → RepAll w.params h' (fun b => H b ∨ b = L) l ds := fun hs _ _ r =>
    r.mono (fun b o hb e => (hs.2 b fun q => hb (.inr q)).trans e) fun _ _ _ q => q
  rcases hc with hc | hc
  · obtain ⟨cs, rfl⟩ := cells_ck hc.2
    obtain ⟨c, rfl⟩ := cell_ck hc.1
    have hl : cs.length = (es.toList.map (·.val)).length := by have := o3.length; simpa using this.symm
    have hcn : cs.Nodup := (List.pairwise_map.mp o7).imp fun h e => h (by rw [e])
    refine wpAny_setItem_pairs (knd := cellKind prog w) (rep_ck rk) (dictOf_rep o1 o3 o5 o7) (fun h' hm hs => ?_) (by
      simp only [List.length_map] at hlen
      rw [List.length_zip]; omega)
    obtain ⟨p1, p2⟩ := stored_dput (k := c) rv hl hcn o4
    obtain ⟨es', n', r1, r2, r3, r4, r5, r6⟩ := rep_dictOf (H := fun b => H b ∨ b = L) hm
    rw [p1] at r2 r4 r5 r6
    exact hQ _ _ hs ⟨es', n', r1, hdl, r2, r3 ▸ mv hs p2, r4, r5, r6, o8⟩
  · obtain ⟨cs, rfl⟩ := tks_ck hc.2
    obtain ⟨c, rfl⟩ := tk_ck hc.1
    obtain ⟨xs, hm, e1, e2, e3⟩ := dictH_rep (prog := prog) o1 o3 o5 o7
    obtain ⟨b, rfl, ib⟩ := rep_tk (prog := prog) rk
    subst e1
    have hn : (xs.map (·.1)).Nodup := (List.pairwise_map.mp o7).imp fun h e => h (by rw [e])
    have ek : (xs.map (·.1)).map ofTK = xs.map kD := by rw [List.map_map]; rfl
    rw [ek] at o3 hdl hQ
    obtain ⟨p1, p2, p3⟩ := storedH_dput rk rv hn (e2 ▸ o3) (e3 ▸ o4)
    refine wpAny_setItem_heap (knd := TKd prog w) hu ib hm (fun h' hm' hs => ?_) (by
      simp only [List.length_map] at hlen; omega)
    obtain ⟨o', es', ep', g1, ⟨g2, g3, g4⟩, g5, g6, g7, g8⟩ := hm'
    have ho' : o' = dicO es' ep' := by obtain ⟨a, b, c, d⟩ := o'; dsimp only at g2 g3 g4 g5; subst g2 g3 g4 g5; rfl
    refine hQ _ _ hs ⟨es', ep', ho' ▸ g1, hdl, ?_, ?_, ?_, ?_, ?_, o8⟩
    · rw [g6, List.map_map]; exact mv hs p2
    · rw [g6, List.map_map]; exact mv hs p3
    · rw [g6, ← p1, List.map_map, List.map_map]
      exact List.map_congr_left fun x _ => hash_tk x.1
    · rw [← p1, List.all_eq_true]
      intro z hz
      obtain ⟨x, _, rfl⟩ := List.mem_map.mp hz
      exact isKey_tk x.1
    · rw [← p1]
      exact List.pairwise_map.mpr ((List.pairwise_map.mp g8).imp fun h e => h (ofTK_inj e))
end
end Mine

namespace Mine
open PySem PySem.SeqAt

noncomputable def frm (env : Env) (b : Addr) : Prop := b = env.locals ∨ ∃ x, env.cells.lookup x = some b

noncomputable def SPost (w : World) (base ent : Heap) (env : Env) (H₀ : Addr → Prop) (s : Shared) (own : Own) (r : Fl × St) (f : Flow) (s' : Shared) : Prop :=
  ∃ h' tk, s' = { s with heap := h', toks := tk } ∧ (∀ b o, s.heap.get? b = some o → ¬ frm env b → (∀ x, own x ≠ some b) → h'.get? b = some o) ∧ (∀ b o, s.heap.get? b = some o → ∃ o', h'.get? b = some o') ∧
  match r.1 with
  | .next => f = .next ∧ ∃ own' m', StOk w base ent h' env H₀ own' m' r.2 ∧ ∀ x a, own' x = some a → own x = some a ∨ s.heap.get? a = none
  | .ret fr d => ∃ v, f = .ret v ∧ Rep w.params h' H₀ v d ∧ (∀ b o, ent.get? b = some o → h'.get? b = some o) ∧ (fr = true → ∃ a, v = .ref a ∧ ent.get? a = none ∧ OwnD w.params h' H₀ a d)

section
variable {prog : Program} {w : World} {A : Around} {base : Heap} {mg mb : Str → Option Value} {cf : CF}

noncomputable def SS (prog : Program) (w : World) (A : Around) (base : Heap) (cf : CF) (ms : MS) : Prop :=
  ∀ (s : Shared) (env : Env) (st : Stmt) (H₀ : Addr → Prop) (ent : Heap) (own : Own) (m : Str → Option Value) (σ : St) (r : Fl × St) (E : Value → Shared → Prop), chkS env.kindOf st ms = true → StOk w base ent s.heap env H₀ own m σ →
    exS cf ms σ = some r → wpAny (model prog w) A (exec st env) (SPost w base ent env H₀ s own r) E s
noncomputable def SSs (prog : Program) (w : World) (A : Around) (base : Heap) (cf : CF) (ms : List MS) : Prop :=
  ∀ (s : Shared) (env : Env) (ss : List Stmt) (H₀ : Addr → Prop) (ent : Heap) (own : Own) (m : Str → Option Value) (σ : St) (r : Fl × St) (E : Value → Shared → Prop), chkSs env.kindOf ss ms = true → StOk w base ent s.heap env H₀ own m σ →
    exSs cf ms σ = some r → wpAny (model prog w) A (execs ss env) (SPost w base ent env H₀ s own r) E s

theorem own_sub {s : Shared} {own own' : Own} (hh : ∀ x a, own' x = some a → own x = some a ∨ s.heap.get? a = none) {b : Addr} {o : Obj} (e : s.heap.get? b = some o) (hn : ∀ x, own x ≠ some b) : ∀ x, own' x ≠ some b := by
  intro x q
  rcases hh x b q with q | q
  · exact hn x q
  · rw [e] at q; cases q

theorem SPost.trans {ent : Heap} {env : Env} {H₀ : Addr → Prop} {s s₁ : Shared} {own own₁ : Own} {r : Fl × St} {f : Flow} {s' : Shared} (h₁ : Heap) (tk₁ : Nat) (e₁ : s₁ = { s with heap := h₁, toks := tk₁ })
    (k₁ : ∀ b o, s.heap.get? b = some o → ¬ frm env b → (∀ x, own x ≠ some b) → h₁.get? b = some o) (x₁ : ∀ b o, s.heap.get? b = some o → ∃ o', h₁.get? b = some o') (o₁ : ∀ x a, own₁ x = some a → own x = some a ∨ s.heap.get? a = none)
    (q : SPost w base ent env H₀ s₁ own₁ r f s') : SPost w base ent env H₀ s own r f s' := by
  subst e₁
  obtain ⟨h', tk, rfl, k, x, q⟩ := q
  have newn : ∀ a, h₁.get? a = none → s.heap.get? a = none := by
    intro a e
    cases q : s.heap.get? a with
    | none => rfl
    | some o =>
      obtain ⟨o', e'⟩ := x₁ a o q
      rw [e] at e'; cases e'
  refine ⟨h', tk, rfl, fun b o e hf ho => k b o (k₁ b o e hf ho) hf (own_sub o₁ e ho), fun b o e => (fun ⟨o', e'⟩ => x b o' e') (x₁ b o e), ?_⟩
  cases hr : r.1 with
  | next =>
    rw [hr] at q
    obtain ⟨q1, own', m', q2, q3⟩ := q
    refine ⟨q1, own', m', q2, fun x a e => ?_⟩
    rcases q3 x a e with e | e
    · exact o₁ x a e
    · exact .inr (newn a e)
  | ret fr d => rw [hr] at q; exact q

/-- a state after a run of an expression -/
theorem StOk.settle {ent h : Heap} {env : Env} {H₀ : Addr → Prop} {own : Own} {m : Str → Option Value} {σ : St} (S : StOk w base ent h env H₀ own m σ) (d : D) (ns : List String) :
    ∃ own', StOk w base ent h env H₀ own' m (Mine.settle d ns σ) ∧ (∀ x a, own' x = some a → own x = some a) ∧ ((d.scalar = true ∧ own' = own) ∨ (d.scalar = false ∧ own' = own.less ns)) := by
  unfold Mine.settle
  cases hd : d.scalar with
  | true => exact ⟨own, S, fun _ _ e => e, .inl ⟨rfl, rfl⟩⟩
  | false => exact ⟨own.less ns, S.freeze ns, fun x a e => by unfold Own.less at e; split at e <;> first | cases e | exact e, .inr ⟨rfl, rfl⟩⟩

theorem nofrm {s : Shared} {env : Env} {h₁ h₂ : Heap} {a : Addr} (hk : ∀ b o, s.heap.get? b = some o → h₁.get? b = some o) (ha : frm env a) (hs : Heap.SameBut a h₁ h₂) (hx : ∃ o, h₂.get? a = some o) :
    (∀ b o, s.heap.get? b = some o → ¬ frm env b → h₂.get? b = some o) ∧ (∀ b o, s.heap.get? b = some o → ∃ o', h₂.get? b = some o') := by
  refine ⟨fun b o e hf => (hs.2 b fun q => hf (q ▸ ha)).trans (hk b o e), fun b o e => ?_⟩
  by_cases q : b = a
  · exact q ▸ hx
  · exact ⟨o, (hs.2 b q).trans (hk b o e)⟩

theorem store_core {s : Shared} {env : Env} {H₀ : Addr → Prop} {ent : Heap} {own : Own} {m : Str → Option Value} {σ : St} {x : String} {ns : List String} {d : D} {fr : Bool} {v : Value} {h₁ h₂ : Heap} {a : Addr} {X : Addr → Prop} {tk : Nat}
    (S : StOk w base ent s.heap env H₀ own m σ) (hk : ∀ b o, s.heap.get? b = some o → h₁.get? b = some o) (rv : Rep w.params h₁ (fun b => Hot env H₀ (own.less ns) b ∨ X b) v d)
    (hfr : fr = true → ∃ c, v = .ref c ∧ s.heap.get? c = none ∧ OwnD w.params h₁ (fun b => Hot env H₀ (own.less ns) b ∨ X b) c d)
    (R₂ : EnvRep h₂ env (upd m (Str.ofString x) v)) (ha : frm env a) (hX : ∀ b, X b → s.heap.get? b = none) (hs : ∀ b, b ≠ a → ¬ X b → h₂.get? b = h₁.get? b) :
    SPost w base ent env H₀ s own (.next, setv (Mine.settle d ns σ) x (fr, d)) .next { s with heap := h₂, toks := tk } := by
  obtain ⟨own', S', hsub, hcase⟩ := S.settle d ns
  have hv : (fr = false ∧ (if fr then (match v with | .ref c => some c | _ => none) else none) = none ∧ Rep w.params h₁ (fun b => Hot env H₀ own' b ∨ X b) v d) ∨
      (fr = true ∧ ∃ c, (if fr then (match v with | .ref c => some c | _ => none) else none) = some c ∧ v = .ref c ∧ s.heap.get? c = none ∧ ¬ H₀ c ∧ ¬ X c ∧ OwnD w.params h₁ (fun b => Hot env H₀ own' b ∨ X b) c d) := by
    cases fr with
    | false =>
      refine .inl ⟨rfl, rfl, ?_⟩
      rcases hcase with ⟨e1, _⟩ | ⟨_, e2⟩
      · exact rv.scalar e1
      · rw [e2]; exact rv
    | true =>
      obtain ⟨c, e1, e3, e4⟩ := hfr rfl
      subst e1
      rcases hcase with ⟨e5, _⟩ | ⟨_, e6⟩
      · rw [e4.scalar] at e5; cases e5
      · rw [e6]
        have hn := rv.off
        exact .inr ⟨rfl, c, rfl, rfl, e3, fun q => hn (.inl (.inl q)), fun q => hn (.inr q), e4⟩
  have S₂ := S'.assign (x := x) (v := v) (fr := fr) (d := d) hk R₂ ha hX hs hv
  have nX : ∀ b o, s.heap.get? b = some o → ¬ X b := fun b o e q => by have := hX b q; rw [e] at this; cases this
  refine ⟨h₂, tk, rfl, fun b o e hf _ => (hs b (fun q => hf (q ▸ ha)) (nX b o e)).trans (hk b o e), fun b o e => ?_, rfl, _, _, S₂, fun y c hc => ?_⟩
  · by_cases q : b = a
    · exact q ▸ frame_ex R₂ ha
    · exact ⟨o, (hs b q (nX b o e)).trans (hk b o e)⟩
  · split at hc
    · rcases hv with ⟨_, e, _⟩ | ⟨_, c', e, _, h1, _⟩
      · rw [e] at hc; cases hc
      · rw [e] at hc; cases hc; exact .inr h1
    · exact .inl (hsub y c hc)

theorem isStore_kind {k : KD} {x : Str} (hx : isStore k x = true) : k x = some .local ∨ k x = some .cell := by
  unfold isStore at hx
  simp only [Bool.and_eq_true, Bool.or_eq_true, beq_iff_eq] at hx
  exact hx.1

/-- a store of an expression's value into a name -/
theorem store_value {s s₁ : Shared} {env : Env} {H₀ : Addr → Prop} {ent : Heap} {own : Own} {m : Str → Option Value} {σ : St} {x : String} {e : ME} {d : D} {fr : Bool} {v : Value} {E : Value → Shared → Prop} {Q : Unit → Shared → Prop}
    (S : StOk w base ent s.heap env H₀ own m σ) (hx : isStore env.kindOf (Str.ofString x) = true) (q : PostF w s (Hot env H₀ (own.less e.names)) d fr v s₁)
    (hQ : ∀ s₂, SPost w base ent env H₀ s own (.next, setv (Mine.settle d e.names σ) x (fr, d)) .next s₂ → Q () s₂) :
    wpAny (model prog w) A (storeName env (Str.ofString x) v) Q E s₁ := by
  obtain ⟨kp, rv, hfr⟩ := q
  obtain ⟨h₁, tk₁, rfl, hk⟩ := kp
  refine store_snd (s := { s with heap := h₁, toks := tk₁ }) (S.rep.keeps hk) (isStore_kind hx) fun h₂ tk₂ a R₂ ha hs => hQ _ ?_
  refine store_core (X := fun _ => False) S hk (rv.sub fun _ q => q.elim id False.elim) (fun hf => ?_) R₂ (ha.imp id fun e => ⟨_, e⟩) (fun _ q => q.elim) fun b hb _ => hs.2 b hb
  obtain ⟨c, e1, e3, e4⟩ := hfr hf
  exact ⟨c, e1, e3, e4.mono (fun _ e => e) (fun _ _ _ e => e) fun _ _ _ q => q.elim .inl False.elim⟩

theorem ss_assign (G : GOk mg mb base) (C : CSound prog w base mg cf A) (hh : A.handled = none) (hu : A.units + 1 < cLine) (x : String) (e : ME) : SS prog w A base cf (.assign x e) := by
  intro s env st H₀ ent own m σ r E hc S hev
  replace hc := inv_assign hc; obtain ⟨_, _, _, _, rfl, hc⟩ := hc
  · rename_i y p v pos
    simp only [Bool.and_eq_true, beq_iff_eq] at hc
    obtain ⟨⟨rfl, hst⟩, hc⟩ := hc
    simp only [exS] at hev
    split at hev
    · rename_i d fr hd
      cases hev
      have Sf := (all_E G C hh hu e).2.2
      have nv := S.nv e.names
      have hw : HOk base s.heap (Hot env H₀ (own.less e.names)) := (S.freeze e.names).hot
      have plain : swapsWith v (some (.Name (Str.ofString x) p)) pos.line env = pure false → wpAny (model prog w) A (exec (.Assign [.Name (Str.ofString x) p] v pos) env) (SPost w base ent env H₀ s own (.next, setv (Mine.settle d e.names σ) x (fr, d))) E s := fun hsw => by
        refine wpAny_Assign_Name (wpAny_mono (Sf s env v _ (vis σ) m d fr E hc S.rep hw nv hd) (fun u s₁ q => ?_) fun _ _ e => e) hsw
        exact store_value S hst q fun s₂ q => q
      by_cases hcomp : notComp v = true
      · refine plain ?_
        cases v <;> first | rfl | cases hcomp
      · have hl : ∃ t gens scope lp, v = .ListComp t gens scope lp := by
          cases v with
          | ListComp t g sc lp => exact ⟨t, g, sc, lp, rfl⟩
          | SetComp => have hs := chk_shape hc; cases e <;> cases hs
          | DictComp => have hs := chk_shape hc; cases e <;> cases hs
          | _ => exact absurd rfl hcomp
        obtain ⟨t, gens, scope, lp, rfl⟩ := hl
        have hsw : ∃ b, swapsWith (.ListComp t gens scope lp) (some (.Name (Str.ofString x) p)) pos.line env = pure b := ⟨_, rfl⟩
        obtain ⟨b, hsw⟩ := hsw
        cases b with
        | false => exact plain hsw
        | true =>
          have he : ∃ elt z src cs, e = .comp elt z src cs := by have hs := chk_shape hc; cases e <;> first | exact ⟨_, _, _, _, rfl⟩ | cases hs
          obtain ⟨elt, z, src, cs, rfl⟩ := he
          simp only [evF_comp, Option.map_eq_some_iff] at hd
          obtain ⟨d', hd, e'⟩ := hd
          cases e'
          obtain ⟨t', y', py', it', ifs', scope', lp', heq, _⟩ := inv_comp hc
          · cases heq
            rw [exec_Assign_Name_used _ _ _ _ hsw]
            refine wpAny_bind (wpAny_standAt (wpAny_bind ?_))
            show wpAny _ A (do let _ ← comprehension (.ListComp t [⟨.Name y' py', it', ifs', 0⟩] scope lp) scope env _ (newList []) false (eval it' env) (some (assign (.Name (Str.ofString x) p) env))) _ _ s
            refine wpAny_bind (wpAny_mono (comp_snd (use := some (assign (.Name (Str.ofString x) p) env)) (Q := fun _ s' => SPost w base ent env H₀ s own (.next, setv (Mine.settle d (ME.comp elt z src cs).names σ) x (true, d)) .next s') hh (all_E G C hh hu elt).1 (all_E G C hh hu src).1 (all_Es G C hh hu cs).2.2.1 hc S.rep hw nv hd ?_)
              (fun _ s' hq => wpAny_pure (wpAny_pure hq)) fun _ _ e => e)
            intro L Cc h' tk m' out hdl hL hC hLC hns hown hk
            subst hdl
            show wpAny _ A (assign (.Name (Str.ofString x) p) env (.ref L)) _ _ _
            refine wpAny_assign_Name (store_snd (s := { s with heap := h', toks := tk }) (S.rep.keeps hk) (isStore_kind hst) fun h₂ tk₂ a R₂ ha hs => ?_)
            have ha' : frm env a := ha.imp id fun e => ⟨_, e⟩
            obtain ⟨oa, hoa⟩ := frame_ex S.rep ha'
            have haC : a ≠ Cc := fun q => by rw [q, hC] at hoa; cases hoa
            refine ⟨m', hns.sameBut hs (Ne.symm haC), fun h₃ hs₃ => ?_⟩
            have hLn : s.heap.get? L = none := by
              cases e : s.heap.get? L with
              | none => rfl
              | some o => exact absurd (hL _ _ e) (Nat.lt_irrefl _)
            have hLo : ¬ Hot env H₀ (own.less (ME.comp elt z src cs).names) L := fun q => by
              obtain ⟨b, o, hb, ho⟩ := hw.ex L q
              exact Nat.lt_irrefl _ (Nat.lt_of_le_of_lt hb (hL b o ho))
            refine store_core (X := fun b => b = Cc) (h₁ := h') S hk (hown.rep fun q => q.elim hLo hLC) (fun _ => ⟨L, rfl, hLn, hown⟩) (R₂.keepsAt fun b o hb e => (hs₃.2 b fun q => ?_).trans e) ha' (fun b q => q ▸ hC) fun b hb1 hb2 => (hs₃.2 b hb2).trans (hs.2 b hb1)
            obtain ⟨ob, hob⟩ := frame_ex S.rep hb
            rw [q, hC] at hob; cases hob
    · cases hev
end
end Mine

namespace Mine
open PySem PySem.SeqAt

theorem freeze_nil : ∀ (σ : St), freeze [] σ = σ
  | [] => rfl
  | (x, (o, d)) :: r => by
    have := freeze_nil r
    unfold freeze at this ⊢
    rw [List.map_cons, this]
    simp
theorem settle_nil (d : D) (σ : St) : settle d [] σ = σ := by
  unfold settle
  split
  · rfl
  · exact freeze_nil σ
theorem less_nil (own : Own) : own.less [] = own := by
  funext x
  simp [Own.less]

section
variable {prog : Program} {w : World} {A : Around} {base : Heap} {mg mb : Str → Option Value} {cf : CF}
variable {ent h h' : Heap} {env : Env} {H₀ : Addr → Prop} {own : Own} {m : Str → Option Value} {σ : St} {I : Addr}

theorem hot_add {b : Addr} (q : Hot env (fun b => H₀ b ∨ b = I) own b) : Hot env H₀ own b ∨ b = I := by
  rcases q with (q | q) | q | q | q
  · exact .inl (.inl q)
  · exact .inr q
  · exact .inl (.inr (.inl q))
  · exact .inl (.inr (.inr (.inl q)))
  · exact .inl (.inr (.inr (.inr q)))
theorem hot_sub {b : Addr} (q : Hot env H₀ own b) : Hot env (fun b => H₀ b ∨ b = I) own b := by
  rcases q with q | q | q | q
  · exact .inl (.inl q)
  · exact .inr (.inl q)
  · exact .inr (.inr (.inl q))
  · exact .inr (.inr (.inr q))

theorem StOk.addH (S : StOk w base ent h env H₀ own m σ) (hk : ∀ b o, h.get? b = some o → h'.get? b = some o) (hI : h.get? I = none) (hIx : ∃ o, h'.get? I = some o) :
    StOk w base ent h' env (fun b => H₀ b ∨ b = I) own m σ := by
  have S' := S.keeps hk
  have hH : ∀ b o, h.get? b = some o → Hot env (fun b => H₀ b ∨ b = I) own b → Hot env H₀ own b := fun b o e q => (hot_add q).elim id fun q => by rw [q, hI] at e; cases e
  refine ⟨S'.rep, fun x d e => ?_, fun x d e => ?_, ⟨S'.hot.keep, fun b q => ?_, fun b o e q => S.hot.off b o e (hH b o (S.hot.keep b o e) q)⟩, S'.keep, S.frE, fun x a e => ?_, S.inj, S'.ownx⟩
  · obtain ⟨v, h1, h2⟩ := S.plain x d e
    exact ⟨v, h1, h2.mono (fun b o _ e => hk b o e) hH⟩
  · obtain ⟨a, h1, h2, h4⟩ := S.owned x d e
    exact ⟨a, h1, h2, h4.mono (fun o e => hk _ o e) (fun b o _ e => hk b o e) fun b o e q => .inl (hH b o e q)⟩
  · rcases hot_add q with q | q
    · exact S'.hot.ex b q
    · obtain ⟨o, ho⟩ := hIx
      exact ⟨I, o, q ▸ Nat.le_refl _, ho⟩
  · obtain ⟨g1, g2, g3⟩ := S.own1 x a e
    refine ⟨g1, fun q => q.elim g2 fun q => ?_, g3⟩
    obtain ⟨o, ho⟩ := S.ownx x a e
    rw [q, hI] at ho; cases ho

/-- only I has turned -/
theorem StOk.turnI (S : StOk w base ent h env (fun b => H₀ b ∨ b = I) own m σ) (hk : ∀ b o, b ≠ I → h.get? b = some o → h'.get? b = some o) (hIx : ∃ o, h'.get? I = some o) (hf : ¬ frm env I) (hE : ent.get? I = none) :
    StOk w base ent h' env (fun b => H₀ b ∨ b = I) own m σ := by
  have IH : Hot env (fun b => H₀ b ∨ b = I) own I := .inl (.inr rfl)
  have k2 : ∀ b o, ¬ Hot env (fun b => H₀ b ∨ b = I) own b → h.get? b = some o → h'.get? b = some o := fun b o hn e => hk b o (fun q => hn (q ▸ IH)) e
  have k3 : ∀ b o, h.get? b = some o → ∃ o', h'.get? b = some o' := fun b o e => by
    by_cases q : b = I
    · exact q ▸ hIx
    · exact ⟨o, hk b o q e⟩
  refine ⟨S.rep.keepsAt fun b o hb e => hk b o (fun q => hf (q ▸ hb)) e, fun x d e => ?_, fun x d e => ?_, ⟨fun b o e => k2 b o (S.hot.off b o e) (S.hot.keep b o e), fun b q => ?_, S.hot.off⟩, fun b o e => hk b o (fun q => by rw [q, hE] at e; cases e) (S.keep b o e), S.frE, S.own1, S.inj, fun x a e => (fun ⟨o, ho⟩ => k3 a o ho) (S.ownx x a e)⟩
  · obtain ⟨v, h1, h2⟩ := S.plain x d e
    exact ⟨v, h1, h2.mono k2 fun _ _ _ q => q⟩
  · obtain ⟨a, h1, h2, h4⟩ := S.owned x d e
    exact ⟨a, h1, h2, h4.mono (fun o e => hk _ o (fun q => (S.own1 x a h1).2.1 (.inr q)) e) k2 fun b o e q => .inl q⟩
  · obtain ⟨b', o, hb, ho⟩ := S.hot.ex b q
    obtain ⟨o', ho'⟩ := k3 b' o ho
    exact ⟨b', o', hb, ho'⟩

/-- the loop is left: I is nobody's -/
theorem StOk.leave (S : StOk w base ent h env (fun b => H₀ b ∨ b = I) own m σ) (hk : ∀ b o, b ≠ I → h.get? b = some o → h'.get? b = some o) (hx : Ex h' H₀) (hf : ¬ frm env I) (hE : ent.get? I = none) :
    StOk w base ent h' env H₀ own m σ := by
  have IH : Hot env (fun b => H₀ b ∨ b = I) own I := .inl (.inr rfl)
  have k2 : ∀ b o, ¬ Hot env (fun b => H₀ b ∨ b = I) own b → h.get? b = some o → h'.get? b = some o := fun b o hn e => hk b o (fun q => hn (q ▸ IH)) e
  have ownk : ∀ x a, own x = some a → ∃ o, h'.get? a = some o := fun x a e => by
    obtain ⟨o, ho⟩ := S.ownx x a e
    exact ⟨o, hk a o (fun q => (S.own1 x a e).2.1 (.inr q)) ho⟩
  have R : EnvRep h' env m := S.rep.keepsAt fun b o hb e => hk b o (fun q => hf (q ▸ hb)) e
  refine ⟨R, fun x d e => ?_, fun x d e => ?_, ⟨fun b o e => k2 b o (S.hot.off b o e) (S.hot.keep b o e), fun b q => ?_, fun b o e q => S.hot.off b o e (hot_sub q)⟩, fun b o e => hk b o (fun q => by rw [q, hE] at e; cases e) (S.keep b o e), S.frE, fun x a e => ?_, S.inj, ownk⟩
  · obtain ⟨v, h1, h2⟩ := S.plain x d e
    exact ⟨v, h1, h2.mono k2 fun _ _ _ q => hot_sub q⟩
  · obtain ⟨a, h1, h2, h4⟩ := S.owned x d e
    exact ⟨a, h1, h2, h4.mono (fun o e => hk _ o (fun q => (S.own1 x a h1).2.1 (.inr q)) e) k2 fun b o e q => .inl (hot_sub q)⟩
  · rcases q with q | q | q | ⟨y, q⟩
    · exact hx b q
    · obtain ⟨o, ho⟩ := frame_ex R (.inl q); exact ⟨b, o, Nat.le_refl _, ho⟩
    · obtain ⟨o, ho⟩ := frame_ex R (.inr q); exact ⟨b, o, Nat.le_refl _, ho⟩
    · obtain ⟨o, ho⟩ := ownk y b q; exact ⟨b, o, Nat.le_refl _, ho⟩
  · obtain ⟨g1, g2, g3⟩ := S.own1 x a e
    exact ⟨g1, fun q => g2 (.inl q), g3⟩

theorem ss_ret (G : GOk mg mb base) (C : CSound prog w base mg cf A) (hh : A.handled = none) (hu : A.units + 1 < cLine) (e : ME) : SS prog w A base cf (.ret e) := by
  intro s env st H₀ ent own m σ r E hc S hev
  replace hc := inv_ret hc; obtain ⟨_, _, rfl, hc⟩ := hc
  · rename_i v pos
    have gen : ∀ d fr, evF cf (vis σ) e = some (d, fr) → wpAny (model prog w) A (exec (.Return (some v) pos) env) (SPost w base ent env H₀ s own (.ret fr d, σ)) E s := by
      intro d fr hd
      refine wpAny_Return_some (wpAny_mono ((all_E G C hh hu e).2.2 s env v _ (vis σ) m d fr E hc S.rep (S.freeze e.names).hot (S.nv e.names) hd) (fun u s₁ q => ?_) fun _ _ e => e)
      obtain ⟨⟨h₁, tk₁, rfl, hk⟩, rv, hfr⟩ := q
      refine ⟨h₁, tk₁, rfl, fun b o e _ _ => hk b o e, fun b o e => ⟨o, hk b o e⟩, u, rfl, rv.sub fun _ q => .inl q, fun b o e => hk b o (S.keep b o e), fun hf => ?_⟩
      obtain ⟨a, e1, e3, e4⟩ := hfr hf
      refine ⟨a, e1, ?_, e4.mono (fun _ e => e) (fun _ _ _ e => e) fun _ _ _ q => .inl (.inl q)⟩
      cases q : ent.get? a with
      | none => rfl
      | some o => rw [S.keep a o q] at e3; cases e3
    simp only [exS] at hev
    split at hev
    · rename_i x
      split at hev
      · rename_i fr d hd
        cases hev
        have hv : (vis σ).lookup x = some d := by rw [lookup_vis, hd]; rfl
        cases fr with
        | false => exact gen d false (by show (evE cf (vis σ) (.var _)).map _ = _; simp only [evE, hv]; rfl)
        | true =>
          obtain ⟨a, q1, q2, q4⟩ := S.owned x d hd
          replace hc := inv_var hc; obtain ⟨_, _, rfl, hc⟩ := hc
          · simp only [Bool.and_eq_true, beq_iff_eq] at hc
            obtain ⟨rfl, hvar⟩ := hc
            obtain ⟨g1, g2, g3⟩ := S.own1 x a q1
            have q5 : OwnD w.params s.heap H₀ a d := q4.mono (fun _ e => e) (fun _ _ _ e => e) fun _ _ _ q => .inl (.inl q)
            refine wpAny_Return_some (load_snd S.rep hvar q2 ?_)
            exact ⟨s.heap, s.toks, rfl, fun b o e _ _ => e, fun b o e => ⟨o, e⟩, _, rfl, q5.rep g2, S.keep, fun _ => ⟨a, rfl, g1, q5⟩⟩
      · cases hev
    · split at hev
      · rename_i d fr hd
        cases hev
        exact gen d fr hd
      · cases hev

theorem ss_append (G : GOk mg mb base) (C : CSound prog w base mg cf A) (hh : A.handled = none) (hu : A.units + 1 < cLine) (x : String) (e : ME) : SS prog w A base cf (.append x e) := by
  intro s env st H₀ ent own m σ r E hc S hev
  replace hc := inv_append hc; obtain ⟨_, _, _, _, _, _, _, rfl, hc⟩ := hc
  · rename_i y yp at_ ap a p pos
    simp only [Bool.and_eq_true, beq_iff_eq] at hc
    obtain ⟨⟨⟨⟨rfl, hst⟩, rfl⟩, hline⟩, hc⟩ := hc
    simp only [exS] at hev
    split at hev
    · rename_i d hd
      obtain ⟨own', S', hsub, hcase⟩ := S.settle d e.names
      split at hev
      · rename_i ds hds
        split at hev
        · rename_i hlen
          cases hev
          obtain ⟨L, q1, q2, vs, n, q4, q5, q6⟩ := S'.owned x _ hds
          have hvar : isVar env.kindOf (Str.ofString x) = true := by unfold isStore at hst; simp only [Bool.and_eq_true] at hst; exact hst.2
          have hstar : starEach [a] env = [(false, eval a env)] := spliced_ok (es := [a]) (ms := [e]) (k := env.kindOf) (by simp [chkEs, hc]) env
          refine wpAny_Expr (wpAny_Call_append rfl (by rw [hstar]; rfl) (by simpa using hline) (by rw [hstar]; rfl) (load_snd S.rep hvar q2 ⟨L, vs, rfl, ⟨_, n, q4, rfl, rfl, rfl⟩, ?_⟩)) (by unfold interactive; rw [S.rep.kind]; rfl) rfl
          refine wpAny_mono ((all_E G C hh hu e).1 s env a _ (vis σ) m d E hc S.rep (S.freeze e.names).hot (S.nv e.names) hd) (fun u s₁ q => ?_) fun _ _ e => e
          obtain ⟨⟨h₁, tk₁, rfl, hk⟩, rv⟩ := q
          have rv' : Rep w.params h₁ (Hot env H₀ own') u d := by
            rcases hcase with ⟨e1, _⟩ | ⟨_, e2⟩
            · exact rv.scalar e1
            · rw [e2]; exact rv
          have e1 := q6.length
          simp only [Array.length_toList] at e1
          refine wpAny_list_append_plain (items := vs) ⟨n, hk _ _ q4⟩ (fun h₂ hl₂ hs₂ => ?_) (by rw [e1]; exact q5)
          have hl₂' : ∃ n', h₂.get? L = some (lstO (vs.push u) n') := hl₂
          have S₂ := (S'.keeps hk).append (x := x) (d := d) (v := u) hds q1 (hk _ _ q4) (q6.keeps hk) rv' (by simp; omega) hs₂ hl₂'
          refine ⟨h₂, tk₁, rfl, fun b o e hf ho => ?_, fun b o e => ?_, rfl, own', m, S₂, fun y a e => .inl (hsub y a e)⟩
          · exact (hs₂.2 b fun q => ho x (hsub x b (q ▸ q1))).trans (hk b o e)
          · by_cases q : b = L
            · obtain ⟨n', e'⟩ := hl₂'; exact ⟨_, q ▸ e'⟩
            · exact ⟨o, (hs₂.2 b q).trans (hk b o e)⟩
        · cases hev
      · cases hev
    · cases hev

theorem Hot.mono {env : Env} {H₀ : Addr → Prop} {own own' : Own} (hs : ∀ x a, own' x = some a → own x = some a) {b : Addr} (h : Hot env H₀ own' b) : Hot env H₀ own b :=
  h.imp id fun h => h.imp id fun h => h.imp id fun ⟨x, h⟩ => ⟨x, hs x b h⟩
theorem ss_setk (G : GOk mg mb base) (C : CSound prog w base mg cf A) (hh : A.handled = none) (hu : A.units + 1 < cLine) (x : String) (ke e : ME) : SS prog w A base cf (.setk x ke e) := by
  intro s env st H₀ ent own m σ r E hc S hev
  replace hc := inv_setk hc; obtain ⟨y, yp, i, p, v, pos, rfl, hc⟩ := hc
  simp only [Bool.and_eq_true, beq_iff_eq] at hc
  obtain ⟨⟨⟨rfl, hst⟩, hci⟩, hcv⟩ := hc
  simp only [exS] at hev
  split at hev
  · rename_i d hd
    split at hev
    · rename_i dk hdk
      obtain ⟨own1, S1, hsub1, hcase1⟩ := S.settle d e.names
      obtain ⟨own', S', hsub2, hcase2⟩ := S1.settle dk ke.names
      split at hev
      · rename_i ks vs hds
        split at hev
        · rename_i hcond
          cases hev
          simp only [Bool.and_eq_true, decide_eq_true_eq] at hcond
          obtain ⟨L, q1, q2, o⟩ := S'.owned x _ hds
          have hvar : isVar env.kindOf (Str.ofString x) = true := by unfold isStore at hst; simp only [Bool.and_eq_true] at hst; exact hst.2
          refine wpAny_Assign_Subscript (wpAny_mono ((all_E G C hh hu e).1 s env v _ (vis σ) m d E hcv S.rep (S.freeze e.names).hot (S.nv e.names) hd) (fun u s₁ q => ?_) fun _ _ e => e) (by cases v <;> rfl)
          obtain ⟨⟨h₁, tk₁, rfl, hk⟩, rv⟩ := q
          refine load_snd (s := { s with heap := h₁, toks := tk₁ }) (S.rep.keeps hk) hvar q2 ?_
          have Sk := S.keeps hk
          refine wpAny_mono ((all_E G C hh hu ke).1 { s with heap := h₁, toks := tk₁ } env i _ (vis σ) m _ E hci Sk.rep (Sk.freeze ke.names).hot (Sk.nv ke.names) hdk) (fun kv s₂ q => ?_) fun _ _ e => e
          obtain ⟨⟨h₂, tk₂, rfl, hk2⟩, rk⟩ := q
          have k02 : ∀ b o, s.heap.get? b = some o → h₂.get? b = some o := fun b o e => hk2 b o (hk b o e)
          have LHot : ∀ b, Hot env H₀ own' b ∨ b = L → Hot env H₀ own' b := fun b q => q.elim id fun q => q ▸ .inr (.inr (.inr ⟨x, q1⟩))
          have rv' : Rep w.params h₂ (fun b => Hot env H₀ own' b ∨ b = L) u d := by
            rcases hcase1 with ⟨e1, _⟩ | ⟨_, e2⟩
            · exact rv.scalar e1
            · exact rv.mono (fun b o _ e => hk2 b o e) fun b o _ q => e2 ▸ (LHot b q).mono hsub2
          have rk' : Rep w.params h₂ (fun b => Hot env H₀ own' b ∨ b = L) kv dk := by
            rcases hcase2 with ⟨e1, _⟩ | ⟨_, e2⟩
            · exact rk.scalar e1
            · refine rk.sub fun b q => ?_
              have q := LHot b q
              rw [e2] at q
              exact q.mono fun x a e => by unfold Own.less at e ⊢; split at e <;> first | cases e | (rename_i hx; rw [if_neg hx]; exact hsub1 x a e)
          refine setItem_own (s := { s with heap := h₂, toks := tk₂ }) hu ((S'.keeps k02).ownM hds q1) rk' rv' hcond.1 hcond.2 fun h' tk hs own2 => ?_
          have S₂ := (S'.keeps k02).turn hds q1 hs (d := .dict _ _) own2
          refine ⟨h', tk, rfl, fun b o e hf ho => ?_, fun b o e => ?_, rfl, own', m, S₂, fun y a e => .inl (hsub1 y a (hsub2 y a e))⟩
          · exact (hs.2 b fun q => ho x (hsub1 x b (hsub2 x b (q ▸ q1)))).trans (k02 b o e)
          · by_cases q : b = L
            · obtain ⟨es', n', r1, _⟩ := own2
              exact ⟨_, q ▸ r1⟩
            · exact ⟨o, (hs.2 b q).trans (k02 b o e)⟩
        · cases hev
      · cases hev
    · cases hev
  · cases hev

theorem sss_nil : SSs prog w A base cf [] := by
  intro s env ss H₀ ent own m σ r E hc S hev
  cases ss with
  | nil =>
    simp only [exSs] at hev; cases hev
    exact wpAny_execs_nil ⟨s.heap, s.toks, rfl, fun b o e _ _ => e, fun b o e => ⟨o, e⟩, rfl, own, m, S, fun x a e => .inl e⟩
  | cons _ _ => simp [chkSs] at hc
theorem sss_cons {a : MS} {l : List MS} (ha : SS prog w A base cf a) (hl : SSs prog w A base cf l) : SSs prog w A base cf (a :: l) := by
  intro s env ss H₀ ent own m σ r E hc S hev
  cases ss with
  | nil => simp [chkSs] at hc
  | cons st ss' =>
    simp only [chkSs, Bool.and_eq_true] at hc
    simp only [exSs] at hev
    split at hev
    · rename_i σ₁ h1
      refine wpAny_execs_cons (wpAny_mono (ha s env st H₀ ent own m σ _ E hc.1 S h1) (fun f s₁ q => ?_) fun _ _ e => e)
      obtain ⟨h₁, tk₁, rfl, k, x, rfl, own', m', S', hsub⟩ := q
      exact wpAny_mono (hl _ env ss' H₀ ent own' m' σ₁ r E hc.2 S' hev) (fun f s₂ q => q.trans h₁ tk₁ rfl k x hsub) fun _ _ e => e
    · rename_i hne
      refine wpAny_execs_cons (wpAny_mono (ha s env st H₀ ent own m σ r E hc.1 S hev) (fun f s₁ q => ?_) fun _ _ e => e)
      obtain ⟨fl, σ₁⟩ := r
      cases fl with
      | next => exact absurd hev (hne σ₁)
      | ret fr d =>
        have q' := q
        obtain ⟨h₁, tk₁, rfl, k, x, v, rfl, _⟩ := q
        exact q'

theorem ss_ite (G : GOk mg mb base) (C : CSound prog w base mg cf A) (hh : A.handled = none) (hu : A.units + 1 < cLine) {c : ME} {t f : List MS} (ht : SSs prog w A base cf t) (hf : SSs prog w A base cf f) : SS prog w A base cf (.ite c t f) := by
  intro s env st H₀ ent own m σ r E hc S hev
  replace hc := inv_ite hc; obtain ⟨_, _, _, _, rfl, hc⟩ := hc
  · rename_i v b o pos
    simp only [Bool.and_eq_true] at hc
    obtain ⟨⟨h1, h2⟩, h3⟩ := hc
    simp only [exS] at hev
    split at hev
    · rename_i d hd
      have run : ∀ tt, truth d = some tt → wpAny (model prog w) A (isTrue v env (eval v env)) (fun b s' => Keeps s s' ∧ b = tt) E s := fun tt htt =>
        (all_E G C hh hu c).2.1 s env v _ (vis σ) m d tt E h1 S.rep (S.freeze c.names).hot (S.nv c.names) hd htt
      split at hev
      · rename_i htt
        refine wpAny_If (wpAny_mono (run true htt) (fun b s₁ q => ?_) fun _ _ e => e)
        obtain ⟨⟨h₁, tk₁, rfl, hk⟩, rfl⟩ := q
        simp only [if_true]
        exact wpAny_mono (ht _ env _ H₀ ent own m σ r E h2 (S.keeps hk) hev) (fun f s₂ q => q.trans h₁ tk₁ rfl (fun b o e _ _ => hk b o e) (fun b o e => ⟨o, hk b o e⟩) fun x a e => .inl e) fun _ _ e => e
      · rename_i htt
        refine wpAny_If (wpAny_mono (run false htt) (fun b s₁ q => ?_) fun _ _ e => e)
        obtain ⟨⟨h₁, tk₁, rfl, hk⟩, rfl⟩ := q
        simp only [Bool.false_eq_true, if_false]
        exact wpAny_mono (hf _ env _ H₀ ent own m σ r E h3 (S.keeps hk) hev) (fun f s₂ q => q.trans h₁ tk₁ rfl (fun b o e _ _ => hk b o e) (fun b o e => ⟨o, hk b o e⟩) fun x a e => .inl e) fun _ _ e => e
      · cases hev
    · cases hev

theorem ss_for (G : GOk mg mb base) (C : CSound prog w base mg cf A) (hh : A.handled = none) (hu : A.units + 1 < cLine) {x : String} {src : ME} {body : List MS} (hb : SSs prog w A base cf body) : SS prog w A base cf (.for_ x src body) := by
  intro s env st H₀ ent own m σ r E hc S hev
  replace hc := inv_for hc; obtain ⟨_, _, _, _, _, rfl, hc⟩ := hc
  · rename_i y yp it b pos
    simp only [Bool.and_eq_true, beq_iff_eq] at hc
    obtain ⟨⟨⟨⟨rfl, hst⟩, hset⟩, hcs⟩, hcb⟩ := hc
    simp only [exS] at hev
    split at hev
    · rename_i d hd
      split at hev
      · rename_i its hits
        have S0 := S.freeze src.names
        refine wpAny_For (wpAny_mono ((all_E G C hh hu src).1 s env it _ (vis σ) m d E hcs S.rep S0.hot (S.nv src.names) hd) (fun xv s₁ q₁ => ?_) fun _ _ e => e) (notSet_folded hset)
        obtain ⟨k01, rep1⟩ := q₁
        refine wpAny_mono (iter_snd rep1 hh hits) (fun itv s₂ q₂ => ?_) fun _ _ e => e
        obtain ⟨I, rfl, IA⟩ := q₂
        obtain ⟨fp, P, Stt, W, hst0, hfp, hP, hlive⟩ := IA.walk
        obtain ⟨h2, tk2, rfl, k12⟩ := IA.keeps
        obtain ⟨h1, tk1, rfl, k01⟩ := k01
        dsimp only at k12 k01 rep1 hfp hP hst0
        have hIf : h1.get? I = none := IA.fresh
        have hIx : ∃ o, h2.get? I = some o := IA.ex
        have S1 := S0.keeps k01
        have S2 := S1.addH (I := I) k12 hIf hIx
        have fex : ∀ c, frm env c → ∃ o, h1.get? c = some o := fun c hc => frame_ex S1.rep hc
        have nIf : ¬ frm env I := fun q => by obtain ⟨o, e⟩ := fex I q; rw [hIf] at e; cases e
        have nIe : ent.get? I = none := by
          cases q : ent.get? I with
          | none => rfl
          | some o => rw [k01 I o (S.keep I o q)] at hIf; cases hIf
        have sub0 : ∀ z a, (own.less src.names) z = some a → own z = some a := fun z a e => by unfold Own.less at e; split at e <;> first | cases e | exact e
        have e02 : ∀ b o, s.heap.get? b = some o → h2.get? b = some o := fun b o e => k12 b o (k01 b o e)
        have nIs : ∀ b o, h1.get? b = some o → b ≠ I := fun b o e q => by rw [q, hIf] at e; cases e
        have body1 : ∀ dv σ', (fun it σ => exSs cf body (setv σ x (false, it))) dv σ' = exSs cf body (setv σ' x (false, dv)) := fun _ _ => rfl
        refine codeAny_forLoop (fun k s' => ∃ h tk done rest own' m' σ', s' = { s with heap := h, toks := tk } ∧ its = done ++ rest ∧ Stt done.length h ∧ StOk w base ent h env (fun b => H₀ b ∨ b = I) own' m' σ' ∧
          (∀ z a, own' z = some a → (own.less src.names) z = some a ∨ h2.get? a = none) ∧ (∀ b o, h2.get? b = some o → ¬ frm env b → (∀ z, (own.less src.names) z ≠ some b) → b ≠ I → h.get? b = some o) ∧ (∀ b o, h2.get? b = some o → b ≠ I → ∃ o', h.get? b = some o') ∧
          forD (fun it σ => exSs cf body (setv σ x (false, it))) rest σ' = some r ∧ k = rest.length + 1) ?_ (its.length + 1)
          ⟨h2, tk2, [], its, _, m, _, rfl, rfl, hst0, S2, fun z a e => .inl e, fun b o e _ _ _ => e, fun b o e _ => ⟨o, e⟩, hev, rfl⟩
        rintro k s' ⟨h, tk, done, rest, own', m', σ', rfl, hdr, hstt, S', o1, k1, x1, hfor, rfl⟩
        cases rest with
        | nil =>
          simp only [List.append_nil] at hdr
          subst hdr
          refine W.done _ _ _ hstt fun h' tk' hk' => ?_
          simp only [forD] at hfor; cases hfor
          have hk'' : ∀ b o, b ≠ I → h.get? b = some o → h'.get? b = some o := fun b o hb e => hk' b o (by simpa using hb) e
          have hE' : Ex h' H₀ := fun c hc => by
            obtain ⟨b', o, hb, ho⟩ := S.hot.ex c (.inl hc)
            obtain ⟨o', ho'⟩ := x1 b' o (e02 b' o ho) (nIs b' o (k01 b' o ho))
            exact ⟨b', o', hb, hk'' b' o' (nIs b' o (k01 b' o ho)) ho'⟩
          have S3 := S'.leave hk'' hE' nIf nIe
          refine wpAny_execs_nil ⟨h', tk', rfl, fun b o e hf ho => ?_, fun b o e => ?_, rfl, own', m', S3, fun z a e => ?_⟩
          · exact hk'' b o (nIs b o (k01 b o e)) (k1 b o (e02 b o e) hf (fun z q => ho z (sub0 z b q)) (nIs b o (k01 b o e)))
          · obtain ⟨o', ho'⟩ := x1 b o (e02 b o e) (nIs b o (k01 b o e))
            exact ⟨o', hk'' b o' (nIs b o (k01 b o e)) ho'⟩
          · rcases o1 z a e with q | q
            · exact .inl (sub0 z a q)
            · right
              cases q' : s.heap.get? a with
              | none => rfl
              | some o => rw [e02 a o q'] at q; cases q
        | cons dv rest' =>
          have hlt : done.length < its.length := by rw [hdr]; simp
          refine W.item done.length _ _ _ hlt hstt fun v h₁ tk₁ hPv hst₁ hk₁ => ?_
          obtain ⟨dv', e1, rv⟩ := hP _ v hlt hPv
          have : dv' = dv := by
            rw [hdr] at e1
            simpa using e1.symm
          subst this
          have hk₁' : ∀ b o, b ≠ I → h.get? b = some o → h₁.get? b = some o := fun b o hb e => hk₁ b o (by simpa using hb) e
          have SI := S'.turnI hk₁' (hlive _ _ hst₁) nIf nIe
          have hot0 : ∀ b o, h1.get? b = some o → Hot env (fun b => H₀ b ∨ b = I) own' b → Hot env H₀ (own.less src.names) b := by
            intro b o e q
            rcases hot_add q with q | q
            · rcases q with q | q | q | ⟨z, q⟩
              · exact .inl q
              · exact .inr (.inl q)
              · exact .inr (.inr (.inl q))
              · rcases o1 z b q with q | q
                · exact .inr (.inr (.inr ⟨z, q⟩))
                · rw [k12 b o e] at q; cases q
            · exact absurd q (nIs b o e)
          have kk1 : ∀ b o, ¬ Hot env H₀ (own.less src.names) b → h1.get? b = some o → h₁.get? b = some o := fun b o hn e =>
            hk₁' b o (nIs b o e) (k1 b o (k12 b o e) (fun q => hn (.inr (q.elim .inl fun q => .inr (.inl q)))) (fun z q => hn (.inr (.inr (.inr ⟨z, q⟩)))) (nIs b o e))
          have rv' : Rep w.params h₁ (Hot env (fun b => H₀ b ∨ b = I) own') v dv' := rv.mono kk1 hot0
          refine wpAny_assign_Name (store_snd (s := { s with heap := h₁, toks := tk₁ }) SI.rep (isStore_kind hst) fun h₂ tk₂ a R₂ ha hs => ?_)
          have ha' : frm env a := ha.imp id fun e => ⟨_, e⟩
          have q3 := store_core (s := { s with heap := h₁, toks := tk₁ }) (x := x) (ns := []) (d := dv') (fr := false) (v := v) (h₁ := h₁) (h₂ := h₂) (a := a) (X := fun _ => False) (tk := tk₂) SI (fun _ _ e => e)
            (by rw [less_nil]; exact rv'.sub fun _ q => q.elim id False.elim) (fun e => by cases e) R₂ ha' (fun _ q => q.elim) fun b hb _ => hs.2 b hb
          rw [settle_nil] at q3
          obtain ⟨h₂', tk₂', e₂, k3, x3, _, own₂, m₂, S₂, o2⟩ := q3
          have e4 : h₂ = h₂' := congrArg Shared.heap e₂
          subst e4
          have e5 : tk₂ = tk₂' := congrArg Shared.toks e₂
          subst e5
          have aI : a ≠ I := fun q => nIf (q ▸ ha')
          have hst₂ : Stt (done.length + 1) h₂ := W.frame _ _ _ hst₁ fun b hb o' e => by
            refine (hs.2 b fun q => ?_).trans e
            rcases hfp b hb with e2 | ⟨hn2, o2', e2⟩
            · exact aI (q ▸ e2)
            · exact hn2 (.inr (((q ▸ ha') : frm env b).elim .inl fun q => .inr (.inl q)))
          -- what the body finds
          have keep2 : ∀ b o, h2.get? b = some o → ¬ frm env b → (∀ z, (own.less src.names) z ≠ some b) → b ≠ I → h₂.get? b = some o := fun b o e hf ho hI => (hs.2 b fun q => hf (q ▸ ha')).trans (hk₁' b o hI (k1 b o e hf ho hI))
          have ex2 : ∀ b o, h2.get? b = some o → b ≠ I → ∃ o', h₂.get? b = some o' := fun b o e hI => by
            obtain ⟨o', e'⟩ := x1 b o e hI
            obtain ⟨o'', e''⟩ := x3 b o' (hk₁' b o' hI e')
            exact ⟨o'', e''⟩
          have own2 : ∀ z c, own₂ z = some c → (own.less src.names) z = some c ∨ h2.get? c = none := fun z c e => by
            rcases o2 z c e with q | q
            · exact o1 z c q
            · refine .inr ?_
              cases q' : h2.get? c with
              | none => rfl
              | some o =>
                by_cases hcI : c = I
                · obtain ⟨o', e'⟩ := hlive _ _ hst₁
                  rw [hcI] at q
                  have q : h₁.get? I = none := q
                  rw [e'] at q; cases q
                · obtain ⟨o', e'⟩ := x1 c o q' hcI
                  have q : h₁.get? c = none := q
                  rw [hk₁' c o' hcI e'] at q; cases q
          simp only [forD] at hfor
          have go : ∀ (E' : Value → Shared → Prop) rb, exSs cf body (setv σ' x (false, dv')) = some rb → wpAny (model prog w) A (execs _ env) (SPost w base ent env (fun b => H₀ b ∨ b = I) { s with heap := h₂, toks := tk₂ } own₂ rb) E' { s with heap := h₂, toks := tk₂ } :=
            fun E' rb hrb => hb { s with heap := h₂, toks := tk₂ } env _ _ ent own₂ m₂ _ rb E' hcb S₂ hrb
          cases hbody : exSs cf body (setv σ' x (false, dv')) with
          | none => rw [hbody] at hfor; cases hfor
          | some rb =>
            obtain ⟨fl, σ₂⟩ := rb
            rw [hbody] at hfor
            refine wpAny_mono (go _ _ hbody) (fun f s₃ q => ?_) fun _ _ e => e
            obtain ⟨h₃, tk₃, rfl, k5, x5, q⟩ := q
            have hIx2 : ∃ o, h₂.get? I = some o := hlive _ _ hst₂
            have nIo : ∀ z, own₂ z ≠ some I := fun z q => (S₂.own1 z I q).2.1 (.inr rfl)
            have hst₃ : Stt (done.length + 1) h₃ := W.frame _ _ _ hst₂ fun b hb o' e => by
              rcases hfp b hb with e2 | ⟨hn2, o2', e2⟩
              · subst e2; exact k5 b o' e nIf nIo
              · refine k5 b o' e (fun q => hn2 (.inr (q.elim .inl fun q => .inr (.inl q)))) fun z q => ?_
                rcases own2 z b q with q | q
                · exact hn2 (.inr (.inr (.inr ⟨z, q⟩)))
                · rw [k12 b o2' e2] at q; cases q
            have keep3 : ∀ b o, h2.get? b = some o → ¬ frm env b → (∀ z, (own.less src.names) z ≠ some b) → b ≠ I → h₃.get? b = some o := fun b o e hf ho hI => k5 b o (keep2 b o e hf ho hI) hf fun z q => by
              rcases own2 z b q with q | q
              · exact ho z q
              · rw [e] at q; cases q
            have ex3 : ∀ b o, h2.get? b = some o → b ≠ I → ∃ o', h₃.get? b = some o' := fun b o e hI => by
              obtain ⟨o', e'⟩ := ex2 b o e hI
              exact x5 b o' e'
            have nxt : (∃ own₃ m₃, StOk w base ent h₃ env (fun b => H₀ b ∨ b = I) own₃ m₃ σ₂ ∧ ∀ z c, own₃ z = some c → own₂ z = some c ∨ h₂.get? c = none) → forD (fun it σ => exSs cf body (setv σ x (false, it))) rest' σ₂ = some r →
                ∃ k, k < (dv' :: rest').length + 1 ∧ ∃ h tk done rest own' m' σ', ({ s with heap := h₃, toks := tk₃ } : Shared) = { s with heap := h, toks := tk } ∧ its = done ++ rest ∧ Stt done.length h ∧ StOk w base ent h env (fun b => H₀ b ∨ b = I) own' m' σ' ∧
                (∀ z a, own' z = some a → (own.less src.names) z = some a ∨ h2.get? a = none) ∧ (∀ b o, h2.get? b = some o → ¬ frm env b → (∀ z, (own.less src.names) z ≠ some b) → b ≠ I → h.get? b = some o) ∧ (∀ b o, h2.get? b = some o → b ≠ I → ∃ o', h.get? b = some o') ∧
                forD (fun it σ => exSs cf body (setv σ x (false, it))) rest σ' = some r ∧ k = rest.length + 1 := by
              rintro ⟨own₃, m₃, S₃, o3⟩ hf
              refine ⟨rest'.length + 1, by simp, h₃, tk₃, done ++ [dv'], rest', own₃, m₃, σ₂, rfl, by rw [hdr]; simp, by simpa using hst₃, S₃, fun z c e => ?_, keep3, ex3, hf, rfl⟩
              rcases o3 z c e with q | q
              · exact own2 z c q
              · refine .inr ?_
                cases q' : h2.get? c with
                | none => rfl
                | some o =>
                  by_cases hcI : c = I
                  · obtain ⟨o', e'⟩ := hIx2
                    rw [hcI, e'] at q; cases q
                  · obtain ⟨o', e'⟩ := ex2 c o q' hcI
                    rw [e'] at q; cases q
            cases fl with
            | next =>
              obtain ⟨rfl, q⟩ := q
              exact nxt q hfor
            | ret fr dr =>
              cases hfor
              obtain ⟨u, rfl, q1, q2, q3⟩ := q
              refine ⟨h₃, tk₃, rfl, fun b o e hf ho => keep3 b o (e02 b o e) hf (fun z q => ho z (sub0 z b q)) (nIs b o (k01 b o e)), fun b o e => ex3 b o (e02 b o e) (nIs b o (k01 b o e)), u, rfl, q1.sub fun _ q => .inl q, q2, fun hf => ?_⟩
              obtain ⟨c, g1, g3, g4⟩ := q3 hf
              exact ⟨c, g1, g3, g4.mono (fun _ e => e) (fun _ _ _ e => e) fun _ _ _ q => .inl (.inl q)⟩
      · cases hev
    · cases hev

mutual
theorem all_S (G : GOk mg mb base) (C : CSound prog w base mg cf A) (hh : A.handled = none) (hu : A.units + 1 < cLine) (ms : MS) : SS prog w A base cf ms := by
  match ms with
  | .assign x e => exact ss_assign G C hh hu x e
  | .append x e => exact ss_append G C hh hu x e
  | .setk x k e => exact ss_setk G C hh hu x k e
  | .bad => exact fun s env st H₀ ent own m σ r E hc S hev => by simp only [exS] at hev; cases hev
  | .ite c t f => exact ss_ite G C hh hu (all_Ss G C hh hu t) (all_Ss G C hh hu f)
  | .for_ x src body => exact ss_for G C hh hu (all_Ss G C hh hu body)
  | .ret e => exact ss_ret G C hh hu e
termination_by structural ms
theorem all_Ss (G : GOk mg mb base) (C : CSound prog w base mg cf A) (hh : A.handled = none) (hu : A.units + 1 < cLine) (ms : List MS) : SSs prog w A base cf ms := by
  match ms with
  | [] => exact sss_nil
  | a :: r => exact sss_cons (all_S G C hh hu a) (all_Ss G C hh hu r)
termination_by structural ms
end
end
end Mine

namespace Mine
open PySem

theorem lookup_zip_mem {α : Type} : ∀ (ns : List Str) (vs : List α), ns.length = vs.length → ∀ x ∈ ns, ((ns.zip vs).lookup x).isSome = true
  | [], _, _, x, h => nomatch h
  | n :: ns, [], h, _, _ => by simp at h
  | n :: ns, v :: vs, h, x, hx => by
    rw [List.zip_cons_cons, lookup_cons']
    split
    · rfl
    · rename_i hne
      rcases List.mem_cons.mp hx with e | e
      · exact absurd e hne
      · exact lookup_zip_mem ns vs (by simpa using h) x e
theorem filterMap_zip {α : Type} : ∀ (ns : List Str) (vs : List α), ns.Nodup → ns.length = vs.length → ns.filterMap (fun n => ((ns.zip vs).lookup n).map (n, ·)) = ns.zip vs
  | [], [], _, _ => rfl
  | [], _ :: _, _, h => by simp at h
  | _ :: _, [], _, h => by simp at h
  | n :: ns, v :: vs, hn, h => by
    rw [List.zip_cons_cons, List.filterMap_cons, lookup_cons', if_pos rfl]
    simp only [Option.map_some]
    congr 1
    rw [List.nodup_cons] at hn
    have ih := filterMap_zip ns vs hn.2 (by simpa using h)
    have cg : ∀ (l : List Str), (∀ x ∈ l, x ∈ ns) → l.filterMap (fun m => (((n, v) :: ns.zip vs).lookup m).map (m, ·)) = l.filterMap (fun m => ((ns.zip vs).lookup m).map (m, ·)) := by
      intro l
      induction l with
      | nil => intro _; rfl
      | cons x l il =>
        intro hl
        rw [List.filterMap_cons, List.filterMap_cons, lookup_cons', if_neg (show x ≠ n from fun e => hn.1 (e ▸ hl x (.head _))), il fun y hy => hl y (.tail _ hy)]
    rw [cg ns fun _ h => h]; exact ih

theorem bindArgs_plain {fd : FuncData} {vals : List Value} (h1 : fd.params.posonlyargs = []) (h2 : fd.params.kwonlyargs = []) (h3 : fd.params.vararg = none) (h4 : fd.params.kwarg = none) (h5 : fd.defaults = .none)
    (hnd : (fd.params.args.map (·.arg)).Nodup) (hl : (fd.params.args.map (·.arg)).length = vals.length) : bindArgs fd ⟨vals, []⟩ = pure ((fd.params.args.map (·.arg)).zip vals) := by
  unfold bindArgs
  simp only [h1, h2, h3, h4, h5, List.map_nil, List.nil_append, List.append_nil]
  have hm : List.filter (fun n => (List.lookup n (((fd.params.args.map (·.arg)).zip vals))).isNone) (fd.params.args.map (·.arg)) = [] := by
    rw [List.filter_eq_nil_iff]
    intro x hx
    have := lookup_zip_mem _ vals hl x hx
    simp only [Option.isNone_iff_eq_none]
    intro e
    rw [e] at this
    cases this
  have hs : seqItems? Value.none = (pure none : Sem (Option (Array Value))) := rfl
  simp only [List.forIn_nil, pure_bind, hs, Option.getD_none, List.drop_nil, List.length_nil, Nat.sub_zero, List.take_length]
  have hg : decide (vals.length > (List.map (fun x => x.arg) fd.params.args).length) = false := by simp; rw [← hl]; simp
  rw [hm, hg]
  simp only [Bool.false_and, Bool.false_eq_true, if_false, List.isEmpty_nil, Bool.not_true, List.zip_nil_right, List.forIn_nil, pure_bind]
  rw [filterMap_zip _ _ hnd hl]
end Mine

namespace Mine
open PySem PySem.SeqAt

/-- a def of the text, and its mini form -/
structure FnOk (base : Heap) (mg : Str → Option Value) (f : String) (fn : Fn) : Prop where
  ok : ∃ a o fd body, mg (Str.ofString f) = some (.ref a) ∧ base.get? a = some o ∧ o.data = .func fd ∧ fd.body = .stmts body ∧ fd.closure = [] ∧ fd.globals = mainGlobals ∧ fd.builtins = builtinsNs ∧ base.CodeRec fd.code fd.qualname ∧
    fd.params.posonlyargs = [] ∧ fd.params.kwonlyargs = [] ∧ fd.params.vararg = none ∧ fd.params.kwarg = none ∧ fd.defaults = .none ∧ fd.params.args.map (·.arg) = fn.params.map Str.ofString ∧ fn.params.Nodup ∧
    fd.scope.kind = .function ∧ fd.scope.isCoroutine = false ∧ fd.scope.isGenerator = false ∧ (fd.scope.names.map (·.1)).Nodup ∧ (∀ p ∈ fd.scope.names, p.2 ≠ .free) ∧
    (∀ x ∈ fn.params, fd.scope.names.lookup (Str.ofString x) = some .local ∨ fd.scope.names.lookup (Str.ofString x) = some .cell) ∧ chkSs (fun x => fd.scope.names.lookup x) body fn.body = true

theorem bindL_eq {k : KD} : ∀ (binds : List (Str × Value)) (m : Str → Option Value) (x : Str), (binds.map (·.1)).Nodup → k x = some .local → bindL k binds m x = (binds.lookup x).or (m x)
  | [], m, x, _, _ => by simp [bindL]
  | (n, v) :: r, m, x, hn, hk => by
    unfold bindL
    simp only [List.map_cons, List.nodup_cons] at hn
    rw [bindL_eq r _ x hn.2 hk, lookup_cons']
    by_cases h : x = n
    · subst h
      have : r.lookup x = none := by
        cases q : r.lookup x with
        | none => rfl
        | some c => exact absurd (List.mem_map_of_mem (f := (·.1)) (mem_of_lookup q)) hn.1
      rw [this, if_pos rfl, if_pos hk]
      simp
    · rw [if_neg h]
      split
      · simp [h]
      · rfl
theorem bindC_eq {k : KD} : ∀ (binds : List (Str × Value)) (m : Str → Option Value) (x : Str), (binds.map (·.1)).Nodup → k x ≠ some .local → bindC k binds m x = (binds.lookup x).or (m x)
  | [], m, x, _, _ => by simp [bindC]
  | (n, v) :: r, m, x, hn, hk => by
    unfold bindC
    simp only [List.map_cons, List.nodup_cons] at hn
    rw [bindC_eq r _ x hn.2 hk, lookup_cons']
    by_cases h : x = n
    · subst h
      have : r.lookup x = none := by
        cases q : r.lookup x with
        | none => rfl
        | some c => exact absurd (List.mem_map_of_mem (f := (·.1)) (mem_of_lookup q)) hn.1
      rw [this, if_pos rfl, if_neg hk]
      simp
    · rw [if_neg h]
      split
      · rfl
      · simp [h]

theorem lookup_zip_map {h : Heap} {P : Params} {H : Addr → Prop} : ∀ (ns : List String) (vs : List Value) (ds : List D) (x : String) (d : D), RepAll P h H vs ds → (ns.zip ds).lookup x = some d → ∃ v, ((ns.map Str.ofString).zip vs).lookup (Str.ofString x) = some v ∧ Rep P h H v d
  | [], _, _, x, d, _, e => by simp at e
  | n :: ns, _, _, x, d, .nil, e => by simp at e
  | n :: ns, _, _, x, d, .cons hv hr, e => by
    rw [List.zip_cons_cons, List.lookup_cons] at e
    rw [List.map_cons, List.zip_cons_cons, lookup_cons']
    by_cases h : x = n
    · subst h
      simp only [beq_self_eq_true] at e
      cases e
      exact ⟨_, if_pos rfl, hv⟩
    · have hb : (x == n) = false := by simpa using h
      rw [hb] at e
      rw [if_neg (fun q => h (ofString_inj q))]
      exact lookup_zip_map ns _ _ x d hr e

theorem lookup_start (x : String) : ∀ (ns : List String) (ds : List D), ((ns.zip ds).map fun p => (p.1, (false, p.2))).lookup x = ((ns.zip ds).lookup x).map fun d => (false, d)
  | [], _ => rfl
  | _ :: _, [] => rfl
  | n :: ns, d :: ds => by
    have ih := lookup_start x ns ds
    rw [List.zip_cons_cons, List.map_cons, List.lookup_cons, List.lookup_cons]
    by_cases h : x = n
    · subst h; simp
    · have hb : (x == n) = false := by simpa using h
      simp only [hb]
      exact ih

section
variable {prog : Program} {w : World} {base : Heap} {mg mb : Str → Option Value} {P : List (String × Fn)} {X : CF}

theorem call_fn (G : GOk mg mb base) {A : Around} {cf : CF} (hh : A.handled = none) (hd : A.depth < recursionLimit) (hu : A.units + 4 < cLine) (C : ∀ env, CSound prog w base mg cf (A.deeper env)) {f : String} {fn : Fn} (F : FnOk base mg f fn) {ds : List D} (hl : ds.length = fn.params.length)
    {r : Fl × St} (hev : exSs cf fn.body ((fn.params.zip ds).map fun p => (p.1, (false, p.2))) = some r) {d : D} {fr : Bool} (hr : (∃ σ, r = (.ret fr d, σ)) ∨ (∃ σ, r = (.next, σ) ∧ d = .none ∧ fr = false)) :
    ∃ a o fd, mg (Str.ofString f) = some (.ref a) ∧ base.get? a = some o ∧ o.data = .func fd ∧
    ∀ (s : Shared) (H : Addr → Prop) (vs : List Value) (E : Value → Shared → Prop), HOk base s.heap H → RepAll w.params s.heap H vs ds → wpAny (model prog w) A (PySem.call (.ref a) vs) (PostF w s H d fr) E s := by
  obtain ⟨a, o, fd, body, f1, f2, f3, f4, f5, f6, f7, f8, f9, f10, f11, f12, f13, f14, f15, f16, f17, f18, f19, f20, f21, f22⟩ := F.ok
  refine ⟨a, o, fd, f1, f2, f3, fun s H vs E hw hvs => ?_⟩
  have hnames : (fd.params.args.map (·.arg)).Nodup := by
    rw [f14]
    exact List.pairwise_map.mpr (f15.imp fun hne e => hne (ofString_inj e))
  have hlen : (fd.params.args.map (·.arg)).length = vs.length := by rw [f14, List.length_map, hvs.length, hl]
  have hb := bindArgs_plain (vals := vs) f9 f10 f11 f12 f13 hnames hlen
  have hbn : ((((fd.params.args.map (·.arg)).zip vs)).map (·.1)) = fd.params.args.map (·.arg) := by
    rw [List.map_fst_zip (by omega)]
  refine wpAny_call (codeAny_call_cells (binds := (fd.params.args.map (·.arg)).zip vs) hd (hw.keep _ _ f2) f3 (G.lim.keeps hw.keep) (f8.keeps hw.keep) f4 hb f5 ?_ ?_ f17 f18 f16)
  · intro x hx
    have hx' : x.1 ∈ fn.params.map Str.ofString := by rw [← f14, ← hbn]; exact List.mem_map_of_mem hx
    obtain ⟨z, hz, e⟩ := List.mem_map.mp hx'
    rcases f21 z hz with q | q
    · exact .inl (by rw [← e]; exact q)
    · refine .inr ⟨by rw [← e]; exact q, ?_⟩
      obtain ⟨c, hc⟩ := cellsFrom_has fd.scope.names (s.heap.objs.size + 1) (Str.ofString z) (mem_of_lookup q)
      obtain ⟨c', hc'⟩ := lookup_some_of_mem hc
      rw [← e, hc']; rfl
  · intro s₁ ic
    obtain ⟨h₁, tk₁, rfl, hk⟩ := ic.toInCall.done
    have Lsz : @Eq Nat (callEnvC fd s.heap.objs.size a).locals s.heap.objs.size := rfl
    have cge : ∀ x c, (callEnvC fd s.heap.objs.size a).cells.lookup x = some c → @LT.lt Nat _ s.heap.objs.size c := fun x c hc => ic.above x c (mem_of_lookup hc)
    have newN : ∀ c, @LE.le Nat _ s.heap.objs.size c → s.heap.get? c = none := fun c hc => Heap.get?_none_of_le hc
    have kindEq : ∀ x, (callEnvC fd s.heap.objs.size a).kindOf x = fd.scope.names.lookup x := fun _ => rfl
    have R : EnvRep h₁ (callEnvC fd s.heap.objs.size a) (fun x => ((fd.params.args.map (·.arg)).zip vs).lookup x) := by
      refine ⟨f16, f6, f7, ⟨_, ic.toInCall.ns, fun x hx => ?_⟩, fun x hx => ?_, fun x y c h1 h2 => ?_, fun x c hc e => ?_, fun x c hc => ?_⟩
      · rw [bindL_eq _ _ x (by rw [hbn]; exact hnames) hx]; simp
      · have hcell : fd.scope.names.lookup x = some .cell := by
          rcases hx with q | q
          · exact q
          · exact absurd rfl (f20 _ (mem_of_lookup q))
        obtain ⟨c, hc⟩ := cellsFrom_has fd.scope.names (s.heap.objs.size + 1) x (mem_of_lookup hcell)
        obtain ⟨c', hc'⟩ := lookup_some_of_mem hc
        refine ⟨c', hc', ?_⟩
        have := ic.cell x c' hc'
        rw [bindC_eq _ _ x (by rw [hbn]; exact hnames) (by rw [kindEq, hcell]; simp)] at this
        simpa using this
      · exact name_of_addr ic.apart (mem_of_lookup h1) (mem_of_lookup h2)
      · have := cge x c hc
        have e' : @Eq Nat c s.heap.objs.size := e
        omega
      · obtain ⟨o', e', _⟩ := ic.cell x c hc
        exact ⟨o', e'⟩
    have hot : ∀ b, Hot (callEnvC fd s.heap.objs.size a) H (fun _ => none) b → H b ∨ frm (callEnvC fd s.heap.objs.size a) b := by
      rintro b (q | q | q | ⟨x, q⟩)
      · exact .inl q
      · exact .inr (.inl q)
      · exact .inr (.inr q)
      · cases q
    have frn : ∀ b, frm (callEnvC fd s.heap.objs.size a) b → s.heap.get? b = none := by
      rintro b (q | ⟨x, q⟩)
      · exact newN b (by rw [q]; exact Nat.le_refl _)
      · exact newN b (Nat.le_of_lt (cge x b q))
    have S : StOk w base s.heap h₁ (callEnvC fd s.heap.objs.size a) H (fun _ => none) (fun x => ((fd.params.args.map (·.arg)).zip vs).lookup x) ((fn.params.zip ds).map fun p => (p.1, (false, p.2))) := by
      refine ⟨R, fun x d' e => ?_, fun x d' e => ?_, ⟨fun b o' e => hk b o' (hw.keep b o' e), fun b q => ?_, fun b o' e q => ?_⟩, hk, ⟨frn _ (.inl rfl), fun x c hc => frn c (.inr ⟨x, hc⟩)⟩, fun x c e => (by cases e), fun x y c e => (by cases e), fun x c e => (by cases e)⟩
      · rw [lookup_start] at e
        simp only [Option.map_eq_some_iff, Prod.mk.injEq] at e
        obtain ⟨d'', e1, _, e2⟩ := e
        subst e2
        obtain ⟨v, e3, e4⟩ := lookup_zip_map fn.params vs ds x d'' hvs e1
        refine ⟨v, by rw [f14]; exact e3, e4.mono (fun b o' _ e => hk b o' e) fun b o' e q => ?_⟩
        rcases hot b q with q | q
        · exact q
        · rw [frn b q] at e; cases e
      · rw [lookup_start] at e
        simp only [Option.map_eq_some_iff, Prod.mk.injEq] at e
        obtain ⟨_, _, e1, _⟩ := e
        cases e1
      · rcases hot b q with q | q
        · obtain ⟨b', o', h1, h2⟩ := hw.ex b q
          exact ⟨b', o', h1, hk _ _ h2⟩
        · obtain ⟨o', ho'⟩ := frame_ex R q
          exact ⟨b, o', Nat.le_refl _, ho'⟩
      · rcases hot b q with q | q
        · exact hw.off b o' e q
        · have := frn b q
          rw [hw.keep b o' e] at this; cases this
    refine wpAny_mono (all_Ss G (C (callEnvC fd s.heap.objs.size a)) (A := A.deeper (callEnvC fd s.heap.objs.size a)) hh (by show A.units + 3 + 1 < cLine; exact hu) fn.body { s with heap := h₁, toks := tk₁ } (callEnvC fd s.heap.objs.size a) body H s.heap (fun _ => none) _ _ r _ f22 S hev) (fun fl s' q => ?_) fun _ _ e => e
    obtain ⟨h', tk', rfl, k, x, q⟩ := q
    rcases hr with ⟨σ, rfl⟩ | ⟨σ, rfl, rfl, rfl⟩
    · obtain ⟨v, rfl, q1, q2, q3⟩ := q
      refine ⟨⟨h', tk', rfl, q2⟩, q1, fun hf => ?_⟩
      exact q3 hf
    · obtain ⟨rfl, own', m', S', _⟩ := q
      exact ⟨⟨h', tk', rfl, S'.keep⟩, .none, fun e => by cases e⟩

/-- all calls, to the depth n -/
theorem callN_sound (G : GOk mg mb base) (HF : ∀ f fn, P.lookup f = some fn → FnOk base mg f fn) (HX : ∀ A, AOk A 0 → CSound prog w base mg X A) : ∀ (n : Nat) (A : Around), AOk A n → CSound prog w base mg (callN P X n) A
  | 0, A, hA => ⟨fun f ds d fr h => (by simp only [callN] at h; exact nomatch h), (HX A hA).glob⟩
  | n + 1, A, hA => by
    have hA0 : AOk A 0 := ⟨hA.handled, by have := hA.depth; omega, by have := hA.units; omega⟩
    refine ⟨fun f ds d fr h => ?_, (HX A hA0).glob⟩
    simp only [callN] at h
    split at h
    · exact (HX A hA0).call f ds d fr h
    · rename_i fn hfn
      split at h
      · rename_i hl
        have C : ∀ env, CSound prog w base mg (callN P X n) (A.deeper env) := fun env => callN_sound G HF HX n (A.deeper env) ⟨hA.handled, by
          have := hA.depth
          show A.depth + 1 + n + 20 < recursionLimit
          omega, by
          have := hA.units
          show A.units + 3 + 3 * n + 100 < cLine
          omega⟩
        have hd : A.depth < recursionLimit := by have := hA.depth; omega
        have hu : A.units + 4 < cLine := by have := hA.units; omega
        split at h
        · rename_i fr' d' σ hev
          cases h
          exact call_fn G hA.handled hd hu C (HF f fn hfn) hl hev (.inl ⟨σ, rfl⟩)
        · rename_i σ hev
          cases h
          exact call_fn G hA.handled hd hu C (HF f fn hfn) hl hev (.inr ⟨σ, rfl, rfl, rfl⟩)
        · cases h
      · cases h
end
end Mine

namespace Mine
open PySem PySem.SeqAt PySem.W PyProof.Rows

noncomputable def chkFn (d : DefRec) (fn : Fn) : Bool :=
  d.params.posonlyargs.isEmpty && d.params.kwonlyargs.isEmpty && d.params.vararg.isNone && d.params.kwarg.isNone && d.params.args.map (·.arg) == fn.params.map Str.ofString && decide fn.params.Nodup &&
  d.scope.kind == .function && !d.scope.isCoroutine && !d.scope.isGenerator && decide (d.scope.names.map (·.1)).Nodup && d.scope.names.all (fun p => p.2 != .free) &&
  fn.params.all (fun x => d.scope.names.lookup (Str.ofString x) == some .local || d.scope.names.lookup (Str.ofString x) == some .cell) && chkSs (fun x => d.scope.names.lookup x) d.body fn.body
noncomputable def chkProg (recs : List DefRec) (P : List (String × Fn)) : Bool := P.all fun q => match recs.find? (fun d => d.name == Str.ofString q.1) with
  | some d => chkFn d q.2
  | none => false
noncomputable def bltFree (p : Program) (loose : List Str) : Bool := bltNames.all fun f => !startupNames.contains (Str.ofString f) && !loose.contains (Str.ofString f) && !((recsOf p).map (·.name)).contains (Str.ofString f) && !((litsOf p).map (·.1)).contains (Str.ofString f) && !((clssOf p loose).map (·.name)).contains (Str.ofString f)

theorem mem_of_lookupS {α : Type} : ∀ {l : List (String × α)} {x : String} {c : α}, l.lookup x = some c → (x, c) ∈ l
  | (y, d) :: r, x, c, h => by
    rw [List.lookup_cons] at h
    by_cases e : x = y
    · subst e
      simp only [beq_self_eq_true] at h
      cases h
      exact .head _
    · have hb : (x == y) = false := by simpa using e
      rw [hb] at h
      exact .tail _ (mem_of_lookupS h)

theorem fnOk_of {p : Program} {loose : List Str} {mean : ExcName → Option Value} {mg mb : Str → Option Value} {h : Heap} (T : Top p loose mean mg mb h) {P : List (String × Fn)} (hP : chkProg (recsOf p) P = true) {f : String} {fn : Fn} (hf : P.lookup f = some fn) : FnOk h mg f fn := by
  unfold chkProg at hP
  have := List.all_eq_true.mp hP _ (mem_of_lookupS hf)
  dsimp only at this
  cases hd : (recsOf p).find? (fun d => d.name == Str.ofString f) with
  | none => rw [hd] at this; cases this
  | some d =>
    rw [hd] at this
    have hn : d.name = Str.ofString f := by simpa using List.find?_some hd
    obtain ⟨a, o, pm, code, doc, h1, h2, h3, h4⟩ := T.fn d (List.mem_of_find?_eq_some hd)
    simp only [chkFn, Bool.and_eq_true, decide_eq_true_eq, beq_iff_eq, List.isEmpty_iff, Option.isNone_iff_eq_none, Bool.not_eq_true', List.all_eq_true, bne_iff_ne, Bool.or_eq_true] at this
    obtain ⟨⟨⟨⟨⟨⟨⟨⟨⟨⟨⟨⟨c1, c2⟩, c3⟩, c4⟩, c5⟩, c6⟩, c7⟩, c8⟩, c9⟩, c10⟩, c11⟩, c12⟩, c13⟩ := this
    exact ⟨a, o, _, d.body, hn ▸ h1, h2, h3, rfl, rfl, rfl, rfl, h4, c1, c2, c3, c4, rfl, c5, c6, c7, c8, c9, c10, c11, c12, c13⟩

theorem gOk_of {p : Program} {loose : List Str} {mean : ExcName → Option Value} {mg mb : Str → Option Value} {h : Heap} (T : Top p loose mean mg mb h) (hB : bltFree p loose = true) : GOk mg mb h := by
  refine ⟨T.g, T.b, T.nolimit, fun f hf => ⟨?_, ?_⟩⟩
  · have := List.all_eq_true.mp hB f hf
    simp only [Bool.and_eq_true, Bool.not_eq_true', List.contains_eq_mem, decide_eq_false_iff_not] at this
    obtain ⟨⟨⟨⟨c1, c2⟩, c3⟩, c4⟩, c5⟩ := this
    exact T.free _ c1 c2 c3 c4 c5
  · rw [T.builtins]
    · have : (bltNames.all fun f => bootBuiltins (Str.ofString f) == some (bltVal f)) = true := by decide +kernel
      simpa using List.all_eq_true.mp this f hf
    · have : (bltNames.all fun f => Str.ofString f != Str.ofString "__name__") = true := by decide +kernel
      simpa using List.all_eq_true.mp this f hf

theorem wellInts {P : Params} {h : Heap} {H : Addr → Prop} : ∀ {vs : List Value} {ns : List Int}, WellAll P h vs (ofPys (ns.map PyData.int)) → RepAll P h H vs (ns.map .int)
  | vs, [], hw => by cases hw; exact .nil
  | vs, n :: ns, hw => by
    cases hw with
    | cons h1 h2 =>
      cases h1
      exact .cons (.int _ _) (wellInts h2)

theorem law_fin {l : OpenLaw} {w : World} {s₀ s₁ : Shared} {mg mb : Str → Option Value} {p : Program} {loose : List Str} {mean mean' : ExcName → Option Value} {P : List (String × Fn)} {X : CF} (N : Nat) (T : Top p loose mean mg mb s₁.heap)
    (hP : chkProg (recsOf p) P = true) (hB : bltFree p loose = true) (hN : N ≤ 600) (HX : ∀ A, AOk A 0 → CSound l.prog w s₁.heap mg X A)
    {fa a : Addr} {ns : List Int} (hmg : mg (Str.ofString "law") = some (.ref fa)) (hg : s₁.gens = #[]) (hw : Well w.params s₁.heap (.ref a) (ofPy (PyData.list (ns.map PyData.int)))) (hlen : ¬ ((63 : Nat) : Int) < (ns.length : Int))
    (hpure : ∃ fr, (callN P X N).call "law" [.list (ns.map .int)] = some (.bool true, fr)) :
    wpAny (model l.row.toRowW.prog w) callerA (call (.ref fa) [.ref a]) (fun v s' => GoodWG l.row.toRowW.claim (classAt s₀.heap) mean' [ofPy (PyData.list (ns.map PyData.int))] s₁ (.ok (.ret v)) s')
      (fun e s' => GoodWG l.row.toRowW.claim (classAt s₀.heap) mean' [ofPy (PyData.list (ns.map PyData.int))] s₁ (.error e) s') s₁ := by
  obtain ⟨fr, hp⟩ := hpure
  have G := gOk_of T hB
  have hA : AOk callerA N := ⟨rfl, by
    show 1 + claimMargin + N + 20 < recursionLimit
    have e1 : claimMargin = 300 := rfl
    have e2 : recursionLimit = 1000 := rfl
    omega, by
    show 4 + 3 * N + 100 < cLine
    have e2 : cLine = 9900 := rfl
    omega⟩
  have C := callN_sound (prog := l.prog) (w := w) G (fun f fn hf => fnOk_of T hP hf) HX N callerA hA
  obtain ⟨a', o, fd, h1, h2, h3, h4⟩ := C.call "law" _ _ fr hp
  rw [hmg] at h1
  cases h1
  have hrep : Rep w.params s₁.heap (fun _ => False) (.ref a) (.list (ns.map .int)) := by
    cases hw with
    | list ho hr =>
      refine .list ho (fun q => q) ?_ (wellInts (by simpa using hr))
      simp only [List.length_map]
      have : ns.length ≤ 63 := by omega
      exact Nat.le_trans this (by decide)
  refine wpAny_mono (h4 s₁ (fun _ => False) [.ref a] _ ⟨fun _ _ e => e, fun _ q => q.elim, fun _ _ _ q => q⟩ (.cons hrep .nil)) (fun v s' q => ?_) fun _ _ e => e
  obtain ⟨⟨h', tk, rfl, hk⟩, rv, _⟩ := q
  cases rv
  exact GoodW.toG ⟨.inl ⟨.bool true, .bool true, [], rfl, fun _ => rfl, .bool true, postW_of (r := l.row.toRowW) rfl (w_eq_bool (w_res rfl) w_lit) rfl, fun _ => ⟨.nil, fun _ h => nomatch h⟩⟩, hk, rfl, hg⟩
end Mine

namespace Mine
open PySem
noncomputable def fin (r : Option (Fl × St)) : Option (D × Bool) := match r with
  | some (.ret fr d, _) => some (d, fr)
  | some (.next, _) => some (.none, false)
  | _ => none
theorem call_eq {P : List (String × Fn)} {X : CF} {f : String} {fn : Fn} (n : Nat) (args : List D) (h : P.lookup f = some fn) (hl : args.length = fn.params.length) :
    (callN P X (n + 1)).call f args = fin (exSs (callN P X n) fn.body ((fn.params.zip args).map fun p => (p.1, (false, p.2)))) := by
  simp only [callN, h, hl, if_true, fin]
  all_goals (split <;> rename_i q <;> simp [q])
theorem call_x {P : List (String × Fn)} {X : CF} {f : String} (n : Nat) (args : List D) (h : P.lookup f = none) :
    (callN P X (n + 1)).call f args = X.call f args := by simp only [callN, h]
theorem glob_x (P : List (String × Fn)) (X : CF) (n : Nat) (x : String) : (callN P X n).glob x = X.glob x := by cases n <;> rfl

noncomputable def thenS (r : Option (Fl × St)) (k : St → Option (Fl × St)) : Option (Fl × St) := match r with
  | some (.next, σ) => k σ
  | x => x
theorem thenS_next (σ : St) (k) : thenS (some (.next, σ)) k = k σ := rfl
theorem thenS_ret (fr d) (σ : St) (k) : thenS (some (.ret fr d, σ)) k = some (.ret fr d, σ) := rfl
theorem x_nil (cf : CF) (σ : St) : exSs cf [] σ = some (.next, σ) := by simp [exSs]
theorem x_cons (cf : CF) (s : MS) (r : List MS) (σ : St) : exSs cf (s :: r) σ = thenS (exS cf s σ) (exSs cf r) := by
  simp only [exSs, thenS]
  all_goals (split <;> rename_i q <;> simp_all)
theorem x_app (cf : CF) (a b : List MS) (σ : St) : exSs cf (a ++ b) σ = thenS (exSs cf a σ) (exSs cf b) := by
  induction a generalizing σ with
  | nil => simp [x_nil, thenS]
  | cons s a ih =>
    rw [List.cons_append, x_cons, x_cons]
    generalize exS cf s σ = z
    unfold thenS
    cases z with
    | none => rfl
    | some p =>
      obtain ⟨fl, σ'⟩ := p
      cases fl <;> simp [ih, thenS]
theorem x_assign (cf : CF) (x : String) (e : ME) (r : List MS) (σ : St) : exSs cf (.assign x e :: r) σ = (match evF cf (vis σ) e with
    | some (d, fr) => exSs cf r (setv (settle d e.names σ) x (fr, d))
    | none => none) := by
  rw [x_cons]
  simp only [exS]
  split <;> simp_all [thenS]
theorem x_append (cf : CF) (x : String) (e : ME) (r : List MS) (σ : St) : exSs cf (.append x e :: r) σ = (match evE cf (vis σ) e with
    | some d => (match (settle d e.names σ).lookup x with
      | some (true, .list ds) => if ds.length < big then exSs cf r (setv (settle d e.names σ) x (true, .list (ds ++ [d]))) else none
      | _ => none)
    | none => none) := by
  rw [x_cons]
  simp only [exS]
  split
  · rename_i q
    try simp only [q]
    split
    · rename_i q2
      try simp only [q2]
      split <;> rename_i q3
      · simp [thenS]
      · first | rfl | simp [thenS] | simp [thenS, q3]
    · rename_i q2
      first
      | rfl
      | (split
         · rename_i q3; exact absurd q3 (q2 _)
         · rfl)
  · rename_i q
    first | rfl | simp only [q, thenS]
theorem x_setk (cf : CF) (x : String) (k e : ME) (r : List MS) (σ : St) : exSs cf (.setk x k e :: r) σ = (match evE cf (vis σ) e with
    | some d => (match evE cf (vis σ) k with
      | some dk => (match (settle dk k.names (settle d e.names σ)).lookup x with
        | some (true, .dict ks vs) => if (keyOk dk ks && decide (ks.length < big)) = true then exSs cf r (setv (settle dk k.names (settle d e.names σ)) x (true, .dict (dput ks vs dk d).1 (dput ks vs dk d).2)) else none
        | _ => none)
      | none => none)
    | none => none) := by
  rw [x_cons]
  simp only [exS]
  split
  · rename_i q
    try simp only [q]
    split
    · rename_i q1
      try simp only [q1]
      split
      · rename_i q2
        try simp only [q2]
        split <;> rename_i q3
        · simp [thenS]
        · first | rfl | simp [thenS]
      · rename_i q2
        first
        | rfl
        | (split
           · rename_i q3; exact absurd q3 (q2 _ _)
           · rfl)
    · rename_i q1
      first | rfl | simp only [q1, thenS]
  · rename_i q
    first | rfl | simp only [q, thenS]
theorem x_ite (cf : CF) (c : ME) (t f : List MS) (r : List MS) (σ : St) : exSs cf (.ite c t f :: r) σ = (match evE cf (vis σ) c with
    | some d => (match truth d with
      | some true => exSs cf (t ++ r) σ
      | some false => exSs cf (f ++ r) σ
      | none => none)
    | none => none) := by
  rw [x_cons]
  simp only [exS]
  split
  · split <;> simp_all [thenS, x_app]
  · simp_all [thenS]
noncomputable def bodyF (cf : CF) (body : List MS) (x : String) : D → St → Option (Fl × St) := fun it σ => exSs cf body (setv σ x (false, it))
noncomputable def loopS (r : Option (Fl × St)) (k : St → Option (Fl × St)) : Option (Fl × St) := match r with
  | some (.next, σ) => k σ
  | x => x
theorem loopS_next (σ : St) (k) : loopS (some (.next, σ)) k = k σ := rfl
theorem loopS_ret (fr d) (σ : St) (k) : loopS (some (.ret fr d, σ)) k = some (.ret fr d, σ) := rfl
theorem forB_nil (cf : CF) (body : List MS) (x : String) (σ : St) : forD (bodyF cf body x) [] σ = some (.next, σ) := rfl
theorem forB_cons (cf : CF) (body : List MS) (x : String) (it : D) (r : List D) (σ : St) : forD (bodyF cf body x) (it :: r) σ = loopS (exSs cf body (setv σ x (false, it))) (forD (bodyF cf body x) r) := by
  show (match exSs cf body (setv σ x (false, it)) with
    | some (.next, σ') => forD (bodyF cf body x) r σ'
    | x => x) = _
  generalize exSs cf body (setv σ x (false, it)) = z
  unfold loopS
  split <;> rfl
theorem x_for (cf : CF) (x : String) (src : ME) (body : List MS) (r : List MS) (σ : St) : exSs cf (.for_ x src body :: r) σ = (match evE cf (vis σ) src with
    | some d => (match d.items with
      | some its => thenS (forD (bodyF cf body x) its (freeze src.names σ)) (exSs cf r)
      | none => none)
    | none => none) := by
  rw [x_cons]
  simp only [exS]
  split
  · split
    · rename_i q1 _ _ q2
      try simp only [q1, q2]
      rfl
    · rename_i q1 _ q2
      try simp only [q1, q2]
      rfl
  · first | rfl | simp_all [thenS]
theorem x_ret (cf : CF) (e : ME) (r : List MS) (σ : St) : exSs cf (.ret e :: r) σ = (match (match e with
    | .var x => (match σ.lookup x with | some (fr, d) => some (d, fr) | none => none)
    | e => evF cf (vis σ) e) with
    | some (d, fr) => some (.ret fr d, σ)
    | none => none) := by
  rw [x_cons]
  cases e <;> simp only [exS]
  all_goals (split <;> rename_i q <;> first | rfl | simp only [q, thenS])
/-- a loop that keeps a state of one kind -/
theorem forD_inv (f : D → St → Option (Fl × St)) (I : List D → List D → St → Prop) : ∀ (its pre : List D) (σ : St), I pre its σ →
    (∀ pre it r σ, I pre (it :: r) σ → ∃ σ', f it σ = some (.next, σ') ∧ I (pre ++ [it]) r σ') →
    ∃ σ', forD f its σ = some (.next, σ') ∧ I (pre ++ its) [] σ'
  | [], pre, σ, h, _ => ⟨σ, rfl, by simpa using h⟩
  | it :: r, pre, σ, h, hs => by
    obtain ⟨σ', q, h'⟩ := hs pre it r σ h
    obtain ⟨σ'', q', h''⟩ := forD_inv f I r (pre ++ [it]) σ' h' hs
    refine ⟨σ'', ?_, by simpa using h''⟩
    simp [forD, q, q']
end Mine

namespace Mine
open PySem
section
variable (cf : CF) (ρ : List (String × D))
theorem e_var (x : String) : evE cf ρ (.var x) = ρ.lookup x := rfl
theorem e_glob (x : String) : evE cf ρ (.glob x) = cf.glob x := rfl
theorem e_int (i : Int) : evE cf ρ (.int i) = some (.int i) := rfl
theorem e_str (i : String) : evE cf ρ (.str i) = some (.str (Str.ofString i)) := rfl
theorem e_bool (i : Bool) : evE cf ρ (.bool i) = some (.bool i) := rfl
theorem e_none : evE cf ρ .none = some .none := rfl
theorem evF_var (x : String) : evF cf ρ (.var x) = (evE cf ρ (.var x)).map fun d => (d, false) := rfl
theorem evF_glob (x : String) : evF cf ρ (.glob x) = (evE cf ρ (.glob x)).map fun d => (d, false) := rfl
theorem evF_int (x : Int) : evF cf ρ (.int x) = (evE cf ρ (.int x)).map fun d => (d, false) := rfl
theorem evF_str (x : String) : evF cf ρ (.str x) = (evE cf ρ (.str x)).map fun d => (d, false) := rfl
theorem evF_bool (x : Bool) : evF cf ρ (.bool x) = (evE cf ρ (.bool x)).map fun d => (d, false) := rfl
theorem evF_none : evF cf ρ .none = (evE cf ρ .none).map fun d => (d, false) := rfl
theorem evF_cmp (op : CmpOp) (a b : ME) : evF cf ρ (.cmp op a b) = (evE cf ρ (.cmp op a b)).map fun d => (d, false) := rfl
theorem evF_bop (op : BoolOp) (a : List ME) : evF cf ρ (.bop op a) = (evE cf ρ (.bop op a)).map fun d => (d, false) := rfl
theorem evF_not (a : ME) : evF cf ρ (.not a) = (evE cf ρ (.not a)).map fun d => (d, false) := rfl
theorem evF_neg (a : ME) : evF cf ρ (.neg a) = (evE cf ρ (.neg a)).map fun d => (d, false) := rfl
theorem evF_tup (a : List ME) : evF cf ρ (.tup a) = (evE cf ρ (.tup a)).map fun d => (d, false) := rfl
theorem evF_sub (a b : ME) : evF cf ρ (.sub a b) = (evE cf ρ (.sub a b)).map fun d => (d, false) := rfl
theorem evF_isi (a : ME) (b : String) : evF cf ρ (.isi a b) = (evE cf ρ (.isi a b)).map fun d => (d, false) := rfl
theorem evF_blt (f : String) (a : List ME) : evF cf ρ (.blt f a) = (evE cf ρ (.blt f a)).map fun d => (d, false) := rfl
noncomputable def o2 (f : D → D → Option D) (a b : Option D) : Option D := match a with
  | some x => (match b with | some y => f x y | none => none)
  | none => none
theorem o2_some (f : D → D → Option D) (a b : D) : o2 f (some a) (some b) = f a b := rfl
theorem e_bin (op : Operator) (a b : ME) : evE cf ρ (.bin op a b) = o2 (binD op) (evE cf ρ a) (evE cf ρ b) := rfl
theorem e_cmp (op : CmpOp) (a b : ME) : evE cf ρ (.cmp op a b) = o2 (cmpD op) (evE cf ρ a) (evE cf ρ b) := rfl
theorem e_sub (a b : ME) : evE cf ρ (.sub a b) = o2 subD (evE cf ρ a) (evE cf ρ b) := rfl
theorem e_bop (op : BoolOp) (es : List ME) : evE cf ρ (.bop op es) = evBop cf ρ op es := rfl
noncomputable def o1 (f : D → Option D) (a : Option D) : Option D := match a with
  | some x => f x
  | none => none
theorem o1_some (f : D → Option D) (a : D) : o1 f (some a) = f a := rfl
theorem e_not (a : ME) : evE cf ρ (.not a) = o1 (fun x => (truth x).map fun t => .bool (!t)) (evE cf ρ a) := rfl
noncomputable def negD : D → Option D
  | .int i => some (.int (-i))
  | _ => none
theorem e_neg (a : ME) : evE cf ρ (.neg a) = o1 negD (evE cf ρ a) := by
  rw [evE]
  generalize evE cf ρ a = z
  cases z with
  | none => rfl
  | some d => cases d <;> rfl
noncomputable def oL (f : List D → Option D) (a : Option (List D)) : Option D := match a with
  | some x => f x
  | none => none
theorem oL_some (f : List D → Option D) (a : List D) : oL f (some a) = f a := rfl
theorem e_tup (es : List ME) : evE cf ρ (.tup es) = oL (fun ds => if ds.length ≤ big then some (.tup ds) else none) (evEs cf ρ es) := rfl
theorem e_lst (es : List ME) : evE cf ρ (.lst es) = oL (fun ds => if ds.length ≤ big then some (.list ds) else none) (evEs cf ρ es) := rfl
theorem e_dct (ks vs : List ME) : evE cf ρ (.dct ks vs) = (match evEs cf ρ ks with
    | some ds => (match evEs cf ρ vs with
      | some es => if (ds.all D.isCell && ds.length == es.length && decide (ds.length ≤ 15)) = true then some (.dict (dputs ds es).1 (dputs ds es).2) else none
      | none => none)
    | none => none) := rfl
theorem e_blt (f : String) (es : List ME) : evE cf ρ (.blt f es) = oL (bltD f) (evEs cf ρ es) := rfl
theorem e_call (f : String) (es : List ME) : evE cf ρ (.call f es) = oL (fun ds => (cf.call f ds).map (·.1)) (evEs cf ρ es) := rfl
theorem e_lcp (a : ME) : evE cf ρ (.lcp a) = o1 (fun x => (lstD x).map .list) (evE cf ρ a) := rfl
theorem e_isi (a : ME) (T : String) : evE cf ρ (.isi a T) = o1 (fun x => (isiD x T).map .bool) (evE cf ρ a) := rfl
theorem e_sl (a l h : ME) : evE cf ρ (.sl a l h) = o1 (fun x => o2 (slD x) (evE cf ρ l) (evE cf ρ h)) (evE cf ρ a) := rfl
noncomputable def compF (elt : ME) (x : String) (cs : List ME) : D → Option (Option D) := fun it => match evCs cf ((x, it) :: ρ) cs with
  | some true => (match evE cf ((x, it) :: ρ) elt with | some y => some (some y) | none => none)
  | some false => some none
  | none => none
theorem e_comp (elt : ME) (x : String) (src : ME) (cs : List ME) : evE cf ρ (.comp elt x src cs) = o1 (fun d => (match d.items with
      | some its => if its.length ≤ big then (compM (compF cf ρ elt x cs) its).map .list else none
      | none => none)) (evE cf ρ src) := rfl
theorem es_nil : evEs cf ρ [] = some [] := rfl
noncomputable def oC (a : Option D) (b : Option (List D)) : Option (List D) := match a with
  | some d => (match b with | some ds => some (d :: ds) | none => none)
  | none => none
theorem oC_some (a : D) (b : List D) : oC (some a) (some b) = some (a :: b) := rfl
theorem es_cons (e : ME) (r : List ME) : evEs cf ρ (e :: r) = oC (evE cf ρ e) (evEs cf ρ r) := rfl
theorem b_one (op : BoolOp) (e : ME) : evBop cf ρ op [e] = evE cf ρ e := rfl
noncomputable def oB (s : Bool) (r : Option D) (a : Option D) : Option D := match a with
  | some d => (match truth d with
    | some t => if t = s then some d else r
    | none => none)
  | none => none
theorem oB_bool (s : Bool) (r : Option D) (t : Bool) : oB s r (some (.bool t)) = if t = s then some (.bool s) else r := by
  unfold oB truth
  by_cases h : t = s
  · subst h; rfl
  · simp [h]
theorem b_and (e e2 : ME) (r : List ME) : evBop cf ρ .And (e :: e2 :: r) = oB false (evBop cf ρ .And (e2 :: r)) (evE cf ρ e) := rfl
theorem b_or (e e2 : ME) (r : List ME) : evBop cf ρ .Or (e :: e2 :: r) = oB true (evBop cf ρ .Or (e2 :: r)) (evE cf ρ e) := rfl
theorem c_nil : evCs cf ρ [] = some true := rfl
noncomputable def oI (k k' : Option (Fl × St)) (a : Option D) : Option (Fl × St) := match a with
  | some d => (match truth d with
    | some t => if t = true then k else k'
    | none => none)
  | none => none
theorem oI_bool (k k' : Option (Fl × St)) (t : Bool) : oI k k' (some (.bool t)) = if t = true then k else k' := rfl
theorem x_if (c : ME) (t f r : List MS) (σ : St) : exSs cf (.ite c t f :: r) σ = oI (exSs cf (t ++ r) σ) (exSs cf (f ++ r) σ) (evE cf (vis σ) c) := by
  rw [x_ite]
  unfold oI
  cases evE cf (vis σ) c with
  | none => rfl
  | some d =>
    show (match truth d with | some true => _ | some false => _ | none => _) = _
    cases h : truth d with
    | none => simp [h]
    | some b => cases b <;> simp [h]
end
theorem compM_ok (f : D → Option (Option D)) (Q : D → D → Prop) : ∀ (its : List D), (∀ it ∈ its, ∃ d, Q it d ∧ f it = some (some d)) → ∃ ds, compM f its = some ds ∧ ds.length = its.length ∧ ∀ d ∈ ds, ∃ it ∈ its, Q it d
  | [], _ => ⟨[], rfl, rfl, fun _ h => nomatch h⟩
  | it :: r, h => by
    obtain ⟨d, q, e⟩ := h it (by simp)
    obtain ⟨ds, e2, hl, hq⟩ := compM_ok f Q r fun i hi => h i (by simp [hi])
    refine ⟨d :: ds, by simp [compM, e, e2], by simp [hl], ?_⟩
    intro d' hd
    rcases List.mem_cons.mp hd with rfl | hd
    · exact ⟨it, by simp, q⟩
    · obtain ⟨i, hi, q'⟩ := hq d' hd
      exact ⟨i, by simp [hi], q'⟩
theorem compM_map (f : D → Option (Option D)) (g : D → D) : ∀ (its : List D), (∀ it ∈ its, f it = some (some (g it))) → compM f its = some (its.map g)
  | [], _ => rfl
  | it :: r, h => by simp [compM, h it (by simp), compM_map f g r fun i hi => h i (by simp [hi])]
theorem compF_nil {cf : CF} {ρ : List (String × D)} {elt : ME} {x : String} {it d : D} (h : evE cf ((x, it) :: ρ) elt = some d) : compF cf ρ elt x [] it = some (some d) := by
  unfold compF; simp [c_nil, h]
theorem items_rng (n : Nat) : D.items (.rng 0 n) = some ((List.range n).map fun (i : Nat) => D.int (i : Int)) := by
  simp [D.items]
end Mine

namespace Mine
open PySem
/-! rules of the evaluator -/
noncomputable def Run (cf : CF) (ss : List MS) (σ : St) (d : D) (fr : Bool) : Prop := fin (exSs cf ss σ) = some (d, fr)
noncomputable def Nxt (cf : CF) (ss : List MS) (σ σ' : St) : Prop := exSs cf ss σ = some (.next, σ')
noncomputable def ME.isVar : ME → Bool
  | .var _ => true
  | _ => false
/-- one step of a run -/
structure Stp (cf : CF) (s : MS) (σ σ' : St) : Prop where
  go : ∀ r, exSs cf (s :: r) σ = exSs cf r σ'
section
variable {cf : CF} {ρ : List (String × D)} {σ σ' : St} {a b c e : ME} {d x y : D} {i j : Int} {fr : Bool} {r t f body : List MS} {z : String}
theorem v_map (h : evE cf ρ e = some d) (hc : isCallE e = none) (hf : frF e d = fr) : evF cf ρ e = some (d, fr) := by
  unfold evF; rw [hc, h]; show some (d, frF e d) = _; rw [hf]
theorem v_call {g : String} {as : List ME} {ds : List D} (h : evEs cf ρ as = some ds) (hc : cf.call g ds = some (d, fr)) : evF cf ρ (.call g as) = some (d, fr) := by
  rw [evF_call, h]; exact hc
theorem v_callE {g : String} {as : List ME} {ds : List D} (h : evEs cf ρ as = some ds) (hc : cf.call g ds = some (d, fr)) : evE cf ρ (.call g as) = some d := by
  rw [e_call, h]; show (cf.call g ds).map _ = _; rw [hc]; rfl
theorem v_cons {es : List ME} {ds : List D} (h : evE cf ρ e = some d) (hs : evEs cf ρ es = some ds) : evEs cf ρ (e :: es) = some (d :: ds) := by
  rw [es_cons, h, hs]; rfl
theorem v_bin {op : Operator} (ha : evE cf ρ a = some x) (hb : evE cf ρ b = some y) (h : binD op x y = some d) : evE cf ρ (.bin op a b) = some d := by
  rw [e_bin, ha, hb]; exact h
theorem b_mul (h : -lim < j ∧ j < lim) : binD .Mult (.int i) (.int j) = some (.int (i * j)) := if_pos (.inr h)
theorem b_mulL (h : -lim < i ∧ i < lim) : binD .Mult (.int i) (.int j) = some (.int (i * j)) := if_pos (.inl h)
theorem b_div (h : 0 < j ∧ j < lim) : binD .FloorDiv (.int i) (.int j) = some (.int (i / j)) := if_pos h
theorem b_mod (h : 0 < j) : binD .Mod (.int i) (.int j) = some (.int (i % j)) := if_pos h
theorem b_pow (h : -powLim < i ∧ i < powLim ∧ 0 ≤ j ∧ j ≤ 100) : binD .Pow (.int i) (.int j) = some (.int (i ^ j.toNat)) := if_pos h
theorem b_add : binD .Add (.int i) (.int j) = some (.int (i + j)) := rfl
theorem b_sb : binD .Sub (.int i) (.int j) = some (.int (i - j)) := rfl
theorem v_cmp {op : CmpOp} (ha : evE cf ρ a = some x) (hb : evE cf ρ b = some y) (h : cmpD op x y = some d) : evE cf ρ (.cmp op a b) = some d := by
  rw [e_cmp, ha, hb]; exact h
theorem v_sub (ha : evE cf ρ a = some x) (hb : evE cf ρ b = some y) (h : subD x y = some d) : evE cf ρ (.sub a b) = some d := by
  rw [e_sub, ha, hb]; exact h
theorem v_sl {l h : ME} {u v : D} (ha : evE cf ρ a = some x) (hl : evE cf ρ l = some u) (hh : evE cf ρ h = some v) (hd : slD x u v = some d) : evE cf ρ (.sl a l h) = some d := by
  rw [e_sl, ha, hl, hh]; exact hd
theorem v_not {k : Bool} (ha : evE cf ρ a = some x) (h : truth x = some k) : evE cf ρ (.not a) = some (.bool (!k)) := by
  rw [e_not, ha]; show (truth x).map _ = _; rw [h]; rfl
theorem v_isi {T : String} {k : Bool} (ha : evE cf ρ a = some x) (h : isiD x T = some k) : evE cf ρ (.isi a T) = some (.bool k) := by
  rw [e_isi, ha]; show (isiD x T).map _ = _; rw [h]; rfl
theorem v_blt {g : String} {as : List ME} {ds : List D} (ha : evEs cf ρ as = some ds) (h : bltD g ds = some d) : evE cf ρ (.blt g as) = some d := by
  rw [e_blt, ha]; exact h
theorem v_tup {as : List ME} {ds : List D} (ha : evEs cf ρ as = some ds) (h : ds.length ≤ big) : evE cf ρ (.tup as) = some (.tup ds) := by
  rw [e_tup, ha]; exact if_pos h
theorem v_lst {as : List ME} {ds : List D} (ha : evEs cf ρ as = some ds) (h : ds.length ≤ big) : evE cf ρ (.lst as) = some (.list ds) := by
  rw [e_lst, ha]; exact if_pos h
theorem v_lcp {ds : List D} (ha : evE cf ρ a = some x) (h : lstD x = some ds) : evE cf ρ (.lcp a) = some (.list ds) := by
  rw [e_lcp, ha]; show (lstD x).map _ = _; rw [h]; rfl
theorem v_comp {elt src : ME} {cs : List ME} {its ds : List D} (ha : evE cf ρ src = some x) (hi : x.items = some its) (hl : its.length ≤ big) (h : compM (compF cf ρ elt z cs) its = some ds) : evE cf ρ (.comp elt z src cs) = some (.list ds) := by
  rw [e_comp, ha]; show (match x.items with | some its => _ | none => _) = _; rw [hi]; show (if its.length ≤ big then _ else _) = _; rw [if_pos hl, h]; rfl

theorem v_and {k l : Bool} {r' : List ME} (ha : evE cf ρ a = some (.bool k)) (hb : k = true → evE cf ρ (.bop .And (b :: r')) = some (.bool l)) : evE cf ρ (.bop .And (a :: b :: r')) = some (.bool (k && l)) := by
  rw [e_bop, b_and, ha, oB_bool]
  cases k with
  | false => rfl
  | true => exact hb rfl
theorem v_or {k l : Bool} {r' : List ME} (ha : evE cf ρ a = some (.bool k)) (hb : k = false → evE cf ρ (.bop .Or (b :: r')) = some (.bool l)) : evE cf ρ (.bop .Or (a :: b :: r')) = some (.bool (k || l)) := by
  rw [e_bop, b_or, ha, oB_bool]
  cases k with
  | true => rfl
  | false => exact hb rfl
theorem v_bop1 {op : BoolOp} (ha : evE cf ρ a = some d) : evE cf ρ (.bop op [a]) = some d := ha
/-! statements -/
theorem p_assign (h : evF cf (vis σ) e = some (d, fr)) : Stp cf (.assign z e) σ (setv (settle d e.names σ) z (fr, d)) := ⟨fun r => by rw [x_assign, h]⟩
theorem p_append {ds : List D} (h : evE cf (vis σ) e = some d) (hl : (settle d e.names σ).lookup z = some (true, .list ds)) (hb : ds.length < big) : Stp cf (.append z e) σ (setv (settle d e.names σ) z (true, .list (ds ++ [d]))) := ⟨fun r => by rw [x_append, h]; simp only [hl, if_pos hb]⟩
theorem p_setk {k : ME} {dk : D} {ks vs : List D} (h : evE cf (vis σ) e = some d) (hk : evE cf (vis σ) k = some dk) (hl : (settle dk k.names (settle d e.names σ)).lookup z = some (true, .dict ks vs)) (hb : (keyOk dk ks && decide (ks.length < big)) = true) :
    Stp cf (.setk z k e) σ (setv (settle dk k.names (settle d e.names σ)) z (true, .dict (dput ks vs dk d).1 (dput ks vs dk d).2)) := ⟨fun r => by rw [x_setk, h, hk]; simp only [hl, hb, if_true]⟩
theorem r_step {s : MS} (h : Stp cf s σ σ') (k : Run cf r σ' d fr) : Run cf (s :: r) σ d fr := by unfold Run; rw [h.go]; exact k
theorem n_step {s : MS} {σ'' : St} (h : Stp cf s σ σ') (k : Nxt cf r σ' σ'') : Nxt cf (s :: r) σ σ'' := by unfold Nxt; rw [h.go]; exact k
theorem n_nil : Nxt cf [] σ σ := x_nil cf σ
theorem x_ifb {k : Bool} (h : evE cf (vis σ) c = some x) (hx : truth x = some k) : exSs cf (.ite c t f :: r) σ = if k = true then exSs cf (t ++ r) σ else exSs cf (f ++ r) σ := by
  rw [x_if, h]; show (match truth x with | some t => _ | none => _) = _; rw [hx]
theorem r_if {k : Bool} (h : evE cf (vis σ) c = some x) (hx : truth x = some k) (ht : k = true → Run cf (t ++ r) σ d fr) (hf : k = false → Run cf (f ++ r) σ d fr) : Run cf (.ite c t f :: r) σ d fr := by
  unfold Run; rw [x_ifb h hx]
  cases k with
  | true => exact ht rfl
  | false => exact hf rfl
theorem n_if {k : Bool} {σ' : St} (h : evE cf (vis σ) c = some x) (hx : truth x = some k) (ht : k = true → Nxt cf (t ++ r) σ σ') (hf : k = false → Nxt cf (f ++ r) σ σ') : Nxt cf (.ite c t f :: r) σ σ' := by
  unfold Nxt; rw [x_ifb h hx]
  cases k with
  | true => exact ht rfl
  | false => exact hf rfl
theorem r_ret (h : evF cf (vis σ) e = some (d, fr)) (hv : e.isVar = false) : Run cf (.ret e :: r) σ d fr := by
  unfold Run; rw [x_ret]
  cases e <;> first | (cases hv; done) | (simp only [h]; rfl)
theorem r_retv (h : σ.lookup z = some (fr, d)) : Run cf (.ret (.var z) :: r) σ d fr := by
  unfold Run; rw [x_ret]; simp only [h]; rfl
theorem r_for {src : ME} {its : List D} (hs : evE cf (vis σ) src = some x) (hi : x.items = some its) (h : forD (bodyF cf body z) its (freeze src.names σ) = some (.next, σ')) (k : Run cf r σ' d fr) : Run cf (.for_ z src body :: r) σ d fr := by
  unfold Run; rw [x_for, hs]; simp only [hi, h, thenS_next]; exact k
theorem r_forR {src : ME} {its : List D} (hs : evE cf (vis σ) src = some x) (hi : x.items = some its) (h : forD (bodyF cf body z) its (freeze src.names σ) = some (.ret fr d, σ')) : Run cf (.for_ z src body :: r) σ d fr := by
  unfold Run; rw [x_for, hs]; simp only [hi, h, thenS_ret]; rfl
theorem run_call {P : List (String × Fn)} {X : CF} {g : String} {ps : List String} {bd : List MS} {n : Nat} {args : List D} (h : P.lookup g = some ⟨ps, bd⟩) (hl : args.length = ps.length) (k : Run (callN P X n) bd ((ps.zip args).map fun p => (p.1, (false, p.2))) d fr) :
    (callN P X (n + 1)).call g args = some (d, fr) := by rw [call_eq n args h hl]; exact k
theorem no_tf {k : Bool} {α : Prop} (h : k = true) (h' : k = false) : α := by rw [h] at h'; cases h'
theorem bin_ss {u v : Str} (h : u.length + v.length ≤ big) : binD .Add (.str u) (.str v) = some (.str (u ++ v)) := if_pos h
theorem bin_tt {u v : List D} (h : u.length + v.length ≤ big) : binD .Add (.tup u) (.tup v) = some (.tup (u ++ v)) := if_pos h
theorem bin_ll {u v : List D} (h : u.length + v.length ≤ big) : binD .Add (.list u) (.list v) = some (.list (u ++ v)) := if_pos h
theorem bin_sm {u : Str} {k : Int} (h : 0 ≤ k ∧ k ≤ 1000 ∧ u.length ≤ 1000) : binD .Mult (.str u) (.int k) = some (.str (Txt.mul u k)) := if_pos h
theorem sub_s {u : Str} {k : Int} (h : 0 ≤ k ∧ k < u.length ∧ u.length ≤ big) : subD (.str u) (.int k) = some (.str (charAt u k.toNat)) := if_pos h
theorem sub_l {u : List D} {k : Nat} (h : k < u.length) (he : u[k]? = some d) : subD (.list u) (.int k) = some d := by
  show (idx k u.length).bind _ = _
  have : idx (k : Int) u.length = some k := by unfold idx; have : (k : Int) < u.length := by omega
                                               simp [this]
  rw [this]; exact he
theorem sub_t {u : List D} {k : Nat} (h : k < u.length) (he : u[k]? = some d) : subD (.tup u) (.int k) = some d := sub_l h he
theorem blt_rng {k : Nat} (h : k ≤ big) : bltD "range" [.int k] = some (.rng 0 k) := by
  show (if _ then _ else _) = _
  exact if_pos (by omega)
theorem len_s {u : Str} (h : u.length ≤ big) : bltD "len" [.str u] = some (.int u.length) := if_pos h
/-! runs that end in one of many answers -/
noncomputable def Rex (cf : CF) (ss : List MS) (σ : St) (Q : D → Bool → Prop) : Prop := ∃ d fr, Q d fr ∧ Run cf ss σ d fr
variable {Q : D → Bool → Prop}
theorem q_step {s : MS} (h : Stp cf s σ σ') (k : Rex cf r σ' Q) : Rex cf (s :: r) σ Q := let ⟨d, fr, q, k⟩ := k; ⟨d, fr, q, r_step h k⟩
theorem q_if {k : Bool} (h : evE cf (vis σ) c = some x) (hx : truth x = some k) (ht : k = true → Rex cf (t ++ r) σ Q) (hf : k = false → Rex cf (f ++ r) σ Q) : Rex cf (.ite c t f :: r) σ Q := by
  cases k with
  | true => obtain ⟨d, fr, q, k⟩ := ht rfl; exact ⟨d, fr, q, r_if h hx (fun _ => k) nofun⟩
  | false => obtain ⟨d, fr, q, k⟩ := hf rfl; exact ⟨d, fr, q, r_if h hx nofun fun _ => k⟩
theorem q_ret (h : evF cf (vis σ) e = some (d, fr)) (hv : e.isVar = false) (q : Q d fr) : Rex cf (.ret e :: r) σ Q := ⟨d, fr, q, r_ret h hv⟩
theorem q_retv (h : σ.lookup z = some (fr, d)) (q : Q d fr) : Rex cf (.ret (.var z) :: r) σ Q := ⟨d, fr, q, r_retv h⟩
theorem q_norm (h : σ = σ') (k : Rex cf r σ' Q) : Rex cf r σ Q := h ▸ k
theorem q_for {src : ME} {its : List D} (hs : evE cf (vis σ) src = some x) (hi : x.items = some its) (h : forD (bodyF cf body z) its (freeze src.names σ) = some (.next, σ')) (k : Rex cf r σ' Q) : Rex cf (.for_ z src body :: r) σ Q :=
  let ⟨d, fr, q, k⟩ := k; ⟨d, fr, q, r_for hs hi h k⟩
theorem q_forR {src : ME} {its : List D} (hs : evE cf (vis σ) src = some x) (hi : x.items = some its) (h : forD (bodyF cf body z) its (freeze src.names σ) = some (.ret fr d, σ')) (q : Q d fr) : Rex cf (.for_ z src body :: r) σ Q := ⟨d, fr, q, r_forR hs hi h⟩
theorem rex_call {P : List (String × Fn)} {X : CF} {g : String} {ps : List String} {bd : List MS} {n : Nat} {args : List D} (h : P.lookup g = some ⟨ps, bd⟩) (hl : args.length = ps.length) (k : Rex (callN P X n) bd ((ps.zip args).map fun p => (p.1, (false, p.2))) Q) :
    ∃ d fr, Q d fr ∧ (callN P X (n + 1)).call g args = some (d, fr) := let ⟨d, fr, q, k⟩ := k; ⟨d, fr, q, run_call h hl k⟩
theorem rex_eq {P : List (String × Fn)} {X : CF} {g : String} {ps : List String} {bd : List MS} {n : Nat} {args : List D} (h : P.lookup g = some ⟨ps, bd⟩) (hl : args.length = ps.length) (k : Rex (callN P X n) bd ((ps.zip args).map fun p => (p.1, (false, p.2))) fun d' fr' => d' = d ∧ fr' = fr) :
    (callN P X (n + 1)).call g args = some (d, fr) := by obtain ⟨_, _, ⟨rfl, rfl⟩, k⟩ := k; exact run_call h hl k
theorem v_rows {elt src : ME} {k : Nat} (hk : k ≤ 1000) (R : D → Prop) (hs : evE cf ρ src = some (.int k)) (h : ∀ i : Nat, i < k → ∃ d, R d ∧ evE cf ((z, .int i) :: ρ) elt = some d) :
    ∃ ds : List D, ds.length = k ∧ (∀ d ∈ ds, R d) ∧ evE cf ρ (.blt "tuple" [.comp elt z (.blt "range" [src]) []]) = some (.tup ds) := by
  obtain ⟨ds, e, hl, hq⟩ := compM_ok (compF cf ρ elt z []) (fun _ d => R d) ((List.range k).map fun (i : Nat) => D.int (i : Int)) (by
    intro it hit
    obtain ⟨i, hi, rfl⟩ := List.mem_map.mp hit
    obtain ⟨d, q, e⟩ := h i (List.mem_range.mp hi)
    exact ⟨d, q, compF_nil e⟩)
  have hb : k ≤ big := Nat.le_trans hk (by decide)
  have hl' : ((List.range k).map fun (i : Nat) => D.int (i : Int)).length = k := by simp
  refine ⟨ds, hl.trans hl', fun d hd => let ⟨_, _, q⟩ := hq d hd; q, ?_⟩
  exact v_blt (v_cons (v_comp (v_blt (v_cons hs (es_nil _ _)) (blt_rng hb)) (items_rng k) (Nat.le_trans (Nat.le_of_eq hl') hb) e) (es_nil _ _)) rfl
/-! a block's outcome -/
noncomputable def Out (cf : CF) (ss : List MS) (σ : St) (R : Fl → St → Prop) : Prop := ∃ fl σ', R fl σ' ∧ exSs cf ss σ = some (fl, σ')
variable {R : Fl → St → Prop}
theorem o_step {s : MS} (h : Stp cf s σ σ') (k : Out cf r σ' R) : Out cf (s :: r) σ R := let ⟨fl, s', q, k⟩ := k; ⟨fl, s', q, (h.go r).trans k⟩
theorem o_if {k : Bool} (h : evE cf (vis σ) c = some x) (hx : truth x = some k) (ht : k = true → Out cf (t ++ r) σ R) (hf : k = false → Out cf (f ++ r) σ R) : Out cf (.ite c t f :: r) σ R := by
  unfold Out; rw [x_ifb h hx]
  cases k with
  | true => exact ht rfl
  | false => exact hf rfl
theorem o_ret (h : evF cf (vis σ) e = some (d, fr)) (hv : e.isVar = false) (q : R (.ret fr d) σ) : Out cf (.ret e :: r) σ R := by
  refine ⟨_, _, q, ?_⟩
  rw [x_ret]
  cases e <;> first | (cases hv; done) | (simp only [h])
theorem o_nil (q : R .next σ) : Out cf [] σ R := ⟨_, _, q, x_nil cf σ⟩
theorem o_norm (h : σ = σ') (k : Out cf r σ' R) : Out cf r σ R := h ▸ k
theorem p_cell (h : evF cf (vis σ) e = some (d, fr)) (hc : d.isCell = true) : Stp cf (.assign z e) σ (setv σ z (fr, d)) := by
  have := p_assign (z := z) h
  unfold settle at this
  rwa [if_pos (by cases d <;> first | rfl | cases hc)] at this
/-- a loop that looks for one item -/
theorem loop_find (p : D → Bool) (I : St → Prop) (fr : Bool) (d : D) : ∀ (its : List D), (∀ it ∈ its, ∀ σ, I σ → Out cf body (setv σ z (false, it)) fun fl σ' => if p it = true then fl = .ret fr d else fl = .next ∧ I σ') →
    ∀ σ, I σ → ∃ σ', (its.any p = true → forD (bodyF cf body z) its σ = some (.ret fr d, σ')) ∧ (its.any p = false → I σ' ∧ forD (bodyF cf body z) its σ = some (.next, σ'))
  | [], _, σ, hσ => ⟨σ, nofun, fun _ => ⟨hσ, rfl⟩⟩
  | it :: r, h, σ, hσ => by
    obtain ⟨fl, σ₁, q, e⟩ := h it (.head _) σ hσ
    rw [List.any_cons, forB_cons, e]
    cases hp : p it with
    | true =>
      rw [if_pos hp] at q
      subst q
      exact ⟨σ₁, fun _ => rfl, nofun⟩
    | false =>
      rw [if_neg (by rw [hp]; exact Bool.false_ne_true)] at q
      obtain ⟨rfl, i1⟩ := q
      exact loop_find p I fr d r (fun i hi => h i (.tail _ hi)) σ₁ i1
theorem loop_inv (I : List D → St → Prop) : ∀ (its pre : List D) (σ : St), I pre σ → (∀ a it b σ, pre ++ its = a ++ it :: b → I a σ → Out cf body (setv σ z (false, it)) fun fl σ' => fl = .next ∧ I (a ++ [it]) σ') →
    ∃ σ', I (pre ++ its) σ' ∧ forD (bodyF cf body z) its σ = some (.next, σ')
  | [], pre, σ, h, _ => ⟨σ, by simpa using h, rfl⟩
  | it :: r, pre, σ, h, hs => by
    obtain ⟨fl, σ₁, ⟨rfl, i1⟩, e⟩ := hs pre it r σ rfl h
    obtain ⟨σ₂, i2, e2⟩ := loop_inv I r (pre ++ [it]) σ₁ i1 fun a i b s h => hs a i b s (by simpa using h)
    exact ⟨σ₂, by simpa using i2, by rw [forB_cons, e]; exact e2⟩
end
end Mine

namespace Mine
open PySem
set_option maxRecDepth 100000
set_option maxHeartbeats 4000000
noncomputable def X0 : CF := ⟨fun _ _ => none, fun _ => none⟩
noncomputable def fn_before : Fn := ⟨["one", "other"], [
    .ite (.cmp .NotEq (.isi (.var "one") "str") (.isi (.var "other") "str")) [.ret (.isi (.var "other") "str")] [],
    .ret (.cmp .Lt (.var "one") (.var "other"))]⟩
noncomputable def fn_alike : Fn := ⟨["one", "other"], [
    .ret (.bop .And [.cmp .Eq (.isi (.var "one") "str") (.isi (.var "other") "str"), .cmp .Eq (.var "one") (.var "other")])]⟩
noncomputable def fn_law_before : Fn := ⟨["_law_one", "_law_other"], [
    .ite (.bop .And [.isi (.var "_law_one") "str", .isi (.var "_law_other") "str"]) [.ret (.cmp .Lt (.var "_law_one") (.var "_law_other"))] [],
    .ite (.bop .Or [.isi (.var "_law_one") "str", .isi (.var "_law_other") "str"]) [.ret (.isi (.var "_law_other") "str")] [],
    .ret (.cmp .Lt (.var "_law_one") (.var "_law_other"))]⟩
noncomputable def fn_law_alike : Fn := ⟨["_law_one", "_law_other"], [
    .ite (.bop .Or [.isi (.var "_law_one") "str", .isi (.var "_law_other") "str"]) [.ret (.bop .And [.isi (.var "_law_one") "str", .isi (.var "_law_other") "str", .cmp .Eq (.var "_law_one") (.var "_law_other")])] [],
    .ret (.cmp .Eq (.var "_law_one") (.var "_law_other"))]⟩
noncomputable def fn_law_sign_by : Fn := ⟨["_law_cell"], [
    .assign "_law_some" (.str " !\"#$&'()*+,-./0123456789:;<=>?@ABCDEFGHIJKLMNOPQRSTUVWXYZ[\\]^_`"),
    .assign "_law_some" (.bin .Add (.var "_law_some") (.str "abcdefghijklmnopqrstuvwxyz{|}~")),
    .ret (.sub (.var "_law_some") (.bin .Mod (.var "_law_cell") (.int 94)))]⟩
noncomputable def fn_law_cell_at : Fn := ⟨["_law_script", "_law_k"], [
    .ite (.cmp .Lt (.var "_law_k") (.blt "len" [.var "_law_script"])) [.ret (.sub (.var "_law_script") (.var "_law_k"))] [],
    .ret (.int 0)]⟩
noncomputable def fn_law_thing_by : Fn := ⟨["_law_cell"], [
    .assign "_law_way" (.bin .Mod (.var "_law_cell") (.int 9)),
    .assign "_law_rest" (.bin .FloorDiv (.var "_law_cell") (.int 9)),
    .ite (.cmp .Lt (.var "_law_way") (.int 4)) [.ret (.bin .Sub (.bin .Mod (.var "_law_rest") (.int 4)) (.int 1))] [],
    .ite (.cmp .Eq (.var "_law_way") (.int 4)) [.ret (.bin .Sub (.bin .Mod (.var "_law_rest") (.int 2000001)) (.int 1000000))] [],
    .ite (.cmp .Eq (.var "_law_way") (.int 5)) [.ret (.sub (.lst [.str "a", .str "b", .str "1", .str "0", .str "-1", .str "col", .str "is", .str "count"]) (.bin .Mod (.var "_law_rest") (.int 8)))] [],
    .ite (.cmp .Eq (.var "_law_way") (.int 6)) [.ret (.bin .Mult (.call "_law_sign_by" [.var "_law_rest"]) (.bin .Mod (.bin .FloorDiv (.var "_law_rest") (.int 94)) (.int 100)))] [],
    .ite (.cmp .Eq (.var "_law_way") (.int 7)) [.ret (.bin .Add (.bin .Sub (.bin .Mod (.bin .Pow (.bin .Add (.bin .Mod (.var "_law_rest") (.bin .Pow (.int 10) (.int 60))) (.int 3)) (.int 9)) (.bin .Sub (.bin .Mult (.int 2) (.bin .Pow (.int 10) (.int 60))) (.int 1))) (.bin .Pow (.int 10) (.int 60))) (.int 1))] [],
    .assign "_law_word" (.sl (.str "any word") .none (.bin .Mod (.var "_law_rest") (.int 9))),
    .assign "_law_at" (.bin .Mod (.bin .FloorDiv (.var "_law_rest") (.int 9)) (.bin .Add (.blt "len" [.var "_law_word"]) (.int 1))),
    .ret (.bin .Add (.bin .Add (.sl (.var "_law_word") .none (.var "_law_at")) (.call "_law_sign_by" [.bin .FloorDiv (.var "_law_rest") (.int 81)])) (.sl (.var "_law_word") (.var "_law_at") .none))]⟩
noncomputable def fn_law_mixed : Fn := ⟨["_law_cell", "_law_k"], [
    .ret (.bin .Mod (.bin .Pow (.bin .Mod (.bin .Add (.bin .Mult (.var "_law_cell") (.int 48271)) (.bin .Mult (.bin .Add (.var "_law_k") (.int 1)) (.int 1299721))) (.int 2147483647)) (.int 5)) (.int 2147483647))]⟩
noncomputable def fn_law_one_by : Fn := ⟨["_law_cell", "_law_many_here"], [
    .assign "_law_word" (.sub (.lst [.str "same", .str "unlike", .str "before", .str "upto", .str "behind", .str "from", .str "unlike", .str "upto", .str "from"]) (.bin .Mod (.var "_law_cell") (.int 9))),
    .assign "_law_place" (.bin .Mod (.bin .FloorDiv (.var "_law_cell") (.int 9)) (.var "_law_many_here")),
    .assign "_law_rest" (.bin .FloorDiv (.bin .FloorDiv (.var "_law_cell") (.int 9)) (.var "_law_many_here")),
    .ite (.cmp .Eq (.bin .Mod (.var "_law_rest") (.int 2)) (.int 0)) [.ret (.tup [.var "_law_word", .var "_law_place", .str "col", .bin .Mod (.bin .FloorDiv (.var "_law_rest") (.int 2)) (.var "_law_many_here")])] [],
    .ret (.tup [.var "_law_word", .var "_law_place", .str "is", .call "_law_thing_by" [.bin .FloorDiv (.var "_law_rest") (.int 2)]])]⟩
noncomputable def fn_law_clause_by : Fn := ⟨["_law_cell", "_law_many_here"], [
    .ite (.bop .Or [.cmp .Eq (.var "_law_many_here") (.int 0), .cmp .Eq (.bin .Mod (.var "_law_cell") (.int 32)) (.int 15)]) [.ret (.tup [])] [],
    .ite (.cmp .Eq (.bin .Mod (.var "_law_cell") (.int 16)) (.int 14)) [.ret (.tup [.tup [.str "same", .bin .Sub (.var "_law_many_here") (.int 1), .str "col", .int 0]])] [],
    .ite (.cmp .Eq (.bin .Mod (.var "_law_cell") (.int 16)) (.int 13)) [.ret (.tup [.tup [.str "same", .int 0, .str "col", .bin .Sub (.var "_law_many_here") (.int 1)]])] [],
    .assign "_law_count" (.bin .Add (.int 1) (.bin .Mod (.bin .FloorDiv (.var "_law_cell") (.int 16)) (.int 2))),
    .ite (.cmp .Eq (.bin .Mod (.bin .FloorDiv (.var "_law_cell") (.int 32)) (.int 11)) (.int 1)) [.assign "_law_count" (.bin .Mod (.bin .FloorDiv (.var "_law_cell") (.int 352)) (.int 13))] [],
    .ret (.blt "tuple" [.comp (.call "_law_one_by" [.call "_law_mixed" [.var "_law_cell", .bin .Add (.int 40) (.var "_law_k")], .var "_law_many_here"]) "_law_k" (.blt "range" [.var "_law_count"]) []])]⟩
noncomputable def fn_does : Fn := ⟨["test", "row"], [
    .assign "one" (.sub (.var "row") (.sub (.var "test") (.int 1))),
    .assign "other" (.sub (.var "test") (.int 3)),
    .ite (.cmp .Eq (.sub (.var "test") (.int 2)) (.str "col")) [.assign "other" (.sub (.var "row") (.sub (.var "test") (.int 3)))] [],
    .assign "word" (.sub (.var "test") (.int 0)),
    .ite (.cmp .Eq (.var "word") (.str "same")) [.ret (.call "alike" [.var "one", .var "other"])] [],
    .ite (.cmp .Eq (.var "word") (.str "unlike")) [.ret (.not (.call "alike" [.var "one", .var "other"]))] [],
    .ite (.cmp .Eq (.var "word") (.str "before")) [.ret (.call "before" [.var "one", .var "other"])] [],
    .ite (.cmp .Eq (.var "word") (.str "upto")) [.ret (.bop .Or [.call "before" [.var "one", .var "other"], .call "alike" [.var "one", .var "other"]])] [],
    .ite (.cmp .Eq (.var "word") (.str "behind")) [.ret (.call "before" [.var "other", .var "one"])] [],
    .ret (.bop .Or [.call "before" [.var "other", .var "one"], .call "alike" [.var "one", .var "other"]])]⟩
noncomputable def fn_holds : Fn := ⟨["clause", "row"], [
    .for_ "test" (.var "clause") [.ite (.call "does" [.var "test", .var "row"]) [.ret (.bool true)] []],
    .ret (.bool false)]⟩
noncomputable def fn_law_stands : Fn := ⟨["_law_word", "_law_one", "_law_other"], [
    .ite (.bop .Or [.cmp .Eq (.var "_law_word") (.str "same"), .cmp .Eq (.var "_law_word") (.str "unlike")]) [.ret (.cmp .Eq (.call "_law_alike" [.var "_law_one", .var "_law_other"]) (.cmp .Eq (.var "_law_word") (.str "same")))] [],
    .ite (.bop .Or [.cmp .Eq (.var "_law_word") (.str "before"), .cmp .Eq (.var "_law_word") (.str "from")]) [.ret (.cmp .Eq (.call "_law_before" [.var "_law_one", .var "_law_other"]) (.cmp .Eq (.var "_law_word") (.str "before")))] [],
    .ret (.cmp .Eq (.call "_law_before" [.var "_law_other", .var "_law_one"]) (.cmp .Eq (.var "_law_word") (.str "behind")))]⟩
noncomputable def fn_law_holds : Fn := ⟨["_law_clause", "_law_row"], [
    .for_ "_law_test" (.var "_law_clause") [.assign "_law_other" (.sub (.var "_law_test") (.int 3)), .ite (.cmp .Eq (.sub (.var "_law_test") (.int 2)) (.str "col")) [.assign "_law_other" (.sub (.var "_law_row") (.sub (.var "_law_test") (.int 3)))] [], .ite (.call "_law_stands" [.sub (.var "_law_test") (.int 0), .sub (.var "_law_row") (.sub (.var "_law_test") (.int 1)), .var "_law_other"]) [.ret (.bool true)] []],
    .ret (.bool false)]⟩
structure BG (P : List (String × Fn)) : Prop where
  sign : P.lookup "_law_sign_by" = some fn_law_sign_by
  cell : P.lookup "_law_cell_at" = some fn_law_cell_at
  thing : P.lookup "_law_thing_by" = some fn_law_thing_by
  mixed : P.lookup "_law_mixed" = some fn_law_mixed
  one : P.lookup "_law_one_by" = some fn_law_one_by
  clause : P.lookup "_law_clause_by" = some fn_law_clause_by
structure BC (P : List (String × Fn)) : Prop where
  alike : P.lookup "alike" = some fn_alike
  before : P.lookup "before" = some fn_before
  lalike : P.lookup "_law_alike" = some fn_law_alike
  lbefore : P.lookup "_law_before" = some fn_law_before
  does : P.lookup "does" = some fn_does
  holds : P.lookup "holds" = some fn_holds
  stands : P.lookup "_law_stands" = some fn_law_stands
  lholds : P.lookup "_law_holds" = some fn_law_holds
local macro_rules | `(tactic| walk_at "v") => `(tactic| repeat' (first | (with_reducible assumption) | (with_reducible exact e_int _ _ _) | (with_reducible exact e_str _ _ _) | (with_reducible exact e_bool _ _ _) | (with_reducible exact e_none _ _) | (with_reducible exact es_nil _ _) | ((with_reducible refine (e_var _ _ _).trans ?_); exact rfl) | (with_reducible apply v_cons) | (with_reducible apply v_bin) | (with_reducible exact b_add) | (with_reducible exact b_sb) | (with_reducible apply b_mod) | (with_reducible apply b_div) | ((with_reducible apply b_mulL); (focus decide)) | (with_reducible apply b_mul) | (with_reducible apply v_cmp) | (with_reducible apply v_sub) | (with_reducible apply v_sl) | (with_reducible apply v_not) | (with_reducible apply v_isi) | (with_reducible apply v_blt) | (with_reducible apply v_tup) | (with_reducible apply v_lst) | (with_reducible apply v_lcp) | (with_reducible apply v_callE) | (with_reducible apply v_call) | (with_reducible apply v_bop1) | ((with_reducible apply v_and); rotate_left; intro _; rotate_right) | ((with_reducible apply v_or); rotate_left; intro _; rotate_right) | (with_reducible apply v_map) | ((with_reducible show cmpD _ _ _ = _); exact rfl) | ((with_reducible show truth _ = _); exact rfl) | ((with_reducible show isiD _ _ = _); exact rfl) | ((with_reducible show frF _ _ = _); exact rfl) | ((with_reducible show isCallE _ = _); exact rfl) | ((with_reducible show bltD _ _ = _); exact rfl) | ((with_reducible show lstD _ = _); exact rfl) | ((with_reducible show subD _ _ = _); exact rfl) | decide | exact Nat.le_of_ble_eq_true rfl))
local macro_rules | `(tactic| walk_at "s") => `(tactic| repeat' (first | (apply r_step; (focus (first | ((with_reducible apply p_cell); (focus (walk_at "v"; done)); (with_reducible assumption)) | ((with_reducible apply p_assign); walk_at "v"; done)))) | (apply r_if; (focus (walk_at "v"; done)); (focus (exact rfl)); (focus (intro hh; first | exact no_tf hh (by assumption) | exact absurd hh (by decide) | skip)); rotate_left; (focus (intro hh; first | exact no_tf (by assumption) hh | exact absurd hh (by decide) | skip))) | (apply r_retv; (focus (exact rfl))) | (apply r_ret; (focus (walk_at "v"; done)); (focus (exact rfl)))))
local macro_rules | `(tactic| walk_at "q") => `(tactic| repeat' (first | (apply q_step; (focus (first | ((with_reducible apply p_cell); (focus (walk_at "v"; done)); (with_reducible assumption)) | ((with_reducible apply p_assign); walk_at "v"; done)))) | (apply q_if; (focus (walk_at "v"; done)); (focus (exact rfl)); (focus (intro hh; first | exact no_tf hh (by assumption) | exact absurd hh (by decide) | skip)); rotate_left; (focus (intro hh; first | exact no_tf (by assumption) hh | exact absurd hh (by decide) | skip))) | (apply q_retv; (focus (exact rfl))) | (apply q_ret; (focus (walk_at "v"; done)); (focus (exact rfl)))))
local macro_rules | `(tactic| walk_at "o") => `(tactic| repeat' (first | (apply o_step; (focus (first | ((with_reducible apply p_cell); (focus (walk_at "v"; done)); (with_reducible assumption)) | ((with_reducible apply p_assign); walk_at "v"; done)))) | (apply o_if; (focus (walk_at "v"; done)); (focus (exact rfl)); (focus (intro hh; first | exact no_tf hh (by assumption) | exact absurd hh (by decide) | skip)); rotate_left; (focus (intro hh; first | exact no_tf (by assumption) hh | exact absurd hh (by decide) | skip))) | (apply o_ret; (focus (walk_at "v"; done)); (focus (exact rfl))) | apply o_nil))
noncomputable def signs : Str := Str.ofString " !\"#$&'()*+,-./0123456789:;<=>?@ABCDEFGHIJKLMNOPQRSTUVWXYZ[\\]^_`" ++ Str.ofString "abcdefghijklmnopqrstuvwxyz{|}~"
theorem signs_len : signs.length = 94 := by decide +kernel
theorem emod_nat (c : Int) {k : Nat} (h : 0 < k) : ∃ m : Nat, c % (k : Int) = m ∧ m < k := ⟨(c % k).toNat, (Int.toNat_of_nonneg (Int.emod_nonneg _ (by omega))).symm, by have := Int.emod_nonneg c (b := (k : Int)) (by omega); have := Int.emod_lt_of_pos c (b := (k : Int)) (by omega); omega⟩
section
variable {P : List (String × Fn)} {X : CF}
theorem sign_by (B : BG P) (n : Nat) (c : Int) : ∃ x : Str, x.length = 1 ∧ (callN P X (n + 1)).call "_law_sign_by" [.int c] = some (.str x, false) := by
  have h1 : (Str.ofString " !\"#$&'()*+,-./0123456789:;<=>?@ABCDEFGHIJKLMNOPQRSTUVWXYZ[\\]^_`").length + (Str.ofString "abcdefghijklmnopqrstuvwxyz{|}~").length ≤ big := by decide +kernel
  have h2 : 0 ≤ c % 94 ∧ c % 94 < (signs.length : Int) ∧ signs.length ≤ big := by rw [signs_len]; refine ⟨by omega, by omega, by decide⟩
  refine ⟨charAt signs (c % 94).toNat, rfl, run_call B.sign rfl ?_⟩
  have q : binD .Add (.str (Str.ofString " !\"#$&'()*+,-./0123456789:;<=>?@ABCDEFGHIJKLMNOPQRSTUVWXYZ[\\]^_`")) (.str (Str.ofString "abcdefghijklmnopqrstuvwxyz{|}~")) = some (.str signs) := bin_ss h1
  have q2 := sub_s h2
  walk_at "s"
noncomputable def alikeV (a b : D) : Bool := cellEq a b
noncomputable def beforeV (a b : D) : Bool := match a with
  | .int i => (match b with | .int j => decide (i < j) | _ => true)
  | .str x => (match b with | .str y => decide (x.cps.toList < y.cps.toList) | _ => false)
  | _ => false
theorem cellCases {a : D} {C : D → Prop} (ha : a.isCell = true) (hi : ∀ i, C (.int i)) (hs : ∀ x, C (.str x)) : C a := by
  cases a <;> first | exact hi _ | exact hs _ | cases ha
theorem alike_eq (B : BC P) (n : Nat) (a b : D) (ha : a.isCell = true) (hb : b.isCell = true) : (callN P X (n + 1)).call "alike" [a, b] = some (.bool (alikeV a b), false) := by
  refine run_call B.alike rfl ?_
  cases a <;> first | (cases ha; done) | (cases b <;> first | (cases hb; done) | rfl)
theorem lalike_eq (B : BC P) (n : Nat) (a b : D) (ha : a.isCell = true) (hb : b.isCell = true) : (callN P X (n + 1)).call "_law_alike" [a, b] = some (.bool (alikeV a b), false) := by
  refine run_call B.lalike rfl ?_
  cases a <;> first | (cases ha; done) | (cases b <;> first | (cases hb; done) | rfl)
theorem before_eq (B : BC P) (n : Nat) (a b : D) (ha : a.isCell = true) (hb : b.isCell = true) : (callN P X (n + 1)).call "before" [a, b] = some (.bool (beforeV a b), false) := by
  refine run_call B.before rfl ?_
  cases a <;> first | (cases ha; done) | (cases b <;> first | (cases hb; done) | rfl)
theorem lbefore_eq (B : BC P) (n : Nat) (a b : D) (ha : a.isCell = true) (hb : b.isCell = true) : (callN P X (n + 1)).call "_law_before" [a, b] = some (.bool (beforeV a b), false) := by
  refine run_call B.lbefore rfl ?_
  cases a <;> first | (cases ha; done) | (cases b <;> first | (cases hb; done) | rfl)
theorem cell_at (B : BG P) (n : Nat) (ns : List Int) (k : Nat) : (callN P X (n + 1)).call "_law_cell_at" [.list (ns.map .int), .int k] = some (.int (ns.getD k 0), false) := by
  have hl : (ns.map D.int).length = ns.length := List.length_map ..
  refine run_call B.cell rfl ?_
  by_cases h : k < ns.length
  · have h1 : decide ((k : Int) < (ns.map D.int).length) = true := decide_eq_true (by omega)
    have h2 : subD (.list (ns.map .int)) (.int k) = some (.int (ns.getD k 0)) := sub_l (by omega) (by simp [h])
    walk_at "s"
  · have h1 : decide ((k : Int) < (ns.map D.int).length) = false := decide_eq_false (by omega)
    have h2 : ns.getD k 0 = 0 := by simp [h]
    rw [h2]
    walk_at "s"
theorem mixed (B : BG P) (n : Nat) (c k : Int) : ∃ r : Int, 0 ≤ r ∧ (callN P X (n + 1)).call "_law_mixed" [.int c, .int k] = some (.int r, false) := by
  have hp : -powLim < (c * 48271 + (k + 1) * 1299721) % 2147483647 ∧ (c * 48271 + (k + 1) * 1299721) % 2147483647 < powLim ∧ (0 : Int) ≤ 5 ∧ (5 : Int) ≤ 100 := by
    have h1 : (2147483647 : Int) < powLim := by decide +kernel
    generalize powLim = pl at *
    generalize c * 48271 + (k + 1) * 1299721 = z
    omega
  have q := b_pow hp
  refine ⟨((c * 48271 + (k + 1) * 1299721) % 2147483647) ^ (5 : Int).toNat % 2147483647, Int.emod_nonneg _ (by decide), run_call B.mixed rfl ?_⟩
  walk_at "s"
end
noncomputable def Good (d : D) : Prop := (∃ i : Int, d = .int i ∧ -(10 ^ 61) < i ∧ i < 10 ^ 61) ∨ ∃ x : Str, d = .str x ∧ x.length ≤ 200
theorem Good.cell {d : D} (h : Good d) : d.isCell = true := by rcases h with ⟨i, rfl, _⟩ | ⟨x, rfl, _⟩ <;> rfl

theorem len_append (x y : Str) : (x ++ y).length = x.length + y.length := by
  show (x.cps ++ y.cps).size = _
  simp [Str.length]
theorem mul_len {x : Str} (hx : x.length = 1) {n : Int} (h0 : 0 ≤ n) (h1 : n ≤ 100) : (Txt.mul x n).length ≤ 100 := by
  unfold Txt.mul
  split
  · decide
  · split
    · omega
    · show ((List.replicate n.toNat x.cps).foldl (· ++ ·) #[]).size ≤ 100
      have : ∀ (k : Nat) (a : Array Nat), ((List.replicate k x.cps).foldl (· ++ ·) a).size = a.size + k := by
        intro k
        induction k with
        | zero => intro a; simp
        | succ k ih =>
          intro a
          rw [List.replicate_succ, List.foldl_cons, ih]
          have : x.cps.size = 1 := hx
          simp; omega
      rw [this]; simp; omega

theorem slD_hi (x : Str) (j : Int) (h : x.length ≤ big) : ∃ W : Str, W.length ≤ x.length ∧ slD (.str x) .none (.int j) = some (.str W) := ⟨_, Txt.slice_le _ _ _, if_pos h⟩
theorem slD_lo (x : Str) (j : Int) (h : x.length ≤ big) : ∃ W : Str, W.length ≤ x.length ∧ slD (.str x) (.int j) .none = some (.str W) := ⟨_, Txt.slice_le _ _ _, if_pos h⟩
noncomputable def T60 : Int := 10 ^ 60
theorem list_pick {l : List D} (hn : 0 < l.length) (c : Int) {R : D → Prop} (h : ∀ d ∈ l, R d) : ∃ d, R d ∧ subD (.list l) (.int (c % (l.length : Int))) = some d := by
  obtain ⟨m, e, hm⟩ := emod_nat c hn
  rw [e]
  exact ⟨l[m], h _ (List.getElem_mem hm), sub_l hm (List.getElem?_eq_getElem hm)⟩
theorem thing_by {P : List (String × Fn)} {X : CF} (B : BG P) (n : Nat) (c : Int) : ∃ d, Good d ∧ (callN P X (n + 2)).call "_law_thing_by" [.int c] = some (d, false) := by
  obtain ⟨x, hx, hs⟩ := sign_by (X := X) B n (c / 9)
  obtain ⟨x', hx', hs'⟩ := sign_by (X := X) B n (c / 9 / 81)
  obtain ⟨y, ⟨y', rfl, hy⟩, q5⟩ := list_pick (l := [.str (Str.ofString "a"), .str (Str.ofString "b"), .str (Str.ofString "1"), .str (Str.ofString "0"), .str (Str.ofString "-1"), .str (Str.ofString "col"), .str (Str.ofString "is"), .str (Str.ofString "count")]) (by decide) (c / 9) (R := fun d => ∃ x : Str, d = .str x ∧ x.length ≤ 200) (by
    intro d hd
    simp only [List.mem_cons, List.not_mem_nil, or_false] at hd
    rcases hd with rfl | rfl | rfl | rfl | rfl | rfl | rfl | rfl <;> exact ⟨_, rfl, by decide +kernel⟩)
  have q5' : subD (.list [.str (Str.ofString "a"), .str (Str.ofString "b"), .str (Str.ofString "1"), .str (Str.ofString "0"), .str (Str.ofString "-1"), .str (Str.ofString "col"), .str (Str.ofString "is"), .str (Str.ofString "count")]) (.int (c / 9 % 8)) = some (.str y') := q5
  have hm : 0 ≤ c / 9 / 94 % 100 ∧ c / 9 / 94 % 100 ≤ 100 := by omega
  have q6 := bin_sm (u := x) (k := c / 9 / 94 % 100) ⟨hm.1, Int.le_trans hm.2 (by decide), by rw [hx]; decide⟩
  have p1 : binD .Pow (.int 10) (.int 60) = some (.int T60) := b_pow (i := 10) (j := 60) (by decide +kernel)
  have t0 : 0 < T60 := by decide +kernel
  have hz : 0 ≤ c / 9 % T60 ∧ c / 9 % T60 < T60 := ⟨Int.emod_nonneg _ (by decide +kernel), Int.emod_lt_of_pos _ t0⟩
  have p2 : binD .Pow (.int (c / 9 % T60 + 3)) (.int 9) = some (.int ((c / 9 % T60 + 3) ^ (9 : Int).toNat)) := b_pow (by
    have h2 : T60 + 3 < powLim := by decide +kernel
    generalize powLim = pl at *
    omega)
  have p3 : binD .Mult (.int 2) (.int T60) = some (.int (2 * T60)) := b_mulL (by decide)
  have t1 : 0 < 2 * T60 - 1 := by omega
  obtain ⟨W, hW, w1⟩ := slD_hi (Str.ofString "any word") (c / 9 % 9) (by decide +kernel)
  have hW8 : W.length ≤ 8 := Nat.le_trans hW (by decide +kernel)
  have hWb : W.length ≤ big := Nat.le_trans hW8 (by decide)
  have w2 := len_s hWb
  have w3 : (0 : Int) < (W.length : Int) + 1 := by omega
  obtain ⟨U, hU, w4⟩ := slD_hi W (c / 9 / 9 % ((W.length : Int) + 1)) hWb
  obtain ⟨V, hV, w5⟩ := slD_lo W (c / 9 / 9 % ((W.length : Int) + 1)) hWb
  have hb0 : (16 : Nat) + 1 ≤ big := by decide
  have w6 := bin_ss (u := U) (v := x') (by omega)
  have w7 := bin_ss (u := U ++ x') (v := V) (by rw [len_append]; omega)
  have g1 : -(10 : Int) ^ 61 < c / 9 % 4 - 1 ∧ c / 9 % 4 - 1 < 10 ^ 61 := by omega
  have g2 : -(10 : Int) ^ 61 < c / 9 % 2000001 - 1000000 ∧ c / 9 % 2000001 - 1000000 < 10 ^ 61 := by omega
  have g3 : -(10 : Int) ^ 61 < (c / 9 % T60 + 3) ^ (9 : Int).toNat % (2 * T60 - 1) - T60 + 1 ∧ (c / 9 % T60 + 3) ^ (9 : Int).toNat % (2 * T60 - 1) - T60 + 1 < 10 ^ 61 := by
    have h1 := Int.emod_nonneg ((c / 9 % T60 + 3) ^ (9 : Int).toNat) (b := 2 * T60 - 1) (by omega)
    have h2 := Int.emod_lt_of_pos ((c / 9 % T60 + 3) ^ (9 : Int).toNat) t1
    generalize (c / 9 % T60 + 3) ^ (9 : Int).toNat % (2 * T60 - 1) = v at *
    have e2 : (10 : Int) ^ 61 = 10 * T60 := by decide +kernel
    rw [e2]
    generalize T60 = tt at *
    omega
  have g4 : (U ++ x' ++ V).length ≤ 200 := by rw [len_append, len_append]; omega
  have g5 := Nat.le_trans (mul_len hx hm.1 hm.2) (show 100 ≤ 200 by decide)
  have key : Rex (callN P X (n + 1)) fn_law_thing_by.body [("_law_cell", (false, .int c))] fun d fr => Good d ∧ fr = false := by
    clear hm hz hW hW8 hWb hU hV hb0 hx hx' q5
    walk_at "q"
    all_goals first
      | exact ⟨.inl ⟨_, rfl, g1⟩, rfl⟩
      | exact ⟨.inl ⟨_, rfl, g2⟩, rfl⟩
      | exact ⟨.inr ⟨_, rfl, hy⟩, rfl⟩
      | exact ⟨.inr ⟨_, rfl, g5⟩, rfl⟩
      | exact ⟨.inl ⟨_, rfl, g3⟩, rfl⟩
      | exact ⟨.inr ⟨_, rfl, g4⟩, rfl⟩
  obtain ⟨d, fr, ⟨hd, rfl⟩, hr⟩ := rex_call (X := X) (n := n + 1) (args := [.int c]) B.thing rfl key
  exact ⟨d, hd, hr⟩
end Mine

namespace Mine
open PySem
set_option maxRecDepth 100000
set_option maxHeartbeats 400000
local macro_rules | `(tactic| walk_at "v") => `(tactic| repeat' (first | (with_reducible assumption) | (with_reducible exact e_int _ _ _) | (with_reducible exact e_str _ _ _) | (with_reducible exact e_bool _ _ _) | (with_reducible exact e_none _ _) | (with_reducible exact es_nil _ _) | ((with_reducible refine (e_var _ _ _).trans ?_); exact rfl) | (with_reducible apply v_cons) | (with_reducible apply v_bin) | (with_reducible exact b_add) | (with_reducible exact b_sb) | (with_reducible apply b_mod) | (with_reducible apply b_div) | ((with_reducible apply b_mulL); (focus decide)) | (with_reducible apply b_mul) | (with_reducible apply v_cmp) | (with_reducible apply v_sub) | (with_reducible apply v_sl) | (with_reducible apply v_not) | (with_reducible apply v_isi) | (with_reducible apply v_blt) | (with_reducible apply v_tup) | (with_reducible apply v_lst) | (with_reducible apply v_lcp) | (with_reducible apply v_callE) | (with_reducible apply v_call) | (with_reducible apply v_bop1) | ((with_reducible apply v_and); rotate_left; intro _; rotate_right) | ((with_reducible apply v_or); rotate_left; intro _; rotate_right) | (with_reducible apply v_map) | ((with_reducible show cmpD _ _ _ = _); exact rfl) | ((with_reducible show truth _ = _); exact rfl) | ((with_reducible show isiD _ _ = _); exact rfl) | ((with_reducible show frF _ _ = _); exact rfl) | ((with_reducible show isCallE _ = _); exact rfl) | ((with_reducible show bltD _ _ = _); exact rfl) | ((with_reducible show lstD _ = _); exact rfl) | ((with_reducible show subD _ _ = _); exact rfl) | decide | exact Nat.le_of_ble_eq_true rfl))
local macro_rules | `(tactic| walk_at "s") => `(tactic| repeat' (first | (apply r_step; (focus (first | ((with_reducible apply p_cell); (focus (walk_at "v"; done)); (with_reducible assumption)) | ((with_reducible apply p_assign); walk_at "v"; done)))) | (apply r_if; (focus (walk_at "v"; done)); (focus (exact rfl)); (focus (intro hh; first | exact no_tf hh (by assumption) | exact absurd hh (by decide) | skip)); rotate_left; (focus (intro hh; first | exact no_tf (by assumption) hh | exact absurd hh (by decide) | skip))) | (apply r_retv; (focus (exact rfl))) | (apply r_ret; (focus (walk_at "v"; done)); (focus (exact rfl)))))
local macro_rules | `(tactic| walk_at "q") => `(tactic| repeat' (first | (apply q_step; (focus (first | ((with_reducible apply p_cell); (focus (walk_at "v"; done)); (with_reducible assumption)) | ((with_reducible apply p_assign); walk_at "v"; done)))) | (apply q_if; (focus (walk_at "v"; done)); (focus (exact rfl)); (focus (intro hh; first | exact no_tf hh (by assumption) | exact absurd hh (by decide) | skip)); rotate_left; (focus (intro hh; first | exact no_tf (by assumption) hh | exact absurd hh (by decide) | skip))) | (apply q_retv; (focus (exact rfl))) | (apply q_ret; (focus (walk_at "v"; done)); (focus (exact rfl)))))
local macro_rules | `(tactic| walk_at "o") => `(tactic| repeat' (first | (apply o_step; (focus (first | ((with_reducible apply p_cell); (focus (walk_at "v"; done)); (with_reducible assumption)) | ((with_reducible apply p_assign); walk_at "v"; done)))) | (apply o_if; (focus (walk_at "v"; done)); (focus (exact rfl)); (focus (intro hh; first | exact no_tf hh (by assumption) | exact absurd hh (by decide) | skip)); rotate_left; (focus (intro hh; first | exact no_tf (by assumption) hh | exact absurd hh (by decide) | skip))) | (apply o_ret; (focus (walk_at "v"; done)); (focus (exact rfl))) | apply o_nil))
theorem ofS_eq (a b : String) : (Str.ofString a = Str.ofString b) = (a = b) := propext ⟨ofString_inj, fun h => by rw [h]⟩
theorem ofS_beq (a b : String) : (Str.ofString a == Str.ofString b) = (a == b) := by
  rw [Bool.eq_iff_iff, beq_iff_eq, beq_iff_eq, ofS_eq]
theorem idx_nat {p n : Nat} (h : p < n) : idx (p : Int) n = some p := by
  unfold idx
  have : (p : Int) < (n : Int) := by omega
  simp [this]
noncomputable def words : List String := ["same", "unlike", "before", "upto", "behind", "from"]
noncomputable def tst (w : String) (p : Nat) (kd : String) (o : D) : D := .tup [.str (Str.ofString w), .int p, .str (Str.ofString kd), o]
/-- a test on a row of m cells -/
noncomputable def Tst (m : Nat) (d : D) : Prop := ∃ w p, w ∈ words ∧ p < m ∧ ((∃ q : Nat, q < m ∧ d = tst w p "col" (.int q)) ∨ ∃ o, Good o ∧ d = tst w p "is" o)
theorem word_at (c : Int) : ∃ w, w ∈ words ∧ subD (.list [.str (Str.ofString "same"), .str (Str.ofString "unlike"), .str (Str.ofString "before"), .str (Str.ofString "upto"), .str (Str.ofString "behind"), .str (Str.ofString "from"), .str (Str.ofString "unlike"), .str (Str.ofString "upto"), .str (Str.ofString "from")]) (.int (c % 9)) = some (.str (Str.ofString w)) := by
  obtain ⟨d, ⟨w, rfl, hw⟩, h⟩ := list_pick (l := ["same", "unlike", "before", "upto", "behind", "from", "unlike", "upto", "from"].map fun s => D.str (Str.ofString s)) (by decide) c (R := fun d => ∃ w, d = .str (Str.ofString w) ∧ w ∈ words) (by
    intro d hd
    obtain ⟨w, hw, rfl⟩ := List.mem_map.mp hd
    exact ⟨w, rfl, (by decide : ∀ w ∈ ["same", "unlike", "before", "upto", "behind", "from", "unlike", "upto", "from"], w ∈ words) w hw⟩)
  exact ⟨w, hw, h⟩
section
variable {P : List (String × Fn)} {X : CF}
theorem one_by (B : BG P) (n : Nat) (c : Int) (m : Nat) (h0 : 0 < m) (h1 : m ≤ 1000) : ∃ d, Tst m d ∧ (callN P X (n + 3)).call "_law_one_by" [.int c, .int m] = some (d, false) := by
  obtain ⟨w, hw, q1⟩ := word_at c
  have q2 : (0 : Int) < (m : Int) ∧ (m : Int) < lim := by unfold lim; omega
  have q3 := q2.1
  obtain ⟨p, hp, hpm⟩ := emod_nat (c / 9) h0
  obtain ⟨q, hq, hqm⟩ := emod_nat (c / 9 / m / 2) h0
  obtain ⟨d, gd, hd⟩ := thing_by (X := X) B n (c / 9 / m / 2)
  have key : Rex (callN P X (n + 2)) fn_law_one_by.body [("_law_cell", (false, .int c)), ("_law_many_here", (false, .int m))] fun d fr => Tst m d ∧ fr = false := by
    walk_at "q"
    all_goals first
      | exact ⟨⟨w, p, hw, hpm, .inl ⟨q, hqm, by rw [hp, hq]; rfl⟩⟩, rfl⟩
      | exact ⟨⟨w, p, hw, hpm, .inr ⟨d, gd, by rw [hp]; rfl⟩⟩, rfl⟩
  obtain ⟨d, fr, ⟨hd, rfl⟩, hr⟩ := rex_call (X := X) (n := n + 2) (args := [.int c, .int m]) B.one rfl key
  exact ⟨d, hd, hr⟩
/-- a tuple of tests -/
noncomputable def Cls (m : Nat) (d : D) : Prop := ∃ ts, d = .tup ts ∧ (∀ t ∈ ts, Tst m t) ∧ ts.length ≤ 40
theorem clause_by (B : BG P) (n : Nat) (c : Int) (m : Nat) (h1 : m ≤ 1000) : ∃ d, Cls m d ∧ (callN P X (n + 4)).call "_law_clause_by" [.int c, .int m] = some (d, false) := by
  have key : Rex (callN P X (n + 3)) fn_law_clause_by.body [("_law_cell", (false, .int c)), ("_law_many_here", (false, .int m))] fun d fr => Cls m d ∧ fr = false := by
    have nilok : Cls m (.tup []) := ⟨[], rfl, (fun _ h => nomatch h), Nat.zero_le _⟩
    by_cases hm : m = 0
    · subst hm
      have hz : (((0 : Nat) : Int) == 0 || c % 32 == 15) = true := rfl
      walk_at "q"
      exact ⟨nilok, rfl⟩
    have h0 : 0 < m := by omega
    have em : (m : Int) - 1 = ((m - 1 : Nat) : Int) := by omega
    have one : ∀ p q : Nat, p < m → q < m → Cls m (.tup [.tup [.str (Str.ofString "same"), .int p, .str (Str.ofString "col"), .int q]]) := fun p q hp hq => ⟨_, rfl, fun t ht => List.mem_singleton.mp ht ▸ ⟨"same", p, by decide, hp, .inl ⟨q, hq, rfl⟩⟩, Nat.le_of_ble_eq_true rfl⟩
    have s1 := one (m - 1) 0 (by omega) h0
    have s2 := one 0 (m - 1) h0 (by omega)
    rw [← em] at s1 s2
    have tail : ∀ k : Nat, k ≤ 13 → Rex (callN P X (n + 3)) (fn_law_clause_by.body.drop 5) [("_law_cell", (false, .int c)), ("_law_many_here", (false, .int m)), ("_law_count", (false, .int k))] fun d fr => Cls m d ∧ fr = false := by
      intro k hk
      obtain ⟨ds, q1, q2, q3⟩ := v_rows (cf := callN P X (n + 3)) (ρ := vis [("_law_cell", (false, .int c)), ("_law_many_here", (false, .int m)), ("_law_count", (false, .int k))]) (elt := .call "_law_one_by" [.call "_law_mixed" [.var "_law_cell", .bin .Add (.int 40) (.var "_law_k")], .var "_law_many_here"]) (z := "_law_k") (src := .var "_law_count") (Nat.le_trans hk (by decide)) (Tst m) rfl (by
        intro i _
        obtain ⟨r, _, hr⟩ := mixed (X := X) B (n + 2) c (40 + i)
        obtain ⟨d, td, hd⟩ := one_by (X := X) B n r m h0 h1
        exact ⟨d, td, by walk_at "v"⟩)
      exact q_ret (v_map q3 rfl rfl) rfl ⟨⟨ds, rfl, q2, q1 ▸ Nat.le_trans hk (by decide)⟩, rfl⟩
    obtain ⟨k1, e1, l1⟩ : ∃ k : Nat, 1 + c / 16 % 2 = k ∧ k ≤ 13 := ⟨(1 + c / 16 % 2).toNat, by omega, by omega⟩
    obtain ⟨k2, e2, l2⟩ := emod_nat (c / 352) (k := 13) (by decide)
    have e2 : c / 352 % 13 = (k2 : Int) := e2
    walk_at "q"
    all_goals first
      | exact ⟨nilok, rfl⟩
      | exact ⟨s1, rfl⟩
      | exact ⟨s2, rfl⟩
      | (refine q_norm ?_ (tail k1 l1); rw [← e1] <;> exact rfl)
      | (refine q_norm ?_ (tail k2 (Nat.le_of_lt l2)); rw [← e2] <;> exact rfl)
  obtain ⟨d, fr, ⟨hd, rfl⟩, hr⟩ := rex_call (X := X) (n := n + 3) (args := [.int c, .int m]) B.clause rfl key
  exact ⟨d, hd, hr⟩
end
end Mine

namespace Mine
open PySem
set_option maxRecDepth 100000
set_option maxHeartbeats 400000
local macro_rules | `(tactic| walk_at "v") => `(tactic| repeat' (first | (with_reducible assumption) | (with_reducible exact e_int _ _ _) | (with_reducible exact e_str _ _ _) | (with_reducible exact e_bool _ _ _) | (with_reducible exact e_none _ _) | (with_reducible exact es_nil _ _) | ((with_reducible refine (e_var _ _ _).trans ?_); exact rfl) | (with_reducible apply v_cons) | (with_reducible apply v_bin) | (with_reducible exact b_add) | (with_reducible exact b_sb) | (with_reducible apply b_mod) | (with_reducible apply b_div) | ((with_reducible apply b_mulL); (focus decide)) | (with_reducible apply b_mul) | (with_reducible apply v_cmp) | (with_reducible apply v_sub) | (with_reducible apply v_sl) | (with_reducible apply v_not) | (with_reducible apply v_isi) | (with_reducible apply v_blt) | (with_reducible apply v_tup) | (with_reducible apply v_lst) | (with_reducible apply v_lcp) | (with_reducible apply v_callE) | (with_reducible apply v_call) | (with_reducible apply v_bop1) | ((with_reducible apply v_and); rotate_left; intro _; rotate_right) | ((with_reducible apply v_or); rotate_left; intro _; rotate_right) | (with_reducible apply v_map) | ((with_reducible show cmpD _ _ _ = _); exact rfl) | ((with_reducible show truth _ = _); exact rfl) | ((with_reducible show isiD _ _ = _); exact rfl) | ((with_reducible show frF _ _ = _); exact rfl) | ((with_reducible show isCallE _ = _); exact rfl) | ((with_reducible show bltD _ _ = _); exact rfl) | ((with_reducible show lstD _ = _); exact rfl) | ((with_reducible show subD _ _ = _); exact rfl) | decide | exact Nat.le_of_ble_eq_true rfl))
local macro_rules | `(tactic| walk_at "s") => `(tactic| repeat' (first | (apply r_step; (focus (first | ((with_reducible apply p_cell); (focus (walk_at "v"; done)); (with_reducible assumption)) | ((with_reducible apply p_assign); walk_at "v"; done)))) | (apply r_if; (focus (walk_at "v"; done)); (focus (exact rfl)); (focus (intro hh; first | exact no_tf hh (by assumption) | exact absurd hh (by decide) | skip)); rotate_left; (focus (intro hh; first | exact no_tf (by assumption) hh | exact absurd hh (by decide) | skip))) | (apply r_retv; (focus (exact rfl))) | (apply r_ret; (focus (walk_at "v"; done)); (focus (exact rfl)))))
local macro_rules | `(tactic| walk_at "q") => `(tactic| repeat' (first | (apply q_step; (focus (first | ((with_reducible apply p_cell); (focus (walk_at "v"; done)); (with_reducible assumption)) | ((with_reducible apply p_assign); walk_at "v"; done)))) | (apply q_if; (focus (walk_at "v"; done)); (focus (exact rfl)); (focus (intro hh; first | exact no_tf hh (by assumption) | exact absurd hh (by decide) | skip)); rotate_left; (focus (intro hh; first | exact no_tf (by assumption) hh | exact absurd hh (by decide) | skip))) | (apply q_retv; (focus (exact rfl))) | (apply q_ret; (focus (walk_at "v"; done)); (focus (exact rfl)))))
local macro_rules | `(tactic| walk_at "o") => `(tactic| repeat' (first | (apply o_step; (focus (first | ((with_reducible apply p_cell); (focus (walk_at "v"; done)); (with_reducible assumption)) | ((with_reducible apply p_assign); walk_at "v"; done)))) | (apply o_if; (focus (walk_at "v"; done)); (focus (exact rfl)); (focus (intro hh; first | exact no_tf hh (by assumption) | exact absurd hh (by decide) | skip)); rotate_left; (focus (intro hh; first | exact no_tf (by assumption) hh | exact absurd hh (by decide) | skip))) | (apply o_ret; (focus (walk_at "v"; done)); (focus (exact rfl))) | apply o_nil))
theorem str_tri (x y : Str) : (decide (y.cps.toList < x.cps.toList) || (x == y)) = !decide (x.cps.toList < y.cps.toList) := by
  rw [Bool.eq_iff_iff]
  simp only [Bool.or_eq_true, decide_eq_true_eq, beq_iff_eq, Bool.not_eq_true', decide_eq_false_iff_not]
  constructor
  · rintro (h | rfl)
    · exact List.lt_asymm h
    · exact List.lt_irrefl _
  · intro h
    by_cases h2 : y.cps.toList < x.cps.toList
    · exact .inl h2
    · refine .inr ?_
      have : x.cps.toList = y.cps.toList := List.le_antisymm (List.not_lt.mp h2) (List.not_lt.mp h)
      cases x; cases y
      congr 1
      exact Array.toList_inj.mp this
theorem tri {a b : D} (ha : a.isCell = true) (hb : b.isCell = true) : (beforeV b a || alikeV a b) = !beforeV a b := by
  cases a <;> first | (cases ha; done) | (cases b <;> first | (cases hb; done) | rfl | exact str_tri _ _ | skip)
  rename_i i j
  show (decide (j < i) || i == j) = !decide (i < j)
  rw [Bool.eq_iff_iff]; simp; omega
theorem alike_comm {a b : D} (ha : a.isCell = true) (hb : b.isCell = true) : alikeV a b = alikeV b a := by
  cases a <;> first | (cases ha; done) | (cases b <;> first | (cases hb; done) | rfl | exact Bool.beq_comm)
noncomputable def wordV (w : String) (a b : D) : Bool :=
  if w = "same" then alikeV a b else if w = "unlike" then !alikeV a b else if w = "before" then beforeV a b else if w = "upto" then !beforeV b a
  else if w = "behind" then beforeV b a else !beforeV a b
noncomputable def othV (row : List D) (kd : String) (o : D) : D := if kd = "col" then (match o with | .int q => row.getD q.toNat .none | _ => .none) else o
/-- what a test says of a row -/
noncomputable def tV (row : List D) (t : D) : Bool := match t with
  | .tup [.str w, .int p, .str kd, o] => ["same", "unlike", "before", "upto", "behind", "from"].any fun x => Str.ofString x == w && wordV x (row.getD p.toNat .none) (othV row (if kd == Str.ofString "col" then "col" else "is") o)
  | _ => false
theorem tV_tst (row : List D) {w : String} (hw : w ∈ words) (p : Nat) (kd : String) (o : D) : tV row (tst w p kd o) = wordV w (row.getD p .none) (othV row (if kd == "col" then "col" else "is") o) := by
  unfold tV tst
  simp only [ofS_beq, Int.toNat_natCast]
  simp only [words, List.mem_cons, List.not_mem_nil, or_false] at hw
  rcases hw with rfl | rfl | rfl | rfl | rfl | rfl <;> simp
theorem Good.getD {row : List D} (hr : ∀ d ∈ row, Good d) {p : Nat} (h : p < row.length) : Good (row.getD p .none) := by
  rw [List.getD_eq_getElem?_getD, List.getElem?_eq_getElem h]
  exact hr _ (List.getElem_mem h)
section
variable {P : List (String × Fn)} {X : CF}
theorem leaf_t {k : Bool} {A B : Prop} (hh : k = true) (h : A) : if k = true then A else B := by rw [if_pos hh]; exact h
theorem leaf_f {k : Bool} {A B : Prop} (hh : k = false) (h : B) : if k = true then A else B := by rw [if_neg (by rw [hh]; exact Bool.false_ne_true)]; exact h
theorem words_or {w : String} (hw : w ∈ words) : w = "same" ∨ w = "unlike" ∨ w = "before" ∨ w = "upto" ∨ w = "behind" ∨ w = "from" := by
  simpa only [words, List.mem_cons, List.not_mem_nil, or_false] using hw
theorem stands_eq (B : BC P) (n : Nat) {w : String} (hw : w ∈ words) {a b : D} (ha : a.isCell = true) (hb : b.isCell = true) :
    (callN P X (n + 2)).call "_law_stands" [.str (Str.ofString w), a, b] = some (.bool (wordV w a b), false) := by
  refine run_call B.stands rfl ?_
  have q1 := lalike_eq (X := X) B n a b ha hb
  have q3 := lbefore_eq (X := X) B n a b ha hb
  have q4 := lbefore_eq (X := X) B n b a hb ha
  generalize callN P X (n + 1) = cf at *
  have e : ∀ u v : Bool, cmpD .Eq (.bool u) (.bool v) = some (.bool (u == v)) := fun _ _ => rfl
  have t : ∀ u : Bool, (u == true) = u := by decide
  have f : ∀ u : Bool, (u == false) = !u := by decide
  rcases words_or hw with rfl | rfl | rfl | rfl | rfl | rfl
  · show Run cf _ _ (.bool (alikeV a b)) _; rw [← t (alikeV a b)]; walk_at "s"
  · show Run cf _ _ (.bool (!alikeV a b)) _; rw [← f (alikeV a b)]; walk_at "s"
  · show Run cf _ _ (.bool (beforeV a b)) _; rw [← t (beforeV a b)]; walk_at "s"
  · show Run cf _ _ (.bool (!beforeV b a)) _; rw [← f (beforeV b a)]; walk_at "s"
  · show Run cf _ _ (.bool (beforeV b a)) _; rw [← t (beforeV b a)]; walk_at "s"
  · show Run cf _ _ (.bool (!beforeV a b)) _; rw [← f (beforeV a b)]; walk_at "s"
theorem does_tail (B : BC P) (n : Nat) {w : String} (hw : w ∈ words) {a b t r : D} (ha : a.isCell = true) (hb : b.isCell = true) :
    Run (callN P X (n + 1)) (fn_does.body.drop 4) [("test", (false, t)), ("row", (false, r)), ("one", (false, a)), ("other", (false, b)), ("word", (false, .str (Str.ofString w)))] (.bool (wordV w a b)) false := by
  have q1 := alike_eq (X := X) B n a b ha hb
  have q3 := before_eq (X := X) B n a b ha hb
  have q4 := before_eq (X := X) B n b a hb ha
  have t1 := tri ha hb
  have t2 := tri hb ha
  rw [alike_comm hb ha] at t2
  generalize callN P X (n + 1) = cf at *
  rcases words_or hw with rfl | rfl | rfl | rfl | rfl | rfl
  · show Run cf _ _ (.bool (alikeV a b)) _; walk_at "s"
  · show Run cf _ _ (.bool (!alikeV a b)) _; walk_at "s"
  · show Run cf _ _ (.bool (beforeV a b)) _; walk_at "s"
  · show Run cf _ _ (.bool (!beforeV b a)) _; rw [← t2]; walk_at "s"
  · show Run cf _ _ (.bool (beforeV b a)) _; walk_at "s"
  · show Run cf _ _ (.bool (!beforeV a b)) _; rw [← t1]; walk_at "s"
theorem r_norm {cf : CF} {r : List MS} {σ σ' : St} {d : D} {fr : Bool} (h : σ = σ') (k : Run cf r σ' d fr) : Run cf r σ d fr := h ▸ k
theorem getD_at {row : List D} {p : Nat} (h : p < row.length) : subD (.tup row) (.int p) = some (row.getD p .none) := sub_t h (by rw [List.getD_eq_getElem?_getD, List.getElem?_eq_getElem h]; rfl)
theorem does_eq (B : BC P) (n : Nat) {row : List D} (hr : ∀ d ∈ row, Good d) {t : D} (ht : Tst row.length t) : (callN P X (n + 2)).call "does" [t, .tup row] = some (.bool (tV row t), false) := by
  obtain ⟨w, p, hw, hp, hcase⟩ := ht
  have ha := (Good.getD hr hp).cell
  have h1 := getD_at hp
  rcases hcase with ⟨q, hq, rfl⟩ | ⟨o, ho, rfl⟩
  · have e1 := tV_tst row hw p "col" (.int q)
    have e2 : othV row (if "col" == "col" then "col" else "is") (.int q) = row.getD q .none := rfl
    rw [e2] at e1
    rw [e1]
    have hb := (Good.getD hr hq).cell
    have h2 := getD_at hq
    refine run_call B.does rfl ?_
    have tl := does_tail (X := X) (t := tst w p "col" (.int q)) (r := .tup row) B n hw ha hb
    generalize row.getD p .none = a at *
    generalize row.getD q .none = b at *
    generalize callN P X (n + 1) = cf at *
    iterate 4 (first | (apply r_step; (focus (first | ((with_reducible apply p_cell); (focus (walk_at "v"; done)); (with_reducible assumption)) | ((with_reducible apply p_assign); walk_at "v"; done)))) | (apply r_if; (focus (walk_at "v"; done)); (focus (exact rfl)); rotate_left; (focus (intro hh; exact absurd hh (by decide))); intro _; (apply r_step; (focus ((with_reducible apply p_cell); (focus (walk_at "v"; done)); (with_reducible assumption))))))
    exact r_norm rfl tl
  · have e1 := tV_tst row hw p "is" o
    have e2 : othV row (if "is" == "col" then "col" else "is") o = o := rfl
    rw [e2] at e1
    rw [e1]
    have ho' := ho.cell
    refine run_call B.does rfl ?_
    have tl := does_tail (X := X) (t := tst w p "is" o) (r := .tup row) B n hw ha ho'
    generalize row.getD p .none = a at *
    generalize callN P X (n + 1) = cf at *
    iterate 4 (first | (apply r_step; (focus (first | ((with_reducible apply p_cell); (focus (walk_at "v"; done)); (with_reducible assumption)) | ((with_reducible apply p_assign); walk_at "v"; done)))) | (apply r_if; (focus (walk_at "v"; done)); (focus (exact rfl)); (focus (intro hh; exact absurd hh (by decide))); intro _))
    exact r_norm rfl tl
theorem holds_eq (B : BC P) (n : Nat) {row : List D} (hr : ∀ d ∈ row, Good d) {ts : List D} (ht : ∀ t ∈ ts, Tst row.length t) : (callN P X (n + 3)).call "holds" [.tup ts, .tup row] = some (.bool (ts.any (tV row)), false) := by
  have dd := fun it hit => does_eq (X := X) B n hr (ht it hit)
  refine run_call B.holds rfl ?_
  generalize callN P X (n + 2) = cf at *
  obtain ⟨σ', k1, k2⟩ := loop_find (cf := cf) (body := [.ite (.call "does" [.var "test", .var "row"]) [.ret (.bool true)] []]) (z := "test") (tV row) (fun σ => ∃ l, σ = ("clause", (false, .tup ts)) :: ("row", (false, .tup row)) :: l) false (.bool true) ts (by
    rintro it hit σ ⟨l, rfl⟩
    have d1 := dd it hit
    refine o_norm (σ' := ("clause", (false, .tup ts)) :: ("row", (false, .tup row)) :: setv l "test" (false, it)) rfl ?_
    have hv : evE cf (vis (("clause", (false, .tup ts)) :: ("row", (false, .tup row)) :: setv l "test" (false, it))) (.var "test") = some it := by
      rw [e_var, lookup_vis]; show ((setv l "test" (false, it)).lookup "test").map _ = _; rw [lookup_setv]; rfl
    walk_at "o"
    all_goals (rename_i hh; first | exact leaf_t hh rfl | exact leaf_f hh ⟨rfl, _, rfl⟩)) [("clause", (false, .tup ts)), ("row", (false, .tup row))] ⟨[], rfl⟩
  cases hb : ts.any (tV row) with
  | true => exact r_forR (σ' := σ') (x := .tup ts) (its := ts) rfl rfl (k1 hb)
  | false => exact r_for (σ' := σ') (x := .tup ts) (its := ts) rfl rfl (k2 hb).2 (r_ret (v_map (e_bool _ _ _) rfl rfl) rfl)
theorem lholds_eq (B : BC P) (n : Nat) {row : List D} (hr : ∀ d ∈ row, Good d) {ts : List D} (ht : ∀ t ∈ ts, Tst row.length t) : (callN P X (n + 3)).call "_law_holds" [.tup ts, .tup row] = some (.bool (ts.any (tV row)), false) := by
  refine run_call B.lholds rfl ?_
  obtain ⟨σ', k1, k2⟩ := loop_find (cf := callN P X (n + 2)) (body := [.assign "_law_other" (.sub (.var "_law_test") (.int 3)), .ite (.cmp .Eq (.sub (.var "_law_test") (.int 2)) (.str "col")) [.assign "_law_other" (.sub (.var "_law_row") (.sub (.var "_law_test") (.int 3)))] [], .ite (.call "_law_stands" [.sub (.var "_law_test") (.int 0), .sub (.var "_law_row") (.sub (.var "_law_test") (.int 1)), .var "_law_other"]) [.ret (.bool true)] []]) (z := "_law_test") (tV row)
      (fun σ => σ = [("_law_clause", (false, .tup ts)), ("_law_row", (false, .tup row))] ∨ ∃ u v, σ = [("_law_clause", (false, .tup ts)), ("_law_row", (false, .tup row)), ("_law_test", u), ("_law_other", v)]) false (.bool true) ts (by
    intro it hit σ hσ
    obtain ⟨w, p, hw, hp, hcase⟩ := ht it hit
    have ha := (Good.getD hr hp).cell
    have h1 := getD_at hp
    rcases hcase with ⟨q, hq, rfl⟩ | ⟨o, ho, rfl⟩
    · have hb := (Good.getD hr hq).cell
      have h2 := getD_at hq
      have s1 := stands_eq (X := X) B n hw ha hb
      have e1 := tV_tst row hw p "col" (.int q)
      have e2 : othV row (if "col" == "col" then "col" else "is") (.int q) = row.getD q .none := rfl
      rw [e2] at e1
      rw [e1]
      clear e1 e2 hit ht hr
      generalize row.getD p .none = a at *
      generalize row.getD q .none = b at *
      generalize callN P X (n + 2) = cf at *
      generalize wordV w a b = k at *
      unfold tst
      rcases hσ with rfl | ⟨u, v, rfl⟩ <;> walk_at "o"
      all_goals (rename_i hh; first | exact leaf_t hh rfl | exact leaf_f hh ⟨rfl, .inr ⟨_, _, rfl⟩⟩)
    · have hb := ho.cell
      have s1 := stands_eq (X := X) B n hw ha hb
      have e1 := tV_tst row hw p "is" o
      have e2 : othV row (if "is" == "col" then "col" else "is") o = o := rfl
      rw [e2] at e1
      rw [e1]
      clear e1 e2 hit ht hr ho
      generalize row.getD p .none = a at *
      generalize callN P X (n + 2) = cf at *
      generalize wordV w a o = k at *
      unfold tst
      rcases hσ with rfl | ⟨u, v, rfl⟩ <;> walk_at "o"
      all_goals (rename_i hh; first | exact leaf_t hh rfl | exact leaf_f hh ⟨rfl, .inr ⟨_, _, rfl⟩⟩)) [("_law_clause", (false, .tup ts)), ("_law_row", (false, .tup row))] (.inl rfl)
  cases hb : ts.any (tV row) with
  | true => exact r_forR (σ' := σ') (x := .tup ts) (its := ts) rfl rfl (k1 hb)
  | false => exact r_for (σ' := σ') (x := .tup ts) (its := ts) rfl rfl (k2 hb).2 (r_ret (v_map (e_bool _ _ _) rfl rfl) rfl)
end
end Mine

namespace Mine
open PySem
set_option maxRecDepth 100000
set_option maxHeartbeats 400000
noncomputable def fn_law_cell_is : Fn := ⟨["_law_found", "_law_due_here"], [
    .ite (.bop .Or [.isi (.var "_law_due_here") "str", .isi (.var "_law_found") "bool"]) [.ret (.bop .And [.isi (.var "_law_found") "str", .isi (.var "_law_due_here") "str", .cmp .Eq (.var "_law_found") (.var "_law_due_here")])] [],
    .ret (.bop .And [.isi (.var "_law_found") "int", .cmp .Eq (.var "_law_found") (.var "_law_due_here")])]⟩
noncomputable def fn_once : Fn := ⟨["rows"], [
    .assign "known" (.dct [] []),
    .assign "found" (.lst []),
    .for_ "row" (.var "rows") [.ite (.cmp .NotIn (.var "row") (.var "known")) [.setk "known" (.var "row") (.bool true), .append "found" (.var "row")] []],
    .ret (.var "found")]⟩
noncomputable def fn_cells_at : Fn := ⟨["row", "places"], [
    .ret (.blt "tuple" [.comp (.sub (.var "row") (.var "place")) "place" (.var "places") []])]⟩
noncomputable def fn_keeps : Fn := ⟨["clauses", "row"], [
    .for_ "clause" (.var "clauses") [.ite (.not (.call "holds" [.var "clause", .var "row"])) [.ret (.bool false)] []],
    .ret (.bool true)]⟩
noncomputable def fn_law_row_is : Fn := ⟨["_law_found", "_law_due_here"], [
    .ite (.bop .Or [.not (.isi (.var "_law_found") "tuple"), .cmp .NotEq (.blt "len" [.var "_law_found"]) (.blt "len" [.var "_law_due_here"])]) [.ret (.bool false)] [],
    .ret (.not (.comp (.var "_law_k") "_law_k" (.blt "range" [.blt "len" [.var "_law_due_here"]]) [.not (.call "_law_cell_is" [.sub (.var "_law_found") (.var "_law_k"), .sub (.var "_law_due_here") (.var "_law_k")])]))]⟩
noncomputable def fn_stepped : Fn := ⟨["query", "rows"], [
    .assign "word" (.sub (.var "query") (.int 0)),
    .ite (.cmp .Eq (.var "word") (.str "sieve")) [.ret (.comp (.var "row") "row" (.var "rows") [.call "keeps" [.sub (.var "query") (.int 1), .var "row"]])] [],
    .ite (.cmp .Eq (.var "word") (.str "pick")) [.ret (.comp (.call "cells_at" [.var "row", .sub (.var "query") (.int 1)]) "row" (.var "rows") [])] [],
    .ite (.cmp .Eq (.var "word") (.str "group")) [.bad] [],
    .ite (.cmp .Eq (.var "word") (.str "order")) [.bad] [],
    .ite (.cmp .Eq (.var "word") (.str "once")) [.ret (.call "once" [.var "rows"])] [],
    .ret (.sl (.var "rows") .none (.sub (.var "query") (.int 1)))]⟩
noncomputable def fn_law_rows_by : Fn := ⟨["_law_cell", "_law_wide", "_law_many_here"], [
    .assign "_law_rows" (.lst []),
    .for_ "_law_at" (.blt "range" [.var "_law_many_here"]) [.assign "_law_like" (.bin .Sub (.var "_law_at") (.bin .FloorDiv (.bin .Mod (.var "_law_at") (.int 3)) (.int 2))), .ite (.cmp .Eq (.bin .Mod (.var "_law_at") (.int 5)) (.int 4)) [.assign "_law_like" (.int 0)] [], .append "_law_rows" (.blt "tuple" [.comp (.call "_law_thing_by" [.call "_law_mixed" [.var "_law_cell", .bin .Add (.bin .Mult (.int 13) (.var "_law_like")) (.var "_law_k")]]) "_law_k" (.blt "range" [.var "_law_wide"]) []])],
    .ret (.var "_law_rows")]⟩
noncomputable def fn_law_rows_of : Fn := ⟨["_law_cell"], [
    .ret (.sub (.lst [.int 5, .int 7, .int 4, .int 8, .int 6, .int 2, .int 0]) (.bin .Mod (.bin .FloorDiv (.var "_law_cell") (.int 5)) (.int 7)))]⟩
noncomputable def fn_law_stayed : Fn := ⟨["_law_handed", "_law_tables"], [
    .ite (.cmp .NotEq (.lcp (.var "_law_handed")) (.lcp (.var "_law_tables"))) [.ret (.bool false)] [],
    .ret (.not (.comp (.var "_law_name") "_law_name" (.lcp (.var "_law_tables")) [.not (.call "_law_rows_are" [.sub (.var "_law_handed") (.var "_law_name"), .sub (.var "_law_tables") (.var "_law_name")])]))]⟩
noncomputable def fn_law_rows_are : Fn := ⟨["_law_found", "_law_due_here"], [
    .ite (.bop .Or [.not (.isi (.var "_law_found") "list"), .cmp .NotEq (.blt "len" [.var "_law_found"]) (.blt "len" [.var "_law_due_here"])]) [.ret (.bool false)] [],
    .ret (.not (.comp (.var "_law_k") "_law_k" (.blt "range" [.blt "len" [.var "_law_due_here"]]) [.not (.call "_law_row_is" [.sub (.var "_law_found") (.var "_law_k"), .sub (.var "_law_due_here") (.var "_law_k")])]))]⟩
noncomputable def fn_law_due : Fn := ⟨["_law_word", "_law_thing", "_law_rows"], [
    .ite (.cmp .Eq (.var "_law_word") (.int 0)) [.ret (.comp (.var "_law_row") "_law_row" (.var "_law_rows") [.not (.comp (.var "_law_one") "_law_one" (.var "_law_thing") [.not (.call "_law_holds" [.var "_law_one", .var "_law_row"])])])] [],
    .ite (.cmp .Eq (.var "_law_word") (.int 1)) [.ret (.comp (.blt "tuple" [.comp (.sub (.var "_law_row") (.var "_law_place")) "_law_place" (.var "_law_thing") []]) "_law_row" (.var "_law_rows") [])] [],
    .ite (.cmp .Eq (.var "_law_word") (.int 2)) [.ret (.sl (.var "_law_rows") .none (.var "_law_thing"))] [],
    .ite (.cmp .Eq (.var "_law_word") (.int 4)) [.ret (.var "_law_rows")] [],
    .ite (.cmp .Eq (.var "_law_word") (.int 5)) [.ret (.bin .Add (.var "_law_rows") (.comp (.var "_law_row") "_law_row" (.var "_law_rows") [.not (.comp (.var "_law_one") "_law_one" (.var "_law_thing") [.not (.call "_law_holds" [.var "_law_one", .var "_law_row"])])]))] [],
    .assign "_law_found" (.lst []),
    .for_ "_law_row" (.var "_law_rows") [.ite (.not (.comp (.var "_law_one") "_law_one" (.var "_law_found") [.not (.comp (.var "_law_k") "_law_k" (.blt "range" [.blt "len" [.var "_law_row"]]) [.not (.call "_law_alike" [.sub (.var "_law_one") (.var "_law_k"), .sub (.var "_law_row") (.var "_law_k")])])])) [.append "_law_found" (.var "_law_row")] []],
    .ret (.var "_law_found")]⟩
noncomputable def fn_answer : Fn := ⟨["query", "tables"], [
    .assign "word" (.sub (.var "query") (.int 0)),
    .ite (.cmp .NotIn (.var "word") (.glob "STEPS")) [.bad] [],
    .ite (.cmp .Eq (.var "word") (.str "table")) [.ite (.cmp .NotIn (.sub (.var "query") (.int 1)) (.var "tables")) [.bad] [], .ret (.lcp (.sub (.var "tables") (.sub (.var "query") (.int 1))))] [],
    .ite (.cmp .Eq (.var "word") (.str "join")) [.assign "first" (.call "answer" [.sub (.var "query") (.int 1), .var "tables"]), .bad] [],
    .ite (.cmp .Eq (.var "word") (.str "both")) [.assign "first" (.call "answer" [.sub (.var "query") (.int 1), .var "tables"]), .ret (.bin .Add (.var "first") (.call "answer" [.sub (.var "query") (.int 2), .var "tables"]))] [],
    .ret (.call "stepped" [.var "query", .call "answer" [.sub (.var "query") (.neg (.int 1)), .var "tables"]])]⟩
noncomputable def fn_law_copied : Fn := ⟨["_law_tables"], [
    .assign "_law_made" (.dct [] []),
    .for_ "_law_name" (.lcp (.var "_law_tables")) [.setk "_law_made" (.var "_law_name") (.lcp (.sub (.var "_law_tables") (.var "_law_name")))],
    .ret (.var "_law_made")]⟩
noncomputable def fn_law_many : Fn := ⟨["_law_cell"], [
    .ite (.cmp .Eq (.bin .Mod (.bin .FloorDiv (.var "_law_cell") (.int 4)) (.int 9)) (.int 1)) [.ret (.bin .Mod (.bin .FloorDiv (.var "_law_cell") (.int 36)) (.int 13))] [],
    .ret (.bin .Mod (.var "_law_cell") (.int 4))]⟩
noncomputable def fn_law_clauses_by : Fn := ⟨["_law_cell", "_law_many_here"], [
    .assign "_law_count" (.sub (.lst [.int 0, .int 1, .int 1, .int 2]) (.bin .Mod (.var "_law_cell") (.int 4))),
    .ite (.cmp .Eq (.bin .Mod (.bin .FloorDiv (.var "_law_cell") (.int 4)) (.int 9)) (.int 1)) [.assign "_law_count" (.bin .Mod (.bin .FloorDiv (.var "_law_cell") (.int 36)) (.int 13))] [],
    .ret (.blt "tuple" [.comp (.call "_law_clause_by" [.call "_law_mixed" [.var "_law_cell", .bin .Add (.int 20) (.var "_law_k")], .var "_law_many_here"]) "_law_k" (.blt "range" [.var "_law_count"]) []])]⟩
noncomputable def fn_law_table_by : Fn := ⟨["_law_script", "_law_k"], [
    .assign "_law_cell" (.call "_law_cell_at" [.var "_law_script", .var "_law_k"]),
    .assign "_law_many_here" (.call "_law_rows_of" [.var "_law_cell"]),
    .ite (.cmp .Eq (.bin .Mod (.bin .FloorDiv (.var "_law_cell") (.int 35)) (.int 6)) (.int 1)) [.assign "_law_many_here" (.bin .Mod (.bin .FloorDiv (.var "_law_cell") (.int 210)) (.int 70))] [],
    .ret (.call "_law_rows_by" [.call "_law_cell_at" [.var "_law_script", .bin .Add (.var "_law_k") (.int 1)], .call "_law_wide_by" [.var "_law_cell"], .var "_law_many_here"])]⟩
noncomputable def fn_law_wide_by : Fn := ⟨["_law_cell"], [
    .ite (.cmp .Eq (.bin .Mod (.bin .FloorDiv (.var "_law_cell") (.int 35)) (.int 6)) (.int 2)) [.ret (.bin .Mod (.bin .FloorDiv (.var "_law_cell") (.int 210)) (.int 13))] [],
    .ret (.sub (.lst [.int 2, .int 1, .int 3, .int 2, .int 0]) (.bin .Mod (.var "_law_cell") (.int 5)))]⟩
noncomputable def fn_law : Fn := ⟨["_law_script"], [
    .assign "_law_wide" (.call "_law_wide_by" [.call "_law_cell_at" [.var "_law_script", .int 0]]),
    .assign "_law_rows" (.call "_law_table_by" [.var "_law_script", .int 0]),
    .assign "_law_cell" (.call "_law_cell_at" [.var "_law_script", .int 3]),
    .assign "_law_word" (.bin .Mod (.call "_law_cell_at" [.var "_law_script", .int 2]) (.int 6)),
    .assign "_law_thing" (.bin .Add (.call "_law_clauses_by" [.var "_law_cell", .var "_law_wide"]) (.call "_law_clauses_by" [.bin .Add (.bin .Mult (.bin .FloorDiv (.call "_law_mixed" [.var "_law_cell", .int 4]) (.int 4)) (.int 4)) (.int 3), .var "_law_wide"])),
    .assign "_law_name" (.bin .Add (.str "t") (.call "_law_sign_by" [.call "_law_cell_at" [.var "_law_script", .int 4]])),
    .assign "_law_query" (.tup [.str "table", .var "_law_name"]),
    .ite (.cmp .Eq (.var "_law_word") (.int 0)) [.assign "_law_query" (.tup [.str "sieve", .var "_law_thing", .var "_law_query"])] [],
    .ite (.cmp .Eq (.var "_law_word") (.int 1)) [.assign "_law_thing" (.blt "tuple" [.comp (.bin .Mod (.call "_law_mixed" [.var "_law_cell", .var "_law_k"]) (.blt "max" [.int 1, .var "_law_wide"])) "_law_k" (.blt "range" [.bin .Mult (.call "_law_many" [.var "_law_cell"]) (.blt "min" [.int 1, .var "_law_wide"])]) []]), .assign "_law_query" (.tup [.str "pick", .var "_law_thing", .var "_law_query"])] [],
    .ite (.cmp .Eq (.var "_law_word") (.int 2)) [.assign "_law_thing" (.bin .Mod (.var "_law_cell") (.int 76)), .ite (.cmp .Eq (.bin .Mod (.bin .FloorDiv (.var "_law_cell") (.int 76)) (.int 5)) (.int 1)) [.assign "_law_thing" (.bin .Mod (.bin .FloorDiv (.var "_law_cell") (.int 380)) (.bin .Pow (.int 10) (.int 40)))] [], .assign "_law_query" (.tup [.str "first", .var "_law_thing", .var "_law_query"])] [],
    .ite (.cmp .Eq (.var "_law_word") (.int 3)) [.assign "_law_query" (.tup [.str "once", .var "_law_query"])] [],
    .ite (.cmp .Eq (.var "_law_word") (.int 5)) [.assign "_law_query" (.tup [.str "both", .var "_law_query", .tup [.str "sieve", .var "_law_thing", .var "_law_query"]])] [],
    .assign "_law_tables" (.dct [.var "_law_name", .str "other"] [.var "_law_rows", .lst [.tup [.int 1]]]),
    .assign "_law_handed" (.call "_law_copied" [.var "_law_tables"]),
    .assign "_law_found" (.call "answer" [.var "_law_query", .var "_law_handed"]),
    .assign "_law_due_here" (.call "_law_due" [.var "_law_word", .var "_law_thing", .var "_law_rows"]),
    .ite (.not (.call "_law_rows_are" [.var "_law_found", .var "_law_due_here"])) [.ret (.bool false)] [],
    .append "_law_found" (.tup [.str "more"]),
    .ret (.bop .And [.call "_law_stayed" [.var "_law_handed", .var "_law_tables"], .call "_law_rows_are" [.call "answer" [.var "_law_query", .var "_law_handed"], .var "_law_due_here"]])]⟩
noncomputable def PP : List (String × Fn) := [("before", fn_before), ("alike", fn_alike), ("does", fn_does), ("_law_before", fn_law_before), ("holds", fn_holds), ("_law_cell_is", fn_law_cell_is), ("_law_stands", fn_law_stands), ("once", fn_once), ("cells_at", fn_cells_at), ("keeps", fn_keeps), ("_law_one_by", fn_law_one_by), ("_law_thing_by", fn_law_thing_by), ("_law_row_is", fn_law_row_is), ("_law_alike", fn_law_alike), ("_law_holds", fn_law_holds), ("stepped", fn_stepped), ("_law_clause_by", fn_law_clause_by), ("_law_rows_by", fn_law_rows_by), ("_law_rows_of", fn_law_rows_of), ("_law_stayed", fn_law_stayed), ("_law_rows_are", fn_law_rows_are), ("_law_due", fn_law_due), ("answer", fn_answer), ("_law_copied", fn_law_copied), ("_law_many", fn_law_many), ("_law_sign_by", fn_law_sign_by), ("_law_mixed", fn_law_mixed), ("_law_clauses_by", fn_law_clauses_by), ("_law_table_by", fn_law_table_by), ("_law_cell_at", fn_law_cell_at), ("_law_wide_by", fn_law_wide_by), ("law", fn_law)]
noncomputable def steps : List D := [.str (Str.ofString "table"), .str (Str.ofString "sieve"), .str (Str.ofString "pick"), .str (Str.ofString "join"), .str (Str.ofString "group"), .str (Str.ofString "order"), .str (Str.ofString "both"), .str (Str.ofString "once"), .str (Str.ofString "first")]
noncomputable def X4 : CF := ⟨fun _ _ => none, fun x => if x = "STEPS" then some (.tup steps) else none⟩
theorem bg : BG PP := ⟨rfl, rfl, rfl, rfl, rfl, rfl⟩
theorem bc : BC PP := ⟨rfl, rfl, rfl, rfl, rfl, rfl, rfl, rfl⟩
local macro_rules | `(tactic| walk_at "v") => `(tactic| repeat' (first | (with_reducible assumption) | (with_reducible exact e_int _ _ _) | (with_reducible exact e_str _ _ _) | (with_reducible exact e_bool _ _ _) | (with_reducible exact e_none _ _) | (with_reducible exact es_nil _ _) | ((with_reducible refine (e_var _ _ _).trans ?_); exact rfl) | (with_reducible apply v_cons) | (with_reducible apply v_bin) | (with_reducible exact b_add) | (with_reducible exact b_sb) | (with_reducible apply b_mod) | (with_reducible apply b_div) | ((with_reducible apply b_mulL); (focus decide)) | (with_reducible apply b_mul) | (with_reducible apply v_cmp) | (with_reducible apply v_sub) | (with_reducible apply v_sl) | (with_reducible apply v_not) | (with_reducible apply v_isi) | (with_reducible apply v_blt) | (with_reducible apply v_tup) | (with_reducible apply v_lst) | (with_reducible apply v_lcp) | (with_reducible apply v_callE) | (with_reducible apply v_call) | (with_reducible apply v_bop1) | ((with_reducible apply v_and); rotate_left; intro _; rotate_right) | ((with_reducible apply v_or); rotate_left; intro _; rotate_right) | (with_reducible apply v_map) | ((with_reducible show cmpD _ _ _ = _); exact rfl) | ((with_reducible show truth _ = _); exact rfl) | ((with_reducible show isiD _ _ = _); exact rfl) | ((with_reducible show frF _ _ = _); exact rfl) | ((with_reducible show isCallE _ = _); exact rfl) | ((with_reducible show bltD _ _ = _); exact rfl) | ((with_reducible show lstD _ = _); exact rfl) | ((with_reducible show subD _ _ = _); exact rfl) | decide | exact Nat.le_of_ble_eq_true rfl))
local macro_rules | `(tactic| walk_at "s") => `(tactic| repeat' (first | (apply r_step; (focus (first | ((with_reducible apply p_cell); (focus (walk_at "v"; done)); (with_reducible assumption)) | ((with_reducible apply p_assign); walk_at "v"; done)))) | (apply r_if; (focus (walk_at "v"; done)); (focus (exact rfl)); (focus (intro hh; first | exact no_tf hh (by assumption) | exact absurd hh (by decide) | skip)); rotate_left; (focus (intro hh; first | exact no_tf (by assumption) hh | exact absurd hh (by decide) | skip))) | (apply r_retv; (focus (exact rfl))) | (apply r_ret; (focus (walk_at "v"; done)); (focus (exact rfl)))))
local macro_rules | `(tactic| walk_at "q") => `(tactic| repeat' (first | (apply q_step; (focus (first | ((with_reducible apply p_cell); (focus (walk_at "v"; done)); (with_reducible assumption)) | ((with_reducible apply p_assign); walk_at "v"; done)))) | (apply q_if; (focus (walk_at "v"; done)); (focus (exact rfl)); (focus (intro hh; first | exact no_tf hh (by assumption) | exact absurd hh (by decide) | skip)); rotate_left; (focus (intro hh; first | exact no_tf (by assumption) hh | exact absurd hh (by decide) | skip))) | (apply q_retv; (focus (exact rfl))) | (apply q_ret; (focus (walk_at "v"; done)); (focus (exact rfl)))))
local macro_rules | `(tactic| walk_at "o") => `(tactic| repeat' (first | (apply o_step; (focus (first | ((with_reducible apply p_cell); (focus (walk_at "v"; done)); (with_reducible assumption)) | ((with_reducible apply p_assign); walk_at "v"; done)))) | (apply o_if; (focus (walk_at "v"; done)); (focus (exact rfl)); (focus (intro hh; first | exact no_tf hh (by assumption) | exact absurd hh (by decide) | skip)); rotate_left; (focus (intro hh; first | exact no_tf (by assumption) hh | exact absurd hh (by decide) | skip))) | (apply o_ret; (focus (walk_at "v"; done)); (focus (exact rfl))) | apply o_nil))
theorem compM_filter (f : D → Option (Option D)) (p : D → Bool) : ∀ (its : List D), (∀ it ∈ its, f it = some (if p it = true then some it else none)) → compM f its = some (its.filter p)
  | [], _ => rfl
  | it :: r, h => by
    rw [compM, h it (.head _)]
    show (match compM f r with | none => none | some ds => _) = _
    rw [compM_filter f p r fun i hi => h i (.tail _ hi)]
    cases hp : p it <;> simp [hp]
theorem compF_one {cf : CF} {ρ : List (String × D)} {elt c : ME} {x : String} {it y d : D} {k : Bool} (hc : evE cf ((x, it) :: ρ) c = some d) (ht : truth d = some k) (he : k = true → evE cf ((x, it) :: ρ) elt = some y) : compF cf ρ elt x [c] it = some (if k = true then some y else none) := by
  have e : evCs cf ((x, it) :: ρ) [c] = some k := by
    show (match evE cf ((x, it) :: ρ) c with | some d => (match truth d with | some t => if t then some true else some false | none => none) | none => none) = _
    rw [hc]; show (match truth d with | some t => _ | none => _) = _; rw [ht]; cases k <;> rfl
  unfold compF; rw [e]
  cases k with
  | true => show (match evE cf ((x, it) :: ρ) elt with | some y => _ | none => _) = _; rw [he rfl]; rfl
  | false => rfl
/-- rows of m cells -/
noncomputable def Row (m : Nat) (r : D) : Prop := ∃ cs, r = .tup cs ∧ cs.length = m ∧ ∀ d ∈ cs, Good d
noncomputable def Rows (m : Nat) (rows : List D) : Prop := ∀ r ∈ rows, Row m r
noncomputable def wideV (c : Int) : Nat := if (c / 35 % 6 == 2) = true then (c / 210 % 13).toNat else [2, 1, 3, 2, 0].getD (c % 5).toNat 0
theorem wide_le (c : Int) : wideV c ≤ 12 := by
  unfold wideV
  split
  · omega
  · obtain ⟨m, e, hm⟩ := emod_nat c (k := 5) (by decide)
    have e : c % 5 = m := e
    rw [e, Int.toNat_natCast]
    exact (by decide : ∀ m < 5, [2, 1, 3, 2, 0].getD m 0 ≤ 12) m hm
section
variable {X : CF}
theorem wide_by (n : Nat) (c : Int) : (callN PP X (n + 1)).call "_law_wide_by" [.int c] = some (.int (wideV c), false) := by
  refine run_call (by rfl : PP.lookup "_law_wide_by" = some fn_law_wide_by) rfl ?_
  unfold wideV
  cases h : (c / 35 % 6 == 2) with
  | true =>
    rw [if_pos rfl]
    have e : ((c / 210 % 13).toNat : Int) = c / 210 % 13 := by omega
    rw [e]
    walk_at "s"
  | false =>
    rw [if_neg Bool.false_ne_true]
    obtain ⟨m, e, hm⟩ := emod_nat c (k := 5) (by decide)
    have e : c % 5 = m := e
    have q : subD (.list [.int 2, .int 1, .int 3, .int 2, .int 0]) (.int (c % 5)) = some (.int ([2, 1, 3, 2, 0].getD (c % 5).toNat 0 : Nat)) := by
      rw [e, Int.toNat_natCast]
      refine sub_l (by simpa using hm) ?_
      match m, hm with
      | 0, _ => rfl
      | 1, _ => rfl
      | 2, _ => rfl
      | 3, _ => rfl
      | 4, _ => rfl
    walk_at "s"
theorem rows_of (n : Nat) (c : Int) : ∃ m : Nat, m ≤ 8 ∧ (callN PP X (n + 1)).call "_law_rows_of" [.int c] = some (.int m, false) := by
  obtain ⟨d, ⟨m, rfl, hm⟩, q⟩ := list_pick (l := [.int 5, .int 7, .int 4, .int 8, .int 6, .int 2, .int 0]) (by decide) (c / 5) (R := fun d => ∃ m : Nat, d = .int m ∧ m ≤ 8) (by
    intro d hd
    simp only [List.mem_cons, List.not_mem_nil, or_false] at hd
    rcases hd with rfl | rfl | rfl | rfl | rfl | rfl | rfl <;> first | exact ⟨5, rfl, by decide⟩ | exact ⟨7, rfl, by decide⟩ | exact ⟨4, rfl, by decide⟩ | exact ⟨8, rfl, by decide⟩ | exact ⟨6, rfl, by decide⟩ | exact ⟨2, rfl, by decide⟩ | exact ⟨0, rfl, by decide⟩)
  have q : subD (.list [.int 5, .int 7, .int 4, .int 8, .int 6, .int 2, .int 0]) (.int (c / 5 % 7)) = some (.int m) := q
  refine ⟨m, hm, run_call (by rfl : PP.lookup "_law_rows_of" = some fn_law_rows_of) rfl ?_⟩
  walk_at "s"
theorem rows_by (n : Nat) (c : Int) (m k : Nat) (hm : m ≤ 12) (hk : k ≤ 70) : ∃ rows, Rows m rows ∧ rows.length ≤ 70 ∧ (callN PP X (n + 3)).call "_law_rows_by" [.int c, .int m, .int k] = some (.list rows, true) := by
  have hk' : k ≤ big := Nat.le_trans hk (by decide)
  obtain ⟨σ', ⟨rows, l, h1, h2, rfl⟩, h3⟩ := loop_inv (cf := callN PP X (n + 2)) (body := [.assign "_law_like" (.bin .Sub (.var "_law_at") (.bin .FloorDiv (.bin .Mod (.var "_law_at") (.int 3)) (.int 2))), .ite (.cmp .Eq (.bin .Mod (.var "_law_at") (.int 5)) (.int 4)) [.assign "_law_like" (.int 0)] [], .append "_law_rows" (.blt "tuple" [.comp (.call "_law_thing_by" [.call "_law_mixed" [.var "_law_cell", .bin .Add (.bin .Mult (.int 13) (.var "_law_like")) (.var "_law_k")]]) "_law_k" (.blt "range" [.var "_law_wide"]) []])]) (z := "_law_at")
    (fun a σ => ∃ rows l, Rows m rows ∧ rows.length = a.length ∧ σ = ("_law_cell", (false, .int c)) :: ("_law_wide", (false, .int m)) :: ("_law_many_here", (false, .int k)) :: ("_law_rows", (true, .list rows)) :: l) ((List.range k).map fun (i : Nat) => D.int (i : Int)) [] [("_law_cell", (false, .int c)), ("_law_wide", (false, .int m)), ("_law_many_here", (false, .int k)), ("_law_rows", (true, .list []))] ⟨[], [], (fun _ h => nomatch h), rfl, rfl⟩ (by
    rintro a it b σ hab ⟨rows, l, h1, h2, rfl⟩
    have hla : rows.length < big := by
      have := congrArg List.length hab
      simp at this
      have : rows.length < k := by omega
      omega
    obtain ⟨i, _, rfl⟩ : ∃ i : Nat, i ∈ List.range k ∧ D.int (i : Int) = it := List.mem_map.mp (by rw [List.nil_append] at hab; rw [hab]; simp)
    have tail : ∀ (L : Int) l, Out (callN PP X (n + 2)) [.append "_law_rows" (.blt "tuple" [.comp (.call "_law_thing_by" [.call "_law_mixed" [.var "_law_cell", .bin .Add (.bin .Mult (.int 13) (.var "_law_like")) (.var "_law_k")]]) "_law_k" (.blt "range" [.var "_law_wide"]) []])]
        (("_law_cell", (false, .int c)) :: ("_law_wide", (false, .int m)) :: ("_law_many_here", (false, .int k)) :: ("_law_rows", (true, .list rows)) :: setv l "_law_like" (false, .int L)) fun fl σ' => fl = .next ∧ ∃ rows l, Rows m rows ∧ rows.length = (a ++ [D.int (i : Int)]).length ∧ σ' = ("_law_cell", (false, .int c)) :: ("_law_wide", (false, .int m)) :: ("_law_many_here", (false, .int k)) :: ("_law_rows", (true, .list rows)) :: l := by
      intro L l
      have hv : ∀ (i : Nat), evE (callN PP X (n + 2)) (("_law_k", .int i) :: vis (("_law_cell", (false, .int c)) :: ("_law_wide", (false, .int m)) :: ("_law_many_here", (false, .int k)) :: ("_law_rows", (true, .list rows)) :: setv l "_law_like" (false, .int L))) (.var "_law_like") = some (.int L) := by
        intro i; rw [e_var]; show (vis (setv l "_law_like" (false, .int L))).lookup "_law_like" = _; rw [lookup_vis, lookup_setv]; rfl
      obtain ⟨cs, q1, q2, q3⟩ := v_rows (cf := callN PP X (n + 2)) (ρ := vis (("_law_cell", (false, .int c)) :: ("_law_wide", (false, .int m)) :: ("_law_many_here", (false, .int k)) :: ("_law_rows", (true, .list rows)) :: setv l "_law_like" (false, .int L))) (elt := .call "_law_thing_by" [.call "_law_mixed" [.var "_law_cell", .bin .Add (.bin .Mult (.int 13) (.var "_law_like")) (.var "_law_k")]]) (z := "_law_k") (src := .var "_law_wide") (k := m) (Nat.le_trans hm (by decide)) Good rfl (by
        intro i _
        have hv' := hv i
        obtain ⟨r, _, hr⟩ := mixed (X := X) bg (n + 1) c (13 * L + i)
        obtain ⟨d, gd, hd⟩ := thing_by (X := X) bg n r
        exact ⟨d, gd, by walk_at "v"⟩)
      refine o_step (p_append q3 rfl hla) (o_nil ⟨rfl, rows ++ [.tup cs], _, ?_, ?_, rfl⟩)
      · intro r hr
        rcases List.mem_append.mp hr with hr | hr
        · exact h1 r hr
        · exact ⟨cs, List.mem_singleton.mp hr, q1, q2⟩
      · simp [h2]
    have hv : evE (callN PP X (n + 2)) (vis (("_law_cell", (false, .int c)) :: ("_law_wide", (false, .int m)) :: ("_law_many_here", (false, .int k)) :: ("_law_rows", (true, .list rows)) :: setv l "_law_at" (false, .int i))) (.var "_law_at") = some (.int i) := by
      rw [e_var]; show (vis (setv l "_law_at" (false, .int i))).lookup "_law_at" = _; rw [lookup_vis, lookup_setv]; rfl
    refine o_norm (σ' := ("_law_cell", (false, .int c)) :: ("_law_wide", (false, .int m)) :: ("_law_many_here", (false, .int k)) :: ("_law_rows", (true, .list rows)) :: setv l "_law_at" (false, .int i)) rfl ?_
    refine o_step (p_assign (d := .int (i - i % 3 / 2)) (fr := false) (by walk_at "v")) ?_
    have hv2 : evE (callN PP X (n + 2)) (vis (setv (settle (.int ((i : Int) - i % 3 / 2)) (ME.names (.bin .Sub (.var "_law_at") (.bin .FloorDiv (.bin .Mod (.var "_law_at") (.int 3)) (.int 2)))) (("_law_cell", (false, .int c)) :: ("_law_wide", (false, .int m)) :: ("_law_many_here", (false, .int k)) :: ("_law_rows", (true, .list rows)) :: setv l "_law_at" (false, .int i))) "_law_like" (false, .int (i - i % 3 / 2)))) (.var "_law_at") = some (.int i) := by
      rw [e_var]; show (vis (setv (setv l "_law_at" (false, .int i)) "_law_like" (false, .int (i - i % 3 / 2)))).lookup "_law_at" = _; rw [lookup_vis, lookup_setv, lookup_setv]; rfl
    refine o_if (k := (i : Int) % 5 == 4) (by walk_at "v") rfl (fun _ => ?_) fun _ => tail _ _
    exact o_step (p_assign (e_int _ _ _ |> fun h => v_map h rfl rfl)) (tail 0 _))
  refine ⟨rows, h1, by rw [h2]; simp; exact hk, run_call (by rfl : PP.lookup "_law_rows_by" = some fn_law_rows_by) rfl ?_⟩
  refine r_step (p_assign (v_map (v_lst (es_nil _ _) (Nat.zero_le _)) rfl rfl)) ?_
  refine r_for (x := .rng 0 k) (v_blt (v_cons (d := .int k) rfl (es_nil _ _)) (blt_rng hk')) (items_rng k) h3 ?_
  exact r_retv rfl
end
end Mine

namespace Mine
open PySem
set_option maxRecDepth 100000
set_option maxHeartbeats 400000
local macro_rules | `(tactic| walk_at "v") => `(tactic| repeat' (first | (with_reducible assumption) | (with_reducible exact e_int _ _ _) | (with_reducible exact e_str _ _ _) | (with_reducible exact e_bool _ _ _) | (with_reducible exact e_none _ _) | (with_reducible exact es_nil _ _) | ((with_reducible refine (e_var _ _ _).trans ?_); exact rfl) | (with_reducible apply v_cons) | (with_reducible apply v_bin) | (with_reducible exact b_add) | (with_reducible exact b_sb) | (with_reducible apply b_mod) | (with_reducible apply b_div) | ((with_reducible apply b_mulL); (focus decide)) | (with_reducible apply b_mul) | (with_reducible apply v_cmp) | (with_reducible apply v_sub) | (with_reducible apply v_sl) | (with_reducible apply v_not) | (with_reducible apply v_isi) | (with_reducible apply v_blt) | (with_reducible apply v_tup) | (with_reducible apply v_lst) | (with_reducible apply v_lcp) | (with_reducible apply v_callE) | (with_reducible apply v_call) | (with_reducible apply v_bop1) | ((with_reducible apply v_and); rotate_left; intro _; rotate_right) | ((with_reducible apply v_or); rotate_left; intro _; rotate_right) | (with_reducible apply v_map) | ((with_reducible show cmpD _ _ _ = _); exact rfl) | ((with_reducible show truth _ = _); exact rfl) | ((with_reducible show isiD _ _ = _); exact rfl) | ((with_reducible show frF _ _ = _); exact rfl) | ((with_reducible show isCallE _ = _); exact rfl) | ((with_reducible show bltD _ _ = _); exact rfl) | ((with_reducible show lstD _ = _); exact rfl) | ((with_reducible show subD _ _ = _); exact rfl) | decide | exact Nat.le_of_ble_eq_true rfl))
local macro_rules | `(tactic| walk_at "s") => `(tactic| repeat' (first | (apply r_step; (focus (first | ((with_reducible apply p_cell); (focus (walk_at "v"; done)); (with_reducible assumption)) | ((with_reducible apply p_assign); walk_at "v"; done)))) | (apply r_if; (focus (walk_at "v"; done)); (focus (exact rfl)); (focus (intro hh; first | exact no_tf hh (by assumption) | exact absurd hh (by decide) | skip)); rotate_left; (focus (intro hh; first | exact no_tf (by assumption) hh | exact absurd hh (by decide) | skip))) | (apply r_retv; (focus (exact rfl))) | (apply r_ret; (focus (walk_at "v"; done)); (focus (exact rfl)))))
local macro_rules | `(tactic| walk_at "q") => `(tactic| repeat' (first | (apply q_step; (focus (first | ((with_reducible apply p_cell); (focus (walk_at "v"; done)); (with_reducible assumption)) | ((with_reducible apply p_assign); walk_at "v"; done)))) | (apply q_if; (focus (walk_at "v"; done)); (focus (exact rfl)); (focus (intro hh; first | exact no_tf hh (by assumption) | exact absurd hh (by decide) | skip)); rotate_left; (focus (intro hh; first | exact no_tf (by assumption) hh | exact absurd hh (by decide) | skip))) | (apply q_retv; (focus (exact rfl))) | (apply q_ret; (focus (walk_at "v"; done)); (focus (exact rfl)))))
local macro_rules | `(tactic| walk_at "o") => `(tactic| repeat' (first | (apply o_step; (focus (first | ((with_reducible apply p_cell); (focus (walk_at "v"; done)); (with_reducible assumption)) | ((with_reducible apply p_assign); walk_at "v"; done)))) | (apply o_if; (focus (walk_at "v"; done)); (focus (exact rfl)); (focus (intro hh; first | exact no_tf hh (by assumption) | exact absurd hh (by decide) | skip)); rotate_left; (focus (intro hh; first | exact no_tf (by assumption) hh | exact absurd hh (by decide) | skip))) | (apply o_ret; (focus (walk_at "v"; done)); (focus (exact rfl))) | apply o_nil))
section
variable {X : CF}
theorem table_by (n : Nat) (ns : List Int) : ∃ rows, Rows (wideV (ns.getD 0 0)) rows ∧ rows.length ≤ 70 ∧ (callN PP X (n + 4)).call "_law_table_by" [.list (ns.map .int), .int 0] = some (.list rows, true) := by
  have c0 := cell_at (X := X) bg (n + 2) ns 0
  have c1 : (callN PP X (n + 3)).call "_law_cell_at" [.list (ns.map .int), .int (0 + 1)] = some (.int (ns.getD 1 0), false) := cell_at (X := X) bg (n + 2) ns 1
  have w0 := wide_by (X := X) (n + 2) (ns.getD 0 0)
  have hw := wide_le (ns.getD 0 0)
  have c0 : (callN PP X (n + 3)).call "_law_cell_at" [.list (ns.map .int), .int 0] = some (.int (ns.getD 0 0), false) := c0
  obtain ⟨m, hm, r0⟩ := rows_of (X := X) (n + 2) (ns.getD 0 0)
  obtain ⟨m2, e2, hm2⟩ := emod_nat (ns.getD 0 0 / 210) (k := 70) (by decide)
  have e2 : ns.getD 0 0 / 210 % 70 = m2 := e2
  obtain ⟨rows1, a1, a2, a3⟩ := rows_by (X := X) n (ns.getD 1 0) (wideV (ns.getD 0 0)) m hw (Nat.le_trans hm (by decide))
  obtain ⟨rows2, b1, b2, b3⟩ := rows_by (X := X) n (ns.getD 1 0) (wideV (ns.getD 0 0)) m2 hw (Nat.le_of_lt hm2)
  rw [← e2] at b3
  generalize wideV (ns.getD 0 0) = wd at *
  generalize ns.getD 0 0 = z0 at *
  generalize ns.getD 1 0 = z1 at *
  generalize D.list (ns.map .int) = S at *
  have key : Rex (callN PP X (n + 3)) fn_law_table_by.body [("_law_script", (false, S)), ("_law_k", (false, .int 0))] fun d fr => ∃ rows, Rows wd rows ∧ rows.length ≤ 70 ∧ d = .list rows ∧ fr = true := by
    walk_at "q"
    all_goals first | exact ⟨rows1, a1, a2, rfl, rfl⟩ | exact ⟨rows2, b1, b2, rfl, rfl⟩
  obtain ⟨d, fr, ⟨rows, q1, q2, rfl, rfl⟩, hr⟩ := rex_call (X := X) (n := n + 3) (args := [S, .int 0]) (by rfl : PP.lookup "_law_table_by" = some fn_law_table_by) rfl key
  exact ⟨rows, q1, q2, hr⟩
theorem clauses_by (n : Nat) (c : Int) (m : Nat) (hm : m ≤ 12) : ∃ ds, (∀ d ∈ ds, Cls m d) ∧ ds.length ≤ 13 ∧ (callN PP X (n + 5)).call "_law_clauses_by" [.int c, .int m] = some (.tup ds, false) := by
  have tail : ∀ k : Nat, k ≤ 13 → Rex (callN PP X (n + 4)) (fn_law_clauses_by.body.drop 2) [("_law_cell", (false, .int c)), ("_law_many_here", (false, .int m)), ("_law_count", (false, .int k))] fun d fr => ∃ ds, (∀ d ∈ ds, Cls m d) ∧ ds.length ≤ 13 ∧ d = .tup ds ∧ fr = false := by
    intro k hk
    obtain ⟨ds, q1, q2, q3⟩ := v_rows (cf := callN PP X (n + 4)) (ρ := vis [("_law_cell", (false, .int c)), ("_law_many_here", (false, .int m)), ("_law_count", (false, .int k))]) (elt := .call "_law_clause_by" [.call "_law_mixed" [.var "_law_cell", .bin .Add (.int 20) (.var "_law_k")], .var "_law_many_here"]) (z := "_law_k") (src := .var "_law_count") (Nat.le_trans hk (by decide)) (Cls m) rfl (by
      intro i _
      obtain ⟨r, _, hr⟩ := mixed (X := X) bg (n + 3) c (20 + i)
      obtain ⟨d, td, hd⟩ := clause_by (X := X) bg n r m (Nat.le_trans hm (by decide))
      exact ⟨d, td, by walk_at "v"⟩)
    exact q_ret (v_map q3 rfl rfl) rfl ⟨ds, q2, q1 ▸ hk, rfl, rfl⟩
  obtain ⟨d, ⟨k1, rfl, l1⟩, q⟩ := list_pick (l := [.int 0, .int 1, .int 1, .int 2]) (by decide) c (R := fun d => ∃ m : Nat, d = .int m ∧ m ≤ 13) (by
    intro d hd
    simp only [List.mem_cons, List.not_mem_nil, or_false] at hd
    rcases hd with rfl | rfl | rfl | rfl <;> first | exact ⟨0, rfl, by decide⟩ | exact ⟨1, rfl, by decide⟩ | exact ⟨2, rfl, by decide⟩)
  have q : subD (.list [.int 0, .int 1, .int 1, .int 2]) (.int (c % 4)) = some (.int k1) := q
  obtain ⟨k2, e2, l2⟩ := emod_nat (c / 36) (k := 13) (by decide)
  have e2 : c / 36 % 13 = (k2 : Int) := e2
  have key : Rex (callN PP X (n + 4)) fn_law_clauses_by.body [("_law_cell", (false, .int c)), ("_law_many_here", (false, .int m))] fun d fr => ∃ ds, (∀ d ∈ ds, Cls m d) ∧ ds.length ≤ 13 ∧ d = .tup ds ∧ fr = false := by
    walk_at "q"
    all_goals first
      | exact q_norm rfl (tail k1 l1)
      | (refine q_norm ?_ (tail k2 (Nat.le_of_lt l2)); rw [← e2] <;> exact rfl)
  obtain ⟨d, fr, ⟨ds, q1, q2, rfl, rfl⟩, hr⟩ := rex_call (X := X) (n := n + 4) (args := [.int c, .int m]) (by rfl : PP.lookup "_law_clauses_by" = some fn_law_clauses_by) rfl key
  exact ⟨ds, q1, q2, hr⟩
theorem cell_is (n : Nat) {a : D} (ha : a.isCell = true) : (callN PP X (n + 1)).call "_law_cell_is" [a, a] = some (.bool true, false) := by
  refine run_call (by rfl : PP.lookup "_law_cell_is" = some fn_law_cell_is) rfl ?_
  cases a <;> first | (cases ha; done) | skip
  · rename_i i
    have e : cmpD .Eq (.int i) (.int i) = some (.bool true) := by show some (D.bool (i == i)) = _; rw [beq_self_eq_true]
    exact r_if (k := false) rfl rfl nofun fun _ => r_ret (v_map (v_and (k := true) (l := true) rfl fun _ => v_bop1 (v_cmp rfl rfl e)) rfl rfl) rfl
  · rename_i x
    have e : cmpD .Eq (.str x) (.str x) = some (.bool true) := by show some (D.bool (x == x)) = _; rw [beq_self_eq_true]
    exact r_if (k := true) rfl rfl (fun _ => r_ret (v_map (v_and (k := true) (l := true) rfl fun _ => v_and (k := true) (l := true) rfl fun _ => v_bop1 (v_cmp rfl rfl e)) rfl rfl) rfl) nofun
theorem compM_none (f : D → Option (Option D)) : ∀ (its : List D), (∀ it ∈ its, f it = some none) → compM f its = some []
  | [], _ => rfl
  | it :: r, h => by rw [compM, h it (.head _)]; show (match compM f r with | none => none | some ds => _) = _; rw [compM_none f r fun i hi => h i (.tail _ hi)]
theorem neq_self (i : Int) : cmpD .NotEq (.int i) (.int i) = some (.bool false) := by show some (D.bool (!(i == i))) = _; rw [beq_self_eq_true]; rfl
theorem row_is (n : Nat) {m : Nat} (hm : m ≤ 1000) {r : D} (hr : ∃ cs, r = .tup cs ∧ cs.length ≤ 1000 ∧ ∀ d ∈ cs, d.isCell = true) : (callN PP X (n + 2)).call "_law_row_is" [r, r] = some (.bool true, false) := by
  obtain ⟨cs, rfl, hl, hc⟩ := hr
  have hb : cs.length ≤ big := Nat.le_trans hl (by decide)
  have hcell := fun i (h : i < cs.length) => cell_is (X := X) n (hc _ (List.getElem_mem h))
  refine run_call (by rfl : PP.lookup "_law_row_is" = some fn_law_row_is) rfl ?_
  have e := neq_self cs.length
  refine r_if (k := false) (x := .bool (false || false)) (v_or (l := false) rfl fun _ => v_bop1 (v_cmp rfl rfl e)) rfl nofun fun _ => ?_
  have hlen : ((List.range cs.length).map fun (i : Nat) => D.int (i : Int)).length = cs.length := by simp
  refine r_ret (v_map (v_not (k := false) (v_comp (ds := []) (v_blt (v_cons (d := .int cs.length) rfl (es_nil _ _)) (blt_rng hb)) (items_rng cs.length) (Nat.le_trans (Nat.le_of_eq hlen) hb) (compM_none _ _ ?_)) rfl) rfl rfl) rfl
  intro it hit
  obtain ⟨i, hi, rfl⟩ := List.mem_map.mp hit
  have hi := List.mem_range.mp hi
  have q := hcell i hi
  have q2 : subD (.tup cs) (.int i) = some cs[i] := sub_t hi (List.getElem?_eq_getElem hi)
  exact (compF_one (k := false) (y := .none) (by walk_at "v") rfl nofun)
noncomputable def Flat (r : D) : Prop := ∃ cs, r = .tup cs ∧ cs.length ≤ 1000 ∧ ∀ d ∈ cs, d.isCell = true
theorem rows_are (n : Nat) {rows : List D} (hl : rows.length ≤ 1000) (hr : ∀ r ∈ rows, Flat r) : (callN PP X (n + 3)).call "_law_rows_are" [.list rows, .list rows] = some (.bool true, false) := by
  have hb : rows.length ≤ big := Nat.le_trans hl (by decide)
  have hrow := fun i (h : i < rows.length) => row_is (X := X) n (m := 0) (Nat.zero_le _) (hr _ (List.getElem_mem h))
  refine run_call (by rfl : PP.lookup "_law_rows_are" = some fn_law_rows_are) rfl ?_
  have e := neq_self rows.length
  refine r_if (k := false) (x := .bool (false || false)) (v_or (l := false) rfl fun _ => v_bop1 (v_cmp rfl rfl e)) rfl nofun fun _ => ?_
  have hlen : ((List.range rows.length).map fun (i : Nat) => D.int (i : Int)).length = rows.length := by simp
  refine r_ret (v_map (v_not (k := false) (v_comp (ds := []) (v_blt (v_cons (d := .int rows.length) rfl (es_nil _ _)) (blt_rng hb)) (items_rng rows.length) (Nat.le_trans (Nat.le_of_eq hlen) hb) (compM_none _ _ ?_)) rfl) rfl rfl) rfl
  intro it hit
  obtain ⟨i, hi, rfl⟩ := List.mem_map.mp hit
  have hi := List.mem_range.mp hi
  have q := hrow i hi
  have q2 : subD (.list rows) (.int i) = some rows[i] := sub_l hi (List.getElem?_eq_getElem hi)
  exact (compF_one (k := false) (y := .none) (by walk_at "v") rfl nofun)
/-- the tables of the law -/
noncomputable def tabs (nm : Str) (rows : List D) : D := .dict [.str nm, .str (Str.ofString "other")] [.list rows, .list [.tup [.int 1]]]
theorem tab_at {nm : Str} {rows : List D} : subD (tabs nm rows) (.str nm) = some (.list rows) := by
  show (if keyEq (.str nm) (.str nm) = true then some (D.list rows) else _) = _
  rw [if_pos (by show (nm == nm) = true; exact beq_self_eq_true nm)]
theorem tab_other {nm : Str} (hn : (nm == Str.ofString "other") = false) {rows : List D} : subD (tabs nm rows) (.str (Str.ofString "other")) = some (.list [.tup [.int 1]]) := by
  show (if keyEq (.str nm) (.str (Str.ofString "other")) = true then some (D.list rows) else dget [.str (Str.ofString "other")] [.list [.tup [.int 1]]] (.str (Str.ofString "other"))) = _
  rw [if_neg (by show ¬ (nm == Str.ofString "other") = true; rw [hn]; exact Bool.false_ne_true)]
  rfl
theorem copied (n : Nat) {nm : Str} (hn : (nm == Str.ofString "other") = false) {rows : List D} : (callN PP X (n + 1)).call "_law_copied" [tabs nm rows] = some (tabs nm rows, true) := by
  refine run_call (by rfl : PP.lookup "_law_copied" = some fn_law_copied) rfl ?_
  have t1 := tab_at (nm := nm) (rows := rows)
  have t2 := tab_other hn (rows := rows)
  refine r_step (p_assign (d := .dict [] []) (fr := true) rfl) ?_
  have f1 : Nxt (callN PP X n) [.setk "_law_made" (.var "_law_name") (.lcp (.sub (.var "_law_tables") (.var "_law_name")))] [("_law_tables", (false, tabs nm rows)), ("_law_made", (true, .dict [] [])), ("_law_name", (false, .str nm))] [("_law_tables", (false, tabs nm rows)), ("_law_made", (true, .dict [.str nm] [.list rows])), ("_law_name", (false, .str nm))] :=
    n_step (p_setk (d := .list rows) (dk := .str nm) (ks := []) (vs := []) (v_lcp (v_sub (x := tabs nm rows) (y := .str nm) rfl rfl t1) rfl) rfl rfl rfl) n_nil
  have f2 : Nxt (callN PP X n) [.setk "_law_made" (.var "_law_name") (.lcp (.sub (.var "_law_tables") (.var "_law_name")))] [("_law_tables", (false, tabs nm rows)), ("_law_made", (true, .dict [.str nm] [.list rows])), ("_law_name", (false, .str (Str.ofString "other")))] [("_law_tables", (false, tabs nm rows)), ("_law_made", (true, tabs nm rows)), ("_law_name", (false, .str (Str.ofString "other")))] := by
    have s := p_setk (cf := callN PP X n) (z := "_law_made") (k := .var "_law_name") (e := .lcp (.sub (.var "_law_tables") (.var "_law_name"))) (σ := [("_law_tables", (false, tabs nm rows)), ("_law_made", (true, .dict [.str nm] [.list rows])), ("_law_name", (false, .str (Str.ofString "other")))]) (d := .list [.tup [.int 1]]) (dk := .str (Str.ofString "other")) (ks := [.str nm]) (vs := [.list rows]) (v_lcp (v_sub (x := tabs nm rows) (y := .str (Str.ofString "other")) rfl rfl t2) rfl) rfl rfl rfl
    have e : dput [.str nm] [.list rows] (.str (Str.ofString "other")) (.list [.tup [.int 1]]) = ([.str nm, .str (Str.ofString "other")], [.list rows, .list [.tup [.int 1]]]) := by
      show (if keyEq (.str nm) (.str (Str.ofString "other")) = true then _ else _) = _
      rw [if_neg (by show ¬ (nm == Str.ofString "other") = true; rw [hn]; exact Bool.false_ne_true)]
      rfl
    rw [e] at s
    exact n_step s n_nil
  refine r_for (x := .list [.str nm, .str (Str.ofString "other")]) (its := [.str nm, .str (Str.ofString "other")]) (σ' := [("_law_tables", (false, tabs nm rows)), ("_law_made", (true, tabs nm rows)), ("_law_name", (false, .str (Str.ofString "other")))]) rfl rfl ?_ (r_retv rfl)
  refine (forB_cons _ _ _ _ _ _).trans ?_
  refine (congrArg (fun z => loopS z _) f1).trans ?_
  refine (forB_cons _ _ _ _ _ _).trans ?_
  exact (congrArg (fun z => loopS z _) f2)
theorem stayed (n : Nat) {nm : Str} (hn : (nm == Str.ofString "other") = false) {rows : List D} (hl : rows.length ≤ 1000) (hr : ∀ r ∈ rows, Flat r) : (callN PP X (n + 4)).call "_law_stayed" [tabs nm rows, tabs nm rows] = some (.bool true, false) := by
  have t1 := tab_at (nm := nm) (rows := rows)
  have t2 := tab_other hn (rows := rows)
  have r1 := rows_are (X := X) n hl hr
  have r2 := rows_are (X := X) n (rows := [.tup [.int 1]]) (by decide) (fun r h => ⟨[.int 1], List.mem_singleton.mp h, by decide, fun d h => by rw [List.mem_singleton.mp h]; rfl⟩)
  refine run_call (by rfl : PP.lookup "_law_stayed" = some fn_law_stayed) rfl ?_
  have e : cmpD .NotEq (.list [.str nm, .str (Str.ofString "other")]) (.list [.str nm, .str (Str.ofString "other")]) = some (.bool false) := by
    show some (D.bool (!((nm == nm) && true))) = _
    rw [beq_self_eq_true]; rfl
  refine r_if (k := false) (x := .bool false) (v_cmp rfl rfl e) rfl nofun fun _ => ?_
  refine r_ret (v_map (v_not (k := false) (v_comp (x := .list [.str nm, .str (Str.ofString "other")]) (its := [.str nm, .str (Str.ofString "other")]) (ds := []) rfl rfl (Nat.le_of_ble_eq_true rfl) (compM_none _ _ ?_)) rfl) rfl rfl) rfl
  intro it hit
  rcases List.mem_cons.mp hit with rfl | hit
  · exact compF_one (k := false) (y := .none) (v_not (v_callE (v_cons (v_sub (x := tabs nm rows) (y := .str nm) rfl rfl t1) (v_cons (v_sub (x := tabs nm rows) (y := .str nm) rfl rfl t1) (es_nil _ _))) r1) rfl) rfl nofun
  · rw [List.mem_singleton.mp hit]
    exact compF_one (k := false) (y := .none) (v_not (v_callE (v_cons (v_sub (x := tabs nm rows) (y := .str (Str.ofString "other")) rfl rfl t2) (v_cons (v_sub (x := tabs nm rows) (y := .str (Str.ofString "other")) rfl rfl t2) (es_nil _ _))) r2) rfl) rfl nofun
end
end Mine

namespace Mine
open PySem
set_option maxRecDepth 100000
set_option maxHeartbeats 400000
local macro_rules | `(tactic| walk_at "v") => `(tactic| repeat' (first | (with_reducible assumption) | (with_reducible exact e_int _ _ _) | (with_reducible exact e_str _ _ _) | (with_reducible exact e_bool _ _ _) | (with_reducible exact e_none _ _) | (with_reducible exact es_nil _ _) | ((with_reducible refine (e_var _ _ _).trans ?_); exact rfl) | ((with_reducible refine (e_glob _ _ _).trans ?_); (with_reducible assumption)) | (with_reducible apply v_cons) | (with_reducible apply v_bin) | (with_reducible exact b_add) | (with_reducible exact b_sb) | (with_reducible apply b_mod) | (with_reducible apply b_div) | ((with_reducible apply b_mulL); (focus decide)) | (with_reducible apply b_mul) | (with_reducible apply v_cmp) | (with_reducible apply v_sub) | (with_reducible apply v_sl) | (with_reducible apply v_not) | (with_reducible apply v_isi) | (with_reducible apply v_blt) | (with_reducible apply v_tup) | (with_reducible apply v_lst) | (with_reducible apply v_lcp) | (with_reducible apply v_callE) | (with_reducible apply v_call) | (with_reducible apply v_bop1) | ((with_reducible apply v_and); rotate_left; intro _; rotate_right) | ((with_reducible apply v_or); rotate_left; intro _; rotate_right) | (with_reducible apply v_map) | ((with_reducible show cmpD _ _ _ = _); exact rfl) | ((with_reducible show truth _ = _); exact rfl) | ((with_reducible show isiD _ _ = _); exact rfl) | ((with_reducible show frF _ _ = _); exact rfl) | ((with_reducible show isCallE _ = _); exact rfl) | ((with_reducible show bltD _ _ = _); exact rfl) | ((with_reducible show lstD _ = _); exact rfl) | ((with_reducible show subD _ _ = _); exact rfl) | decide | exact Nat.le_of_ble_eq_true rfl))
local macro_rules | `(tactic| walk_at "s") => `(tactic| repeat' (first | (apply r_step; (focus (first | ((with_reducible apply p_cell); (focus (walk_at "v"; done)); (with_reducible assumption)) | ((with_reducible apply p_assign); walk_at "v"; done)))) | (apply r_if; (focus (walk_at "v"; done)); (focus (exact rfl)); (focus (intro hh; first | exact no_tf hh (by assumption) | exact absurd hh (by decide) | skip)); rotate_left; (focus (intro hh; first | exact no_tf (by assumption) hh | exact absurd hh (by decide) | skip))) | (apply r_retv; (focus (exact rfl))) | (apply r_ret; (focus (walk_at "v"; done)); (focus (exact rfl)))))
local macro_rules | `(tactic| walk_at "q") => `(tactic| repeat' (first | (apply q_step; (focus (first | ((with_reducible apply p_cell); (focus (walk_at "v"; done)); (with_reducible assumption)) | ((with_reducible apply p_assign); walk_at "v"; done)))) | (apply q_if; (focus (walk_at "v"; done)); (focus (exact rfl)); (focus (intro hh; first | exact no_tf hh (by assumption) | exact absurd hh (by decide) | skip)); rotate_left; (focus (intro hh; first | exact no_tf (by assumption) hh | exact absurd hh (by decide) | skip))) | (apply q_retv; (focus (exact rfl))) | (apply q_ret; (focus (walk_at "v"; done)); (focus (exact rfl)))))
local macro_rules | `(tactic| walk_at "o") => `(tactic| repeat' (first | (apply o_step; (focus (first | ((with_reducible apply p_cell); (focus (walk_at "v"; done)); (with_reducible assumption)) | ((with_reducible apply p_assign); walk_at "v"; done)))) | (apply o_if; (focus (walk_at "v"; done)); (focus (exact rfl)); (focus (intro hh; first | exact no_tf hh (by assumption) | exact absurd hh (by decide) | skip)); rotate_left; (focus (intro hh; first | exact no_tf (by assumption) hh | exact absurd hh (by decide) | skip))) | (apply o_ret; (focus (walk_at "v"; done)); (focus (exact rfl))) | apply o_nil))
noncomputable def rowOf : D → List D
  | .tup cs => cs
  | _ => []
noncomputable def holdsV (row : List D) (cl : D) : Bool := match cl with
  | .tup ts => ts.any (tV row)
  | _ => false
noncomputable def keepV (cls : List D) (r : D) : Bool := cls.all (holdsV (rowOf r))
theorem keep_any (cls : List D) (r : D) : keepV cls r = !(cls.any fun cl => !holdsV (rowOf r) cl) := List.all_eq_not_any_not
theorem keep_filt (cls : List D) (r : D) : (!(!(cls.filter fun cl => !holdsV (rowOf r) cl).isEmpty)) = keepV cls r := by
  rw [keep_any, Bool.not_not]
  induction cls with
  | nil => rfl
  | cons c cls ih =>
    rw [List.any_cons, List.filter_cons]
    cases holdsV (rowOf r) c with
    | true => exact ih
    | false => rfl
section
variable {X : CF} {m : Nat}
theorem keeps_eq (n : Nat) {r : D} (hr : Row m r) {cls : List D} (hc : ∀ d ∈ cls, Cls m d) : (callN PP X (n + 4)).call "keeps" [.tup cls, r] = some (.bool (keepV cls r), false) := by
  obtain ⟨cs, rfl, hl, hg⟩ := hr
  have hd : ∀ cl ∈ cls, (callN PP X (n + 3)).call "holds" [cl, .tup cs] = some (.bool (holdsV cs cl), false) := fun cl h => by
    obtain ⟨ts, rfl, ht, _⟩ := hc cl h
    exact holds_eq bc n hg (by rw [hl]; exact ht)
  refine run_call (by rfl : PP.lookup "keeps" = some fn_keeps) rfl ?_
  generalize callN PP X (n + 3) = cf at *
  obtain ⟨σ', k1, k2⟩ := loop_find (cf := cf) (body := [.ite (.not (.call "holds" [.var "clause", .var "row"])) [.ret (.bool false)] []]) (z := "clause") (fun cl => !holdsV cs cl) (fun σ => ∃ l, σ = ("clauses", (false, .tup cls)) :: ("row", (false, .tup cs)) :: l) false (.bool false) cls (by
    rintro it hit σ ⟨l, rfl⟩
    have d1 := hd it hit
    refine o_norm (σ' := ("clauses", (false, .tup cls)) :: ("row", (false, .tup cs)) :: setv l "clause" (false, it)) rfl ?_
    have hv : evE cf (vis (("clauses", (false, .tup cls)) :: ("row", (false, .tup cs)) :: setv l "clause" (false, it))) (.var "clause") = some it := by
      rw [e_var, lookup_vis]; show ((setv l "clause" (false, it)).lookup "clause").map _ = _; rw [lookup_setv]; rfl
    walk_at "o"
    all_goals (rename_i hh; first | exact leaf_t hh rfl | exact leaf_f hh ⟨rfl, _, rfl⟩)) [("clauses", (false, .tup cls)), ("row", (false, .tup cs))] ⟨[], rfl⟩
  have e := keep_any cls (.tup cs)
  rw [e]
  have e2 : (cls.any fun cl => !holdsV (rowOf (.tup cs)) cl) = cls.any fun cl => !holdsV cs cl := rfl
  rw [e2]
  cases hb : (cls.any fun cl => !holdsV cs cl) with
  | true => exact r_forR (σ' := σ') (x := .tup cls) (its := cls) rfl rfl (k1 hb)
  | false => exact r_for (σ' := σ') (x := .tup cls) (its := cls) rfl rfl (k2 hb).2 (r_ret (v_map (e_bool _ _ _) rfl rfl) rfl)
theorem lkeep_e (n : Nat) {r : D} (hr : Row m r) {cls : List D} (hc : ∀ d ∈ cls, Cls m d) (hl : cls.length ≤ 1000) {ρ : List (String × D)} (h1 : ρ.lookup "_law_thing" = some (.tup cls)) (h2 : ρ.lookup "_law_row" = some r) :
    evE (callN PP X (n + 3)) ρ (.not (.comp (.var "_law_one") "_law_one" (.var "_law_thing") [.not (.call "_law_holds" [.var "_law_one", .var "_law_row"])])) = some (.bool (keepV cls r)) := by
  rw [← keep_filt]
  obtain ⟨cs, rfl, hlr, hg⟩ := hr
  have hd : ∀ cl ∈ cls, (callN PP X (n + 3)).call "_law_holds" [cl, .tup cs] = some (.bool (holdsV cs cl), false) := fun cl h => by
    obtain ⟨ts, rfl, ht, _⟩ := hc cl h
    exact lholds_eq bc n hg (by rw [hlr]; exact ht)
  refine v_not (v_comp (ds := cls.filter fun cl => !holdsV (rowOf (.tup cs)) cl) ((e_var _ _ _).trans h1) rfl (Nat.le_trans hl (by decide)) (compM_filter _ _ _ fun it hit => ?_)) rfl
  exact compF_one (v_not (v_callE (v_cons rfl (v_cons (d := .tup cs) h2 (es_nil _ _))) (hd it hit)) rfl) rfl fun _ => rfl
/-- places of a row of m cells -/
noncomputable def Plc (m : Nat) (ps : List D) : Prop := ∀ d ∈ ps, ∃ p : Nat, p < m ∧ d = .int p
noncomputable def atV (r : D) (pl : D) : D := match pl with
  | .int p => (rowOf r).getD p.toNat .none
  | _ => .none
theorem at_e {r : D} (hr : Row m r) {ps : List D} (hp : Plc m ps) : ∀ pl ∈ ps, subD r pl = some (atV r pl) := by
  obtain ⟨cs, rfl, hl, _⟩ := hr
  intro pl h
  obtain ⟨p, hp, rfl⟩ := hp pl h
  exact getD_at (by omega)
theorem cells_at (n : Nat) {r : D} (hr : Row m r) {ps : List D} (hp : Plc m ps) (hl : ps.length ≤ 1000) : (callN PP X (n + 1)).call "cells_at" [r, .tup ps] = some (.tup (ps.map (atV r)), false) := by
  refine run_call (by rfl : PP.lookup "cells_at" = some fn_cells_at) rfl ?_
  refine r_ret (v_map (v_blt (v_cons (v_comp (x := .tup ps) (its := ps) (ds := ps.map (atV r)) rfl rfl (Nat.le_trans hl (by decide)) (compM_map _ _ _ fun it hit => ?_)) (es_nil _ _)) rfl) rfl rfl) rfl
  exact compF_nil (v_sub (x := r) (y := it) rfl rfl (at_e hr hp it hit))
theorem lpick_e {cf : CF} {r : D} (hr : Row m r) {ps : List D} (hp : Plc m ps) (hl : ps.length ≤ 1000) {ρ : List (String × D)} (h1 : ρ.lookup "_law_thing" = some (.tup ps)) (h2 : ρ.lookup "_law_row" = some r) :
    evE cf ρ (.blt "tuple" [.comp (.sub (.var "_law_row") (.var "_law_place")) "_law_place" (.var "_law_thing") []]) = some (.tup (ps.map (atV r))) := by
  refine v_blt (v_cons (v_comp (x := .tup ps) (its := ps) (ds := ps.map (atV r)) ((e_var _ _ _).trans h1) rfl (Nat.le_trans hl (by decide)) (compM_map _ _ _ fun it hit => ?_)) (es_nil _ _)) rfl
  exact compF_nil (v_sub (x := r) (y := it) ((e_var _ _ _).trans h2) rfl (at_e hr hp it hit))
/-- each row once -/
noncomputable def onceV (acc rows : List D) : List D := rows.foldl (fun acc r => if acc.any (fun x => keyEq x r) = true then acc else acc ++ [r]) acc
theorem onceV_snoc (acc rows : List D) (r : D) : onceV acc (rows ++ [r]) = if (onceV acc rows).any (fun x => keyEq x r) = true then onceV acc rows else onceV acc rows ++ [r] := by
  unfold onceV; rw [List.foldl_append]; rfl
theorem onceV_sub {C : D → Prop} : ∀ (rows acc : List D), (∀ r ∈ acc, C r) → (∀ r ∈ rows, C r) → ∀ r ∈ onceV acc rows, C r
  | [], _, ha, _ => ha
  | x :: rows, acc, ha, hr => by
    refine onceV_sub rows _ ?_ fun r h => hr r (.tail _ h)
    dsimp only
    split
    · exact ha
    · intro r h
      rcases List.mem_append.mp h with h | h
      · exact ha r h
      · rw [List.mem_singleton.mp h]; exact hr x (.head _)
theorem onceV_len : ∀ (rows acc : List D), (onceV acc rows).length ≤ acc.length + rows.length
  | [], _ => Nat.le_refl _
  | x :: rows, acc => by
    have := onceV_len rows (if acc.any (fun y => keyEq y x) = true then acc else acc ++ [x])
    refine Nat.le_trans this ?_
    split <;> simp <;> omega
theorem dput_new {k v : D} : ∀ {ks vs : List D}, ks.length = vs.length → ks.any (fun x => keyEq x k) = false → dput ks vs k v = (ks ++ [k], vs ++ [v])
  | [], [], _, _ => rfl
  | k' :: ks, v' :: vs, hl, h => by
    rw [List.any_cons, Bool.or_eq_false_iff] at h
    rw [dput, if_neg (by rw [h.1]; exact Bool.false_ne_true), dput_new (by simpa using hl) h.2]
    rfl
theorem Row.tk {r : D} (h : Row m r) : r.isTK = true := by
  obtain ⟨cs, rfl, _, hg⟩ := h
  exact List.all_eq_true.mpr fun d hd => (hg d hd).cell
theorem once_eq (n : Nat) {rows : List D} (hr : Rows m rows) (hl : rows.length ≤ 1000) : (callN PP X (n + 1)).call "once" [.list rows] = some (.list (onceV [] rows), true) := by
  refine run_call (by rfl : PP.lookup "once" = some fn_once) rfl ?_
  generalize callN PP X n = cf at *
  obtain ⟨σ', ⟨vs, l, _, rfl⟩, h3⟩ := loop_inv (cf := cf) (body := [.ite (.cmp .NotIn (.var "row") (.var "known")) [.setk "known" (.var "row") (.bool true), .append "found" (.var "row")] []]) (z := "row")
    (fun a σ => ∃ vs l, (onceV [] a).length = vs.length ∧ σ = ("rows", (false, .list rows)) :: ("known", (true, .dict (onceV [] a) vs)) :: ("found", (true, .list (onceV [] a))) :: l) rows [] [("rows", (false, .list rows)), ("known", (true, .dict [] [])), ("found", (true, .list []))] ⟨[], [], rfl, rfl⟩ (by
    rintro a it b σ hab ⟨vs, l, hlv, rfl⟩
    rw [List.nil_append] at hab
    have hit : Row m it := hr it (by rw [hab]; simp)
    have hks := onceV_sub (C := Row m) a [] (fun _ h => nomatch h) fun r h => hr r (by rw [hab]; exact List.mem_append_left _ h)
    have hlen : (onceV [] a).length < big := by
      have h1 := onceV_len a []
      have h2 : a.length ≤ rows.length := by rw [hab]; simp
      have h3 : (1000 : Nat) < big := by decide
      simp at h1; omega
    have hk : keyOk it (onceV [] a) = true := by
      unfold keyOk
      rw [Row.tk hit, List.all_eq_true.mpr fun d hd => Row.tk (hks d hd)]; simp
    have hmem : cmpD .NotIn it (.dict (onceV [] a) vs) = some (.bool (!(onceV [] a).any fun x => keyEq x it)) := by
      show (memD it (.dict (onceV [] a) vs)).map _ = _
      show (if keyOk it (onceV [] a) = true then _ else _ : Option Bool).map _ = _
      rw [if_pos hk]; rfl
    have hsn := onceV_snoc [] a it
    obtain ⟨cs, rfl, _⟩ := hit
    have hv : evE cf (vis (("rows", (false, .list rows)) :: ("known", (true, .dict (onceV [] a) vs)) :: ("found", (true, .list (onceV [] a))) :: setv l "row" (false, .tup cs))) (.var "row") = some (.tup cs) := by
      rw [e_var, lookup_vis]; show ((setv l "row" (false, .tup cs)).lookup "row").map _ = _; rw [lookup_setv]; rfl
    refine o_norm (σ' := ("rows", (false, .list rows)) :: ("known", (true, .dict (onceV [] a) vs)) :: ("found", (true, .list (onceV [] a))) :: setv l "row" (false, .tup cs)) rfl ?_
    refine o_if (v_cmp (x := .tup cs) (y := .dict (onceV [] a) vs) hv rfl hmem) rfl (fun hh => ?_) fun hh => ?_
    · have hh : ((onceV [] a).any fun x => keyEq x (.tup cs)) = false := by simpa using hh
      rw [if_neg (by rw [hh]; exact Bool.false_ne_true)] at hsn
      have e := dput_new (v := .bool true) hlv hh
      have s1 := p_setk (cf := cf) (z := "known") (k := .var "row") (e := .bool true) (σ := ("rows", (false, .list rows)) :: ("known", (true, .dict (onceV [] a) vs)) :: ("found", (true, .list (onceV [] a))) :: setv l "row" (false, .tup cs)) (d := .bool true) (dk := .tup cs) (ks := onceV [] a) (vs := vs) rfl hv rfl (by rw [hk, decide_eq_true hlen]; rfl)
      rw [e] at s1
      refine o_step s1 ?_
      have hv2 : evE cf (vis (("rows", (false, .list rows)) :: ("known", (true, .dict (onceV [] a ++ [.tup cs]) (vs ++ [.bool true]))) :: ("found", (true, .list (onceV [] a))) :: freeze ["row"] (setv l "row" (false, .tup cs)))) (.var "row") = some (.tup cs) := by
        rw [e_var, lookup_vis]; show ((freeze ["row"] (setv l "row" (false, .tup cs))).lookup "row").map _ = _; rw [lookup_freeze, lookup_setv]; rfl
      refine o_norm (σ' := ("rows", (false, .list rows)) :: ("known", (true, .dict (onceV [] a ++ [.tup cs]) (vs ++ [.bool true]))) :: ("found", (true, .list (onceV [] a))) :: freeze ["row"] (setv l "row" (false, .tup cs))) rfl ?_
      refine o_step (p_append hv2 rfl hlen) (o_nil ⟨rfl, vs ++ [.bool true], _, ?_, by rw [hsn]; rfl⟩)
      rw [hsn]; simp [hlv]
    · have hh : ((onceV [] a).any fun x => keyEq x (.tup cs)) = true := by simpa using hh
      rw [if_pos hh] at hsn
      exact o_nil ⟨rfl, vs, _, by rw [hsn]; exact hlv, by rw [hsn]⟩)
  refine r_step (p_assign (d := .dict [] []) (fr := true) rfl) (r_step (p_assign (d := .list []) (fr := true) rfl) ?_)
  exact r_for (x := .list rows) (its := rows) rfl rfl h3 (r_retv rfl)
end
end Mine

namespace Mine
open PySem
set_option maxRecDepth 100000
set_option maxHeartbeats 400000
local macro_rules | `(tactic| walk_at "v") => `(tactic| repeat' (first | (with_reducible assumption) | (with_reducible exact e_int _ _ _) | (with_reducible exact e_str _ _ _) | (with_reducible exact e_bool _ _ _) | (with_reducible exact e_none _ _) | (with_reducible exact es_nil _ _) | ((with_reducible refine (e_var _ _ _).trans ?_); exact rfl) | ((with_reducible refine (e_glob _ _ _).trans ?_); (with_reducible assumption)) | (with_reducible apply v_cons) | (with_reducible apply v_bin) | (with_reducible exact b_add) | (with_reducible exact b_sb) | (with_reducible apply b_mod) | (with_reducible apply b_div) | ((with_reducible apply b_mulL); (focus decide)) | (with_reducible apply b_mul) | (with_reducible apply v_cmp) | (with_reducible apply v_sub) | (with_reducible apply v_sl) | (with_reducible apply v_not) | (with_reducible apply v_isi) | (with_reducible apply v_blt) | (with_reducible apply v_tup) | (with_reducible apply v_lst) | (with_reducible apply v_lcp) | (with_reducible apply v_callE) | (with_reducible apply v_call) | (with_reducible apply v_bop1) | ((with_reducible apply v_and); rotate_left; intro _; rotate_right) | ((with_reducible apply v_or); rotate_left; intro _; rotate_right) | (with_reducible apply v_map) | ((with_reducible show cmpD _ _ _ = _); exact rfl) | ((with_reducible show truth _ = _); exact rfl) | ((with_reducible show isiD _ _ = _); exact rfl) | ((with_reducible show frF _ _ = _); exact rfl) | ((with_reducible show isCallE _ = _); exact rfl) | ((with_reducible show bltD _ _ = _); exact rfl) | ((with_reducible show lstD _ = _); exact rfl) | ((with_reducible show subD _ _ = _); exact rfl) | decide | exact Nat.le_of_ble_eq_true rfl))
local macro_rules | `(tactic| walk_at "s") => `(tactic| repeat' (first | (apply r_step; (focus (first | ((with_reducible apply p_cell); (focus (walk_at "v"; done)); (with_reducible assumption)) | ((with_reducible apply p_assign); walk_at "v"; done)))) | (apply r_if; (focus (walk_at "v"; done)); (focus (exact rfl)); (focus (intro hh; first | exact no_tf hh (by assumption) | exact absurd hh (by decide) | skip)); rotate_left; (focus (intro hh; first | exact no_tf (by assumption) hh | exact absurd hh (by decide) | skip))) | (apply r_retv; (focus (exact rfl))) | (apply r_ret; (focus (walk_at "v"; done)); (focus (exact rfl)))))
local macro_rules | `(tactic| walk_at "q") => `(tactic| repeat' (first | (apply q_step; (focus (first | ((with_reducible apply p_cell); (focus (walk_at "v"; done)); (with_reducible assumption)) | ((with_reducible apply p_assign); walk_at "v"; done)))) | (apply q_if; (focus (walk_at "v"; done)); (focus (exact rfl)); (focus (intro hh; first | exact no_tf hh (by assumption) | exact absurd hh (by decide) | skip)); rotate_left; (focus (intro hh; first | exact no_tf (by assumption) hh | exact absurd hh (by decide) | skip))) | (apply q_retv; (focus (exact rfl))) | (apply q_ret; (focus (walk_at "v"; done)); (focus (exact rfl)))))
local macro_rules | `(tactic| walk_at "o") => `(tactic| repeat' (first | (apply o_step; (focus (first | ((with_reducible apply p_cell); (focus (walk_at "v"; done)); (with_reducible assumption)) | ((with_reducible apply p_assign); walk_at "v"; done)))) | (apply o_if; (focus (walk_at "v"; done)); (focus (exact rfl)); (focus (intro hh; first | exact no_tf hh (by assumption) | exact absurd hh (by decide) | skip)); rotate_left; (focus (intro hh; first | exact no_tf (by assumption) hh | exact absurd hh (by decide) | skip))) | (apply o_ret; (focus (walk_at "v"; done)); (focus (exact rfl))) | apply o_nil))
theorem filt_all (l : List D) (h : D → Bool) : (l.filter fun x => !h x).isEmpty = l.all h := by
  induction l with
  | nil => rfl
  | cons c l ih =>
    rw [List.all_cons, List.filter_cons]
    cases h c with
    | true => exact ih
    | false => rfl
theorem filt_any (l : List D) (p : D → Bool) : (l.filter p).isEmpty = !l.any p := by
  induction l with
  | nil => rfl
  | cons c l ih =>
    rw [List.any_cons, List.filter_cons]
    cases p c with
    | true => rfl
    | false => exact ih
theorem cellsEq_range : ∀ (os cs : List D), os.length = cs.length → ((List.range cs.length).map fun (i : Nat) => D.int (i : Int)).all (fun it => cellEq (atV (.tup os) it) (atV (.tup cs) it)) = cellsEq os cs
  | [], [], _ => rfl
  | o :: os, c :: cs, h => by
    have ih := cellsEq_range os cs (by simpa using h)
    rw [List.length_cons, List.range_succ_eq_map, List.map_cons, List.all_cons, cellsEq, ← ih, List.map_map, List.all_map, List.all_map]
    congr 1
  | [], _ :: _, h => by simp at h
  | _ :: _, [], h => by simp at h
section
variable {X : CF} {m : Nat}
theorem lonce_e (n : Nat) {r : D} (hr : Row m r) (hm : m ≤ 1000) {fs : List D} (hf : Rows m fs) (hl : fs.length ≤ 1000) {ρ : List (String × D)} (h1 : ρ.lookup "_law_found" = some (.list fs)) (h2 : ρ.lookup "_law_row" = some r) :
    evE (callN PP X (n + 1)) ρ (.not (.comp (.var "_law_one") "_law_one" (.var "_law_found") [.not (.comp (.var "_law_k") "_law_k" (.blt "range" [.blt "len" [.var "_law_row"]]) [.not (.call "_law_alike" [.sub (.var "_law_one") (.var "_law_k"), .sub (.var "_law_row") (.var "_law_k")])])])) = some (.bool (!fs.any fun x => keyEq x r)) := by
  obtain ⟨cs, rfl, hlr, hg⟩ := hr
  have hb : cs.length ≤ big := by rw [hlr]; exact Nat.le_trans hm (by decide)
  have hlen : ((List.range cs.length).map fun (i : Nat) => D.int (i : Int)).length = cs.length := by simp
  have e : (!fs.any fun x => keyEq x (.tup cs)) = !(!(fs.filter fun x => keyEq x (.tup cs)).isEmpty) := by rw [filt_any, Bool.not_not]
  rw [e]
  refine v_not (v_comp (ds := fs.filter fun x => keyEq x (.tup cs)) ((e_var _ _ _).trans h1) rfl (Nat.le_trans hl (by decide)) (compM_filter _ _ _ fun it hit => ?_)) rfl
  obtain ⟨os, rfl, hlo, hgo⟩ := hf it hit
  have e2 : keyEq (.tup os) (.tup cs) = !(!(((List.range cs.length).map fun (i : Nat) => D.int (i : Int)).filter fun it => !cellEq (atV (.tup os) it) (atV (.tup cs) it)).isEmpty) := by
    rw [filt_all, Bool.not_not, cellsEq_range os cs (by omega)]; rfl
  rw [e2]
  refine compF_one (v_not (v_comp (x := .rng 0 cs.length) (v_blt (v_cons (v_blt (v_cons (d := .tup cs) ((e_var _ _ _).trans h2) (es_nil _ _)) rfl) (es_nil _ _)) (blt_rng hb)) (items_rng cs.length) (Nat.le_trans (Nat.le_of_eq hlen) hb) (compM_filter _ (fun it => !cellEq (atV (.tup os) it) (atV (.tup cs) it)) _ fun k hk => ?_)) rfl) rfl fun _ => rfl
  obtain ⟨i, hi, rfl⟩ := List.mem_map.mp hk
  have hi := List.mem_range.mp hi
  have q1 : subD (.tup os) (.int i) = some (atV (.tup os) (.int i)) := getD_at (by omega)
  have q2 : subD (.tup cs) (.int i) = some (atV (.tup cs) (.int i)) := getD_at hi
  have q3 := lalike_eq (X := X) bc n (atV (.tup os) (.int i)) (atV (.tup cs) (.int i)) (Good.getD hgo (by omega)).cell (Good.getD hg hi).cell
  exact compF_one (v_not (v_callE (v_cons (v_sub (x := .tup os) (y := .int i) rfl rfl q1) (v_cons (v_sub (x := .tup cs) (y := .int i) ((e_var _ _ _).trans h2) rfl q2) (es_nil _ _))) q3) rfl) rfl fun _ => rfl
/-- what is due, by the word -/
theorem due0 (n : Nat) {rows cls : List D} (hr : Rows m rows) (hl : rows.length ≤ 1000) (hc : ∀ d ∈ cls, Cls m d) (hcl : cls.length ≤ 1000) : (callN PP X (n + 4)).call "_law_due" [.int 0, .tup cls, .list rows] = some (.list (rows.filter (keepV cls)), true) := by
  refine run_call (by rfl : PP.lookup "_law_due" = some fn_law_due) rfl ?_
  refine r_if (k := true) rfl rfl (fun _ => ?_) nofun
  refine r_ret (v_map (v_comp (x := .list rows) (ds := rows.filter (keepV cls)) rfl rfl (Nat.le_trans hl (by decide)) (compM_filter _ _ _ fun it hit => ?_)) rfl rfl) rfl
  exact compF_one (lkeep_e n (hr it hit) hc hcl rfl rfl) rfl fun _ => rfl
theorem due1 (n : Nat) {rows ps : List D} (hr : Rows m rows) (hl : rows.length ≤ 1000) (hp : Plc m ps) (hpl : ps.length ≤ 1000) : (callN PP X (n + 1)).call "_law_due" [.int 1, .tup ps, .list rows] = some (.list (rows.map fun r => .tup (ps.map (atV r))), true) := by
  refine run_call (by rfl : PP.lookup "_law_due" = some fn_law_due) rfl ?_
  refine r_if (k := false) rfl rfl nofun fun _ => r_if (k := true) rfl rfl (fun _ => ?_) nofun
  refine r_ret (v_map (v_comp (x := .list rows) (ds := rows.map fun r => .tup (ps.map (atV r))) rfl rfl (Nat.le_trans hl (by decide)) (compM_map _ _ _ fun it hit => ?_)) rfl rfl) rfl
  exact compF_nil (lpick_e (hr it hit) hp hpl rfl rfl)
theorem sl_take {rows : List D} {t : Int} (h : 0 ≤ t) : slD (.list rows) .none (.int t) = some (.list ((rows.take t.toNat).drop 0)) := by
  have e : bnd (.int t) rows.length = some t.toNat := if_pos h
  show (bnd (.int t) rows.length).map (fun b => D.list ((rows.take b).drop 0)) = _
  rw [e]; rfl
theorem due2 (n : Nat) {rows : List D} {t : Int} (h : 0 ≤ t) : (callN PP X (n + 1)).call "_law_due" [.int 2, .int t, .list rows] = some (.list ((rows.take t.toNat).drop 0), true) := by
  refine run_call (by rfl : PP.lookup "_law_due" = some fn_law_due) rfl ?_
  refine r_if (k := false) rfl rfl nofun fun _ => r_if (k := false) rfl rfl nofun fun _ => r_if (k := true) rfl rfl (fun _ => ?_) nofun
  exact r_ret (v_map (v_sl (x := .list rows) (u := .none) (v := .int t) rfl rfl rfl (sl_take h)) rfl rfl) rfl
theorem due4 (n : Nat) {rows : List D} {th : D} : (callN PP X (n + 1)).call "_law_due" [.int 4, th, .list rows] = some (.list rows, false) :=
  run_call (by rfl : PP.lookup "_law_due" = some fn_law_due) rfl (r_if (k := false) rfl rfl nofun fun _ => r_if (k := false) rfl rfl nofun fun _ => r_if (k := false) rfl rfl nofun fun _ => r_if (k := true) rfl rfl (fun _ => r_retv rfl) nofun)
theorem due5 (n : Nat) {rows cls : List D} (hr : Rows m rows) (hl : rows.length ≤ 1000) (hc : ∀ d ∈ cls, Cls m d) (hcl : cls.length ≤ 1000) : (callN PP X (n + 4)).call "_law_due" [.int 5, .tup cls, .list rows] = some (.list (rows ++ rows.filter (keepV cls)), true) := by
  refine run_call (by rfl : PP.lookup "_law_due" = some fn_law_due) rfl ?_
  refine r_if (k := false) rfl rfl nofun fun _ => r_if (k := false) rfl rfl nofun fun _ => r_if (k := false) rfl rfl nofun fun _ => r_if (k := false) rfl rfl nofun fun _ => r_if (k := true) rfl rfl (fun _ => ?_) nofun
  have hlf := List.length_filter_le (keepV cls) rows
  have hb : rows.length + (rows.filter (keepV cls)).length ≤ big := by
    have : (2000 : Nat) ≤ big := by decide
    omega
  refine r_ret (v_map (v_bin (x := .list rows) rfl (v_comp (x := .list rows) (ds := rows.filter (keepV cls)) rfl rfl (Nat.le_trans hl (by decide)) (compM_filter _ _ _ fun it hit => ?_)) (bin_ll hb)) rfl rfl) rfl
  exact compF_one (lkeep_e n (hr it hit) hc hcl rfl rfl) rfl fun _ => rfl
theorem due3 (n : Nat) {rows : List D} {cls : List D} (hr : Rows m rows) (hm : m ≤ 1000) (hl : rows.length ≤ 1000) : (callN PP X (n + 2)).call "_law_due" [.int 3, .tup cls, .list rows] = some (.list (onceV [] rows), true) := by
  refine run_call (by rfl : PP.lookup "_law_due" = some fn_law_due) rfl ?_
  refine r_if (k := false) rfl rfl nofun fun _ => r_if (k := false) rfl rfl nofun fun _ => r_if (k := false) rfl rfl nofun fun _ => r_if (k := false) rfl rfl nofun fun _ => r_if (k := false) rfl rfl nofun fun _ => ?_
  refine r_step (p_assign (d := .list []) (fr := true) rfl) ?_
  obtain ⟨σ', ⟨l, rfl⟩, h3⟩ := loop_inv (cf := callN PP X (n + 1)) (body := [.ite (.not (.comp (.var "_law_one") "_law_one" (.var "_law_found") [.not (.comp (.var "_law_k") "_law_k" (.blt "range" [.blt "len" [.var "_law_row"]]) [.not (.call "_law_alike" [.sub (.var "_law_one") (.var "_law_k"), .sub (.var "_law_row") (.var "_law_k")])])])) [.append "_law_found" (.var "_law_row")] []]) (z := "_law_row")
    (fun a σ => ∃ l, σ = ("_law_word", (false, .int 3)) :: ("_law_thing", (false, .tup cls)) :: ("_law_rows", (false, .list rows)) :: ("_law_found", (true, .list (onceV [] a))) :: l) rows [] [("_law_word", (false, .int 3)), ("_law_thing", (false, .tup cls)), ("_law_rows", (false, .list rows)), ("_law_found", (true, .list []))] ⟨[], rfl⟩ (by
    rintro a it b σ hab ⟨l, rfl⟩
    rw [List.nil_append] at hab
    have hit : Row m it := hr it (by rw [hab]; simp)
    have hks := onceV_sub (C := Row m) a [] (fun _ h => nomatch h) fun r h => hr r (by rw [hab]; exact List.mem_append_left _ h)
    have hlen : (onceV [] a).length ≤ 1000 := by
      have h1 := onceV_len a []
      have h2 : a.length ≤ rows.length := by rw [hab]; simp
      simp at h1; omega
    have hlb : (onceV [] a).length < big := Nat.lt_of_le_of_lt hlen (by decide)
    have hsn := onceV_snoc [] a it
    have hv : (vis (("_law_word", (false, .int 3)) :: ("_law_thing", (false, .tup cls)) :: ("_law_rows", (false, .list rows)) :: ("_law_found", (true, .list (onceV [] a))) :: setv l "_law_row" (false, it))).lookup "_law_row" = some it := by
      rw [lookup_vis]; show ((setv l "_law_row" (false, it)).lookup "_law_row").map _ = _; rw [lookup_setv]; rfl
    have hc := lonce_e (X := X) n hit hm hks hlen (ρ := vis (("_law_word", (false, .int 3)) :: ("_law_thing", (false, .tup cls)) :: ("_law_rows", (false, .list rows)) :: ("_law_found", (true, .list (onceV [] a))) :: setv l "_law_row" (false, it))) rfl hv
    obtain ⟨cs, rfl, _⟩ := hit
    refine o_norm (σ' := ("_law_word", (false, .int 3)) :: ("_law_thing", (false, .tup cls)) :: ("_law_rows", (false, .list rows)) :: ("_law_found", (true, .list (onceV [] a))) :: setv l "_law_row" (false, .tup cs)) rfl ?_
    refine o_if hc rfl (fun hh => ?_) fun hh => ?_
    · have hh : ((onceV [] a).any fun x => keyEq x (.tup cs)) = false := by simpa using hh
      rw [if_neg (by rw [hh]; exact Bool.false_ne_true)] at hsn
      exact o_step (p_append ((e_var _ _ _).trans hv) rfl hlb) (o_nil ⟨rfl, _, by rw [hsn]; rfl⟩)
    · have hh : ((onceV [] a).any fun x => keyEq x (.tup cs)) = true := by simpa using hh
      rw [if_pos hh] at hsn
      exact o_nil ⟨rfl, _, by rw [hsn]⟩)
  exact r_for (x := .list rows) (its := rows) rfl rfl h3 (r_retv rfl)
end
end Mine

namespace Mine
open PySem
set_option maxRecDepth 100000
set_option maxHeartbeats 400000
theorem v_neg1 {cf : CF} {ρ : List (String × D)} : evE cf ρ (.neg (.int 1)) = some (.int (-1)) := rfl
theorem steps_at (n : Nat) : (callN PP X4 n).glob "STEPS" = some (.tup steps) := glob_x PP X4 n "STEPS"
local macro_rules | `(tactic| walk_at "v") => `(tactic| repeat' (first | (with_reducible assumption) | (with_reducible exact e_int _ _ _) | (with_reducible exact e_str _ _ _) | (with_reducible exact e_bool _ _ _) | (with_reducible exact e_none _ _) | (with_reducible exact es_nil _ _) | ((with_reducible refine (e_var _ _ _).trans ?_); exact rfl) | ((with_reducible refine (e_glob _ _ _).trans ?_); (with_reducible assumption)) | (with_reducible exact v_neg1) | (with_reducible apply v_cons) | (with_reducible apply v_bin) | (with_reducible exact b_add) | (with_reducible exact b_sb) | (with_reducible apply b_mod) | (with_reducible apply b_div) | ((with_reducible apply b_mulL); (focus decide)) | (with_reducible apply b_mul) | (with_reducible apply v_cmp) | (with_reducible apply v_sub) | (with_reducible apply v_sl) | (with_reducible apply v_not) | (with_reducible apply v_isi) | (with_reducible apply v_blt) | (with_reducible apply v_tup) | (with_reducible apply v_lst) | (with_reducible apply v_lcp) | (with_reducible apply v_callE) | (with_reducible apply v_call) | (with_reducible apply v_bop1) | ((with_reducible apply v_and); rotate_left; intro _; rotate_right) | ((with_reducible apply v_or); rotate_left; intro _; rotate_right) | (with_reducible apply v_map) | ((with_reducible show cmpD _ _ _ = _); exact rfl) | ((with_reducible show truth _ = _); exact rfl) | ((with_reducible show isiD _ _ = _); exact rfl) | ((with_reducible show frF _ _ = _); exact rfl) | ((with_reducible show isCallE _ = _); exact rfl) | ((with_reducible show bltD _ _ = _); exact rfl) | ((with_reducible show lstD _ = _); exact rfl) | ((with_reducible show subD _ _ = _); exact rfl) | decide | exact Nat.le_of_ble_eq_true rfl))
local macro_rules | `(tactic| walk_at "s") => `(tactic| repeat' (first | (apply r_step; (focus (first | ((with_reducible apply p_cell); (focus (walk_at "v"; done)); (with_reducible assumption)) | ((with_reducible apply p_assign); walk_at "v"; done)))) | (apply r_if; (focus (walk_at "v"; done)); (focus (exact rfl)); (focus (intro hh; first | exact no_tf hh (by assumption) | exact absurd hh (by decide) | skip)); rotate_left; (focus (intro hh; first | exact no_tf (by assumption) hh | exact absurd hh (by decide) | skip))) | (apply r_retv; (focus (exact rfl))) | (apply r_ret; (focus (walk_at "v"; done)); (focus (exact rfl)))))
local macro_rules | `(tactic| walk_at "q") => `(tactic| repeat' (first | (apply q_step; (focus (first | ((with_reducible apply p_cell); (focus (walk_at "v"; done)); (with_reducible assumption)) | ((with_reducible apply p_assign); walk_at "v"; done)))) | (apply q_if; (focus (walk_at "v"; done)); (focus (exact rfl)); (focus (intro hh; first | exact no_tf hh (by assumption) | exact absurd hh (by decide) | skip)); rotate_left; (focus (intro hh; first | exact no_tf (by assumption) hh | exact absurd hh (by decide) | skip))) | (apply q_retv; (focus (exact rfl))) | (apply q_ret; (focus (walk_at "v"; done)); (focus (exact rfl)))))
local macro_rules | `(tactic| walk_at "o") => `(tactic| repeat' (first | (apply o_step; (focus (first | ((with_reducible apply p_cell); (focus (walk_at "v"; done)); (with_reducible assumption)) | ((with_reducible apply p_assign); walk_at "v"; done)))) | (apply o_if; (focus (walk_at "v"; done)); (focus (exact rfl)); (focus (intro hh; first | exact no_tf hh (by assumption) | exact absurd hh (by decide) | skip)); rotate_left; (focus (intro hh; first | exact no_tf (by assumption) hh | exact absurd hh (by decide) | skip))) | (apply o_ret; (focus (walk_at "v"; done)); (focus (exact rfl))) | apply o_nil))
noncomputable def q0 (nm : Str) : D := .tup [.str (Str.ofString "table"), .str nm]
section
variable {m : Nat} {nm : Str} {rows : List D}
theorem st_sieve (n : Nat) {cls : List D} {q : D} (hr : Rows m rows) (hl : rows.length ≤ 1000) (hc : ∀ d ∈ cls, Cls m d) : (callN PP X4 (n + 5)).call "stepped" [.tup [.str (Str.ofString "sieve"), .tup cls, q], .list rows] = some (.list (rows.filter (keepV cls)), true) := by
  refine run_call (by rfl : PP.lookup "stepped" = some fn_stepped) rfl ?_
  refine r_step (p_assign (d := .str (Str.ofString "sieve")) (fr := false) rfl) (r_if (k := true) rfl rfl (fun _ => ?_) nofun)
  refine r_ret (v_map (v_comp (x := .list rows) (ds := rows.filter (keepV cls)) rfl rfl (Nat.le_trans hl (by decide)) (compM_filter _ _ _ fun it hit => ?_)) rfl rfl) rfl
  exact compF_one (v_callE (v_cons (d := .tup cls) rfl (v_cons (d := it) rfl (es_nil _ _))) (keeps_eq n (hr it hit) hc)) rfl fun _ => rfl
theorem st_pick (n : Nat) {ps : List D} {q : D} (hr : Rows m rows) (hl : rows.length ≤ 1000) (hp : Plc m ps) (hpl : ps.length ≤ 1000) : (callN PP X4 (n + 2)).call "stepped" [.tup [.str (Str.ofString "pick"), .tup ps, q], .list rows] = some (.list (rows.map fun r => .tup (ps.map (atV r))), true) := by
  refine run_call (by rfl : PP.lookup "stepped" = some fn_stepped) rfl ?_
  refine r_step (p_assign (d := .str (Str.ofString "pick")) (fr := false) rfl) (r_if (k := false) rfl rfl nofun fun _ => r_if (k := true) rfl rfl (fun _ => ?_) nofun)
  refine r_ret (v_map (v_comp (x := .list rows) (ds := rows.map fun r => .tup (ps.map (atV r))) rfl rfl (Nat.le_trans hl (by decide)) (compM_map _ _ _ fun it hit => ?_)) rfl rfl) rfl
  exact compF_nil (v_callE (v_cons (d := it) rfl (v_cons (d := .tup ps) rfl (es_nil _ _))) (cells_at n (hr it hit) hp hpl))
theorem st_once (n : Nat) {q : D} (hr : Rows m rows) (hl : rows.length ≤ 1000) : (callN PP X4 (n + 2)).call "stepped" [.tup [.str (Str.ofString "once"), q], .list rows] = some (.list (onceV [] rows), true) := by
  have h := once_eq (X := X4) n hr hl
  refine run_call (by rfl : PP.lookup "stepped" = some fn_stepped) rfl ?_
  generalize callN PP X4 (n + 1) = cf at *
  walk_at "s"
theorem st_first (n : Nat) {t : Int} {q : D} (h : 0 ≤ t) : (callN PP X4 (n + 1)).call "stepped" [.tup [.str (Str.ofString "first"), .int t, q], .list rows] = some (.list ((rows.take t.toNat).drop 0), true) := by
  have h := sl_take (rows := rows) h
  refine run_call (by rfl : PP.lookup "stepped" = some fn_stepped) rfl ?_
  generalize callN PP X4 n = cf at *
  walk_at "s"
theorem tab_in : cmpD .NotIn (.str nm) (tabs nm rows) = some (.bool false) := by
  show some (D.bool (!((nm == nm) || _))) = _
  rw [beq_self_eq_true]; rfl
theorem ans_table (n : Nat) : (callN PP X4 (n + 1)).call "answer" [q0 nm, tabs nm rows] = some (.list rows, true) := by
  have hg := steps_at n
  have h1 := tab_in (nm := nm) (rows := rows)
  have h2 := tab_at (nm := nm) (rows := rows)
  refine run_call (by rfl : PP.lookup "answer" = some fn_answer) rfl ?_
  generalize callN PP X4 n = cf at *
  unfold q0
  generalize ht : tabs nm rows = T at *
  walk_at "s"
theorem ans_step (n : Nat) {w : String} {th : D} {res : List D} (hw : w = "sieve" ∨ w = "pick" ∨ w = "first") (h : (callN PP X4 (n + 1)).call "stepped" [.tup [.str (Str.ofString w), th, q0 nm], .list rows] = some (.list res, true)) : (callN PP X4 (n + 2)).call "answer" [.tup [.str (Str.ofString w), th, q0 nm], tabs nm rows] = some (.list res, true) := by
  have hg := steps_at (n + 1)
  have h1 := ans_table (nm := nm) (rows := rows) n
  refine run_call (by rfl : PP.lookup "answer" = some fn_answer) rfl ?_
  generalize callN PP X4 (n + 1) = cf at *
  generalize tabs nm rows = T at *
  rcases hw with rfl | rfl | rfl <;> walk_at "s"
theorem ans_once (n : Nat) {res : List D} (h : (callN PP X4 (n + 1)).call "stepped" [.tup [.str (Str.ofString "once"), q0 nm], .list rows] = some (.list res, true)) : (callN PP X4 (n + 2)).call "answer" [.tup [.str (Str.ofString "once"), q0 nm], tabs nm rows] = some (.list res, true) := by
  have hg := steps_at (n + 1)
  have h1 := ans_table (nm := nm) (rows := rows) n
  refine run_call (by rfl : PP.lookup "answer" = some fn_answer) rfl ?_
  generalize callN PP X4 (n + 1) = cf at *
  generalize tabs nm rows = T at *
  walk_at "s"
theorem ans_both (n : Nat) {q : D} {res : List D} (h : (callN PP X4 (n + 1)).call "answer" [q, tabs nm rows] = some (.list res, true)) (hl : rows.length + res.length ≤ big) : (callN PP X4 (n + 2)).call "answer" [.tup [.str (Str.ofString "both"), q0 nm, q], tabs nm rows] = some (.list (rows ++ res), true) := by
  have hg := steps_at (n + 1)
  have h1 := ans_table (nm := nm) (rows := rows) n
  have h2 := bin_ll hl
  refine run_call (by rfl : PP.lookup "answer" = some fn_answer) rfl ?_
  generalize callN PP X4 (n + 1) = cf at *
  generalize tabs nm rows = T at *
  walk_at "s"
/-- the law's end -/
theorem law_tail {cf : CF} {S th q : D} {res : List D} {c3 w : Int} {frd : Bool} (hn : (nm == Str.ofString "other") = false) (hcop : cf.call "_law_copied" [tabs nm rows] = some (tabs nm rows, true)) (hans : cf.call "answer" [q, tabs nm rows] = some (.list res, true))
    (hdue : cf.call "_law_due" [.int w, th, .list rows] = some (.list res, frd)) (hare : cf.call "_law_rows_are" [.list res, .list res] = some (.bool true, false)) (hst : cf.call "_law_stayed" [tabs nm rows, tabs nm rows] = some (.bool true, false)) (hl : res.length < big) :
    Run cf (fn_law.body.drop 12) [("_law_script", (false, S)), ("_law_wide", (false, .int m)), ("_law_rows", (true, .list rows)), ("_law_cell", (false, .int c3)), ("_law_word", (false, .int w)), ("_law_thing", (false, th)), ("_law_name", (false, .str nm)), ("_law_query", (false, q))] (.bool true) false := by
  have e : dputs [.str nm, .str (Str.ofString "other")] [.list rows, .list [.tup [.int 1]]] = ([.str nm, .str (Str.ofString "other")], [.list rows, .list [.tup [.int 1]]]) := by
    show dput [.str nm] [.list rows] (.str (Str.ofString "other")) (.list [.tup [.int 1]]) = _
    show (if keyEq (.str nm) (.str (Str.ofString "other")) = true then _ else _) = _
    rw [if_neg (by show ¬ (nm == Str.ofString "other") = true; rw [hn]; exact Bool.false_ne_true)]
    rfl
  refine r_step (p_assign (d := tabs nm rows) (fr := true) ?_) ?_
  · rw [evF_dct]
    show Option.map _ (some (D.dict (dputs [.str nm, .str (Str.ofString "other")] [.list rows, .list [.tup [.int 1]]]).1 (dputs [.str nm, .str (Str.ofString "other")] [.list rows, .list [.tup [.int 1]]]).2)) = _
    rw [e]; rfl
  refine r_step (p_assign (v_call (ds := [tabs nm rows]) rfl hcop)) ?_
  refine r_step (p_assign (v_call (ds := [q, tabs nm rows]) rfl hans)) ?_
  refine r_step (p_assign (v_call (ds := [.int w, th, .list rows]) rfl hdue)) ?_
  refine r_if (k := false) (v_not (v_callE (ds := [.list res, .list res]) rfl hare) rfl) rfl nofun fun _ => ?_
  refine r_step (p_append (d := .tup [.str (Str.ofString "more")]) (ds := res) rfl rfl hl) ?_
  exact r_ret (v_map (v_and (k := true) (l := true) (v_callE (ds := [tabs nm rows, tabs nm rows]) rfl hst) fun _ => v_bop1 (v_callE (v_cons (v_callE (ds := [q, tabs nm rows]) rfl hans) (v_cons (d := .list res) rfl (es_nil _ _))) hare)) rfl rfl) rfl
end
end Mine

namespace Mine
open PySem
set_option maxRecDepth 100000
set_option maxHeartbeats 400000
local macro_rules | `(tactic| walk_at "v") => `(tactic| repeat' (first | (with_reducible assumption) | (with_reducible exact e_int _ _ _) | (with_reducible exact e_str _ _ _) | (with_reducible exact e_bool _ _ _) | (with_reducible exact e_none _ _) | (with_reducible exact es_nil _ _) | ((with_reducible refine (e_var _ _ _).trans ?_); exact rfl) | ((with_reducible refine (e_glob _ _ _).trans ?_); (with_reducible assumption)) | (with_reducible exact v_neg1) | (with_reducible apply v_cons) | (with_reducible apply v_bin) | (with_reducible exact b_add) | (with_reducible exact b_sb) | (with_reducible apply b_mod) | (with_reducible apply b_div) | ((with_reducible apply b_mulL); (focus decide)) | (with_reducible apply b_mul) | (with_reducible apply v_cmp) | (with_reducible apply v_sub) | (with_reducible apply v_sl) | (with_reducible apply v_not) | (with_reducible apply v_isi) | (with_reducible apply v_blt) | (with_reducible apply v_tup) | (with_reducible apply v_lst) | (with_reducible apply v_lcp) | (with_reducible apply v_callE) | (with_reducible apply v_call) | (with_reducible apply v_bop1) | ((with_reducible apply v_and); rotate_left; intro _; rotate_right) | ((with_reducible apply v_or); rotate_left; intro _; rotate_right) | (with_reducible apply v_map) | ((with_reducible show cmpD _ _ _ = _); exact rfl) | ((with_reducible show truth _ = _); exact rfl) | ((with_reducible show isiD _ _ = _); exact rfl) | ((with_reducible show frF _ _ = _); exact rfl) | ((with_reducible show isCallE _ = _); exact rfl) | ((with_reducible show bltD _ _ = _); exact rfl) | ((with_reducible show lstD _ = _); exact rfl) | ((with_reducible show subD _ _ = _); exact rfl) | decide | exact Nat.le_of_ble_eq_true rfl))
local macro_rules | `(tactic| walk_at "s") => `(tactic| repeat' (first | (apply r_step; (focus (first | ((with_reducible apply p_cell); (focus (walk_at "v"; done)); (with_reducible assumption)) | ((with_reducible apply p_assign); walk_at "v"; done)))) | (apply r_if; (focus (walk_at "v"; done)); (focus (exact rfl)); (focus (intro hh; first | exact no_tf hh (by assumption) | exact absurd hh (by decide) | skip)); rotate_left; (focus (intro hh; first | exact no_tf (by assumption) hh | exact absurd hh (by decide) | skip))) | (apply r_retv; (focus (exact rfl))) | (apply r_ret; (focus (walk_at "v"; done)); (focus (exact rfl)))))
local macro_rules | `(tactic| walk_at "q") => `(tactic| repeat' (first | (apply q_step; (focus (first | ((with_reducible apply p_cell); (focus (walk_at "v"; done)); (with_reducible assumption)) | ((with_reducible apply p_assign); walk_at "v"; done)))) | (apply q_if; (focus (walk_at "v"; done)); (focus (exact rfl)); (focus (intro hh; first | exact no_tf hh (by assumption) | exact absurd hh (by decide) | skip)); rotate_left; (focus (intro hh; first | exact no_tf (by assumption) hh | exact absurd hh (by decide) | skip))) | (apply q_retv; (focus (exact rfl))) | (apply q_ret; (focus (walk_at "v"; done)); (focus (exact rfl)))))
local macro_rules | `(tactic| walk_at "o") => `(tactic| repeat' (first | (apply o_step; (focus (first | ((with_reducible apply p_cell); (focus (walk_at "v"; done)); (with_reducible assumption)) | ((with_reducible apply p_assign); walk_at "v"; done)))) | (apply o_if; (focus (walk_at "v"; done)); (focus (exact rfl)); (focus (intro hh; first | exact no_tf hh (by assumption) | exact absurd hh (by decide) | skip)); rotate_left; (focus (intro hh; first | exact no_tf (by assumption) hh | exact absurd hh (by decide) | skip))) | (apply o_ret; (focus (walk_at "v"; done)); (focus (exact rfl))) | apply o_nil))
theorem Row.flat {m : Nat} (hm : m ≤ 1000) {r : D} (h : Row m r) : Flat r := by
  obtain ⟨cs, rfl, hl, hg⟩ := h
  exact ⟨cs, rfl, by omega, fun d hd => (hg d hd).cell⟩
theorem many_by {X : CF} (n : Nat) (c : Int) : ∃ k : Nat, k ≤ 13 ∧ (callN PP X (n + 1)).call "_law_many" [.int c] = some (.int k, false) := by
  obtain ⟨k1, e1, l1⟩ := emod_nat (c / 36) (k := 13) (by decide)
  obtain ⟨k2, e2, l2⟩ := emod_nat c (k := 4) (by decide)
  have e1 : c / 36 % 13 = (k1 : Int) := e1
  have e2 : c % 4 = (k2 : Int) := e2
  have f1 : ∃ k : Nat, k ≤ 13 ∧ D.int (c / 36 % 13) = .int k := ⟨k1, Nat.le_of_lt l1, by rw [e1]⟩
  have f2 : ∃ k : Nat, k ≤ 13 ∧ D.int (c % 4) = .int k := ⟨k2, by omega, by rw [e2]⟩
  have key : Rex (callN PP X n) fn_law_many.body [("_law_cell", (false, .int c))] fun d fr => (∃ k : Nat, k ≤ 13 ∧ d = .int k) ∧ fr = false := by
    walk_at "q"
    all_goals first | exact ⟨f1, rfl⟩ | exact ⟨f2, rfl⟩
  obtain ⟨d, fr, ⟨⟨k, hk, rfl⟩, rfl⟩, hr⟩ := rex_call (X := X) (n := n) (args := [.int c]) (by rfl : PP.lookup "_law_many" = some fn_law_many) rfl key
  exact ⟨k, hk, hr⟩
theorem r_seq {cf : CF} {a b : List MS} {σ σ' : St} {d : D} {fr : Bool} (h : Nxt cf a σ σ') (k : Run cf b σ' d fr) : Run cf (a ++ b) σ d fr := by
  unfold Run; rw [x_app, h]; exact k
noncomputable def T40 : Int := 10 ^ 40
theorem pure_ok (n : Nat) (ns : List Int) : ∃ fr, (callN PP X4 (n + 8)).call "law" [.list (ns.map .int)] = some (.bool true, fr) := by
  refine ⟨false, run_call (by rfl : PP.lookup "law" = some fn_law) rfl ?_⟩
  have c0 : (callN PP X4 (n + 7)).call "_law_cell_at" [.list (ns.map .int), .int 0] = _ := cell_at (X := X4) bg (n + 6) ns 0
  have c2 : (callN PP X4 (n + 7)).call "_law_cell_at" [.list (ns.map .int), .int 2] = _ := cell_at (X := X4) bg (n + 6) ns 2
  have c3 : (callN PP X4 (n + 7)).call "_law_cell_at" [.list (ns.map .int), .int 3] = _ := cell_at (X := X4) bg (n + 6) ns 3
  have c4 : (callN PP X4 (n + 7)).call "_law_cell_at" [.list (ns.map .int), .int 4] = _ := cell_at (X := X4) bg (n + 6) ns 4
  have hm := wide_le (ns.getD 0 0)
  have hw := wide_by (X := X4) (n + 6) (ns.getD 0 0)
  obtain ⟨rows, hr, hl, ht⟩ := table_by (X := X4) (n + 3) ns
  generalize ns.getD 0 0 = z0 at *
  generalize ns.getD 2 0 = z2 at *
  generalize ns.getD 3 0 = z3 at *
  generalize ns.getD 4 0 = z4 at *
  generalize wideV z0 = m at *
  generalize D.list (ns.map .int) = S at *
  obtain ⟨mx, _, hmx⟩ := mixed (X := X4) bg (n + 6) z3 4
  obtain ⟨cl1, hc1, hl1, k1⟩ := clauses_by (X := X4) (n + 2) z3 m hm
  obtain ⟨cl2, hc2, hl2, k2⟩ := clauses_by (X := X4) (n + 2) (mx / 4 * 4 + 3) m hm
  have k3 := bin_tt (u := cl1) (v := cl2) (by
    have : (26 : Nat) ≤ big := by decide
    omega)
  have hcl : ∀ d ∈ cl1 ++ cl2, Cls m d := fun d h => (List.mem_append.mp h).elim (hc1 d) (hc2 d)
  have hll : (cl1 ++ cl2).length ≤ 1000 := by rw [List.length_append]; omega
  generalize cl1 ++ cl2 = cls at *
  obtain ⟨sg, hsg, k4⟩ := sign_by (X := X4) bg (n + 6) z4
  have hnl : (Str.ofString "t" ++ sg).length = 2 := by rw [len_append, hsg]; rfl
  have k5 := bin_ss (u := Str.ofString "t") (v := sg) (by rw [hsg]; decide +kernel)
  generalize Str.ofString "t" ++ sg = nm at *
  have hn : (nm == Str.ofString "other") = false := by
    rw [beq_eq_false_iff_ne]; rintro rfl; exact absurd hnl (by decide +kernel)
  have hA : Nxt (callN PP X4 (n + 7)) (fn_law.body.take 7) [("_law_script", (false, S))] [("_law_script", (false, S)), ("_law_wide", (false, .int m)), ("_law_rows", (true, .list rows)), ("_law_cell", (false, .int z3)), ("_law_word", (false, .int (z2 % 6))), ("_law_thing", (false, .tup cls)), ("_law_name", (false, .str nm)), ("_law_query", (false, q0 nm))] := by
    clear hr hl hcl hll hc1 hc2 hl1 hl2 hsg hnl hn
    iterate 7 (apply n_step; (focus ((with_reducible apply p_assign); walk_at "v"; done)))
    exact n_nil
  refine r_seq hA ?_
  clear hA c0 c2 c3 c4 hw ht k1 k2 k3 k4 k5 hc1 hc2 hl1 hl2 hsg hnl hmx
  have hl' : rows.length ≤ 1000 := by omega
  have hm' : m ≤ 1000 := by omega
  have hfl : ∀ r ∈ rows, Flat r := fun r h => (hr r h).flat hm'
  have hbig : (1000 : Nat) < big := by decide
  have fin : ∀ {w : Int} {th q : D} {res : List D} {frd : Bool}, (callN PP X4 (n + 7)).call "answer" [q, tabs nm rows] = some (.list res, true) → (callN PP X4 (n + 7)).call "_law_due" [.int w, th, .list rows] = some (.list res, frd) → res.length ≤ 1000 → (∀ r ∈ res, Flat r) →
      Run (callN PP X4 (n + 7)) (fn_law.body.drop 12) [("_law_script", (false, S)), ("_law_wide", (false, .int m)), ("_law_rows", (true, .list rows)), ("_law_cell", (false, .int z3)), ("_law_word", (false, .int w)), ("_law_thing", (false, th)), ("_law_name", (false, .str nm)), ("_law_query", (false, q))] (.bool true) false := fun h1 h2 h3 h4 =>
    law_tail hn (copied (X := X4) (n + 6) hn) h1 h2 (rows_are (X := X4) (n + 4) h3 h4) (stayed (X := X4) (n + 3) hn hl' hfl) (Nat.lt_of_le_of_lt h3 hbig)
  have hsl : (rows.filter (keepV cls)).length ≤ rows.length := List.length_filter_le ..
  obtain ⟨w, ew, hw6⟩ := emod_nat z2 (k := 6) (by decide)
  have ew : z2 % 6 = (w : Int) := ew
  rw [ew]
  match w, hw6 with
  | 0, _ =>
    have f := fin (ans_step (n + 5) (.inl rfl) (st_sieve (n + 1) (q := q0 nm) hr hl' hcl)) (due0 (X := X4) (n + 3) hr hl' hcl hll) (by omega) fun r h => hfl r (List.mem_filter.mp h).1
    exact r_if (k := true) rfl rfl (fun _ => r_step (p_assign (d := .tup [.str (Str.ofString "sieve"), .tup cls, q0 nm]) (fr := false) rfl) (r_if (k := false) rfl rfl nofun fun _ => r_if (k := false) rfl rfl nofun fun _ => r_if (k := false) rfl rfl nofun fun _ => r_if (k := false) rfl rfl nofun fun _ => r_norm rfl f)) nofun
  | 1, _ =>
    obtain ⟨kk, hkk, hmany⟩ := many_by (X := X4) (n + 6) z3
    obtain ⟨mn, hmn1, hmn0, hmin⟩ : ∃ mn : Nat, mn ≤ 1 ∧ (m = 0 → mn = 0) ∧ bltD "min" [.int 1, .int m] = some (.int mn) := by
      by_cases h0 : m = 0
      · exact ⟨0, by decide, fun _ => rfl, by rw [h0]; rfl⟩
      · refine ⟨1, by decide, fun h => absurd h h0, ?_⟩
        show some (D.int (if (m : Int) < 1 then m else 1)) = _
        rw [if_neg (by omega)]; rfl
    obtain ⟨mm, hmm, hmm0, hmax⟩ : ∃ mm : Nat, (m ≠ 0 → mm = m) ∧ 0 < mm ∧ bltD "max" [.int 1, .int m] = some (.int mm) := by
      by_cases h0 : 1 < m
      · refine ⟨m, fun _ => rfl, by omega, ?_⟩
        show some (D.int (if (m : Int) > 1 then m else 1)) = _
        rw [if_pos (by omega)]
      · refine ⟨1, fun h => by omega, by decide, ?_⟩
        show some (D.int (if (m : Int) > 1 then m else 1)) = _
        rw [if_neg (by omega)]; rfl
    have hmul : binD .Mult (.int kk) (.int mn) = some (.int (kk * mn : Nat)) := by rw [b_mul (by unfold lim; omega)]; simp
    have hK : kk * mn ≤ 13 := Nat.le_trans (Nat.mul_le_mul hkk hmn1) (by decide)
    obtain ⟨ps, p1, p2, p3⟩ := v_rows (cf := callN PP X4 (n + 7)) (ρ := vis [("_law_script", (false, S)), ("_law_wide", (false, .int m)), ("_law_rows", (true, .list rows)), ("_law_cell", (false, .int z3)), ("_law_word", (false, .int (1 : Nat))), ("_law_thing", (false, .tup cls)), ("_law_name", (false, .str nm)), ("_law_query", (false, q0 nm))])
      (elt := .bin .Mod (.call "_law_mixed" [.var "_law_cell", .var "_law_k"]) (.blt "max" [.int 1, .var "_law_wide"])) (z := "_law_k") (src := .bin .Mult (.call "_law_many" [.var "_law_cell"]) (.blt "min" [.int 1, .var "_law_wide"])) (k := kk * mn) (Nat.le_trans hK (by decide)) (fun d => ∃ p : Nat, p < m ∧ d = .int p) (by walk_at "v") (by
      intro i hi
      have h0 : m ≠ 0 := fun h => by rw [hmn0 h, Nat.mul_zero] at hi; exact Nat.not_lt_zero _ hi
      obtain ⟨r, _, hr'⟩ := mixed (X := X4) bg (n + 6) z3 i
      obtain ⟨p, ep, hp⟩ := emod_nat r hmm0
      have hq : (0 : Int) < mm := by omega
      exact ⟨.int p, ⟨p, hmm h0 ▸ hp, rfl⟩, by rw [← ep]; walk_at "v"⟩)
    have hps : ps.length ≤ 1000 := by omega
    have f := fin (th := .tup ps) (ans_step (n + 5) (.inr (.inl rfl)) (st_pick (n + 4) (q := q0 nm) hr hl' p2 hps)) (due1 (X := X4) (n + 6) hr hl' p2 hps) (by rw [List.length_map]; exact hl') (by
      intro r h
      obtain ⟨r0, h0, rfl⟩ := List.mem_map.mp h
      refine ⟨_, rfl, by rw [List.length_map]; exact hps, fun d hd => ?_⟩
      obtain ⟨pl, hpl, rfl⟩ := List.mem_map.mp hd
      obtain ⟨p, hp, rfl⟩ := p2 pl hpl
      obtain ⟨cs, rfl, hlc, hg⟩ := hr r0 h0
      exact (Good.getD hg (by rw [hlc]; exact hp)).cell)
    exact r_if (k := false) rfl rfl nofun fun _ => r_if (k := true) rfl rfl (fun _ => r_step (p_assign (v_map p3 rfl rfl)) (r_step (p_assign (d := .tup [.str (Str.ofString "pick"), .tup ps, q0 nm]) (fr := false) rfl)
      (r_if (k := false) rfl rfl nofun fun _ => r_if (k := false) rfl rfl nofun fun _ => r_if (k := false) rfl rfl nofun fun _ => r_norm rfl f))) nofun
  | 2, _ =>
    have f : ∀ t : Int, 0 ≤ t → _ := fun t h => fin (w := 2) (th := .int t) (ans_step (n + 5) (.inr (.inr rfl)) (st_first (n + 5) (q := q0 nm) h)) (due2 (X := X4) (n + 6) h) (by rw [List.drop_zero, List.length_take]; omega) fun r h => hfl r (List.mem_of_mem_take (by rwa [List.drop_zero] at h))
    have p40 : binD .Pow (.int 10) (.int 40) = some (.int T40) := b_pow (i := 10) (j := 40) (by decide +kernel)
    have t40 : 0 < T40 := by decide +kernel
    refine r_if (k := false) rfl rfl nofun fun _ => r_if (k := false) rfl rfl nofun fun _ => r_if (k := true) rfl rfl (fun _ => ?_) nofun
    refine r_step (p_assign (d := .int (z3 % 76)) (fr := false) (by walk_at "v")) ?_
    refine r_if (k := z3 / 76 % 5 == 1) (by walk_at "v") rfl (fun _ => ?_) fun _ => ?_
    · refine r_step (p_assign (d := .int (z3 / 380 % T40)) (fr := false) (by walk_at "v")) (r_step (p_assign (d := .tup [.str (Str.ofString "first"), .int (z3 / 380 % T40), q0 nm]) (fr := false) rfl) ?_)
      exact r_if (k := false) rfl rfl nofun fun _ => r_if (k := false) rfl rfl nofun fun _ => r_norm rfl (f _ (Int.emod_nonneg _ (by decide +kernel)))
    · refine r_step (p_assign (d := .tup [.str (Str.ofString "first"), .int (z3 % 76), q0 nm]) (fr := false) rfl) ?_
      exact r_if (k := false) rfl rfl nofun fun _ => r_if (k := false) rfl rfl nofun fun _ => r_norm rfl (f _ (Int.emod_nonneg _ (by decide)))
  | 3, _ =>
    have f := fin (w := 3) (th := .tup cls) (ans_once (n + 5) (st_once (n + 4) (q := q0 nm) hr hl')) (due3 (X := X4) (n + 5) hr hm' hl') (by have := onceV_len rows []; simp at this; omega) (onceV_sub rows [] (fun _ h => nomatch h) hfl)
    exact r_if (k := false) rfl rfl nofun fun _ => r_if (k := false) rfl rfl nofun fun _ => r_if (k := false) rfl rfl nofun fun _ => r_if (k := true) rfl rfl (fun _ => r_step (p_assign (d := .tup [.str (Str.ofString "once"), q0 nm]) (fr := false) rfl) (r_if (k := false) rfl rfl nofun fun _ => r_norm rfl f)) nofun
  | 4, _ =>
    have f := fin (w := 4) (th := .tup cls) (ans_table (n + 6)) (due4 (X := X4) (n + 6)) hl' hfl
    exact r_if (k := false) rfl rfl nofun fun _ => r_if (k := false) rfl rfl nofun fun _ => r_if (k := false) rfl rfl nofun fun _ => r_if (k := false) rfl rfl nofun fun _ => r_if (k := false) rfl rfl nofun fun _ => r_norm rfl f
  | 5, _ =>
    have f := fin (w := 5) (th := .tup cls) (ans_both (n + 5) (ans_step (n + 4) (.inl rfl) (st_sieve n (q := q0 nm) hr hl' hcl)) (by omega)) (due5 (X := X4) (n + 3) hr hl' hcl hll) (by rw [List.length_append]; omega) fun r h => (List.mem_append.mp h).elim (hfl r) fun h => hfl r (List.mem_filter.mp h).1
    exact r_if (k := false) rfl rfl nofun fun _ => r_if (k := false) rfl rfl nofun fun _ => r_if (k := false) rfl rfl nofun fun _ => r_if (k := false) rfl rfl nofun fun _ => r_if (k := true) rfl rfl (fun _ => r_step (p_assign (d := .tup [.str (Str.ofString "both"), q0 nm, .tup [.str (Str.ofString "sieve"), .tup cls, q0 nm]]) (fr := false) rfl) (r_norm rfl f)) nofun
end Mine

namespace Mine
open PySem
noncomputable def stepNames : List Str := ["table", "sieve", "pick", "join", "group", "order", "both", "once", "first"].map Str.ofString
noncomputable def strIs (v : Value) (y : Str) : Bool := match v with
  | .str x _ => x == y
  | _ => false
noncomputable def strsAre : List Value → List Str → Bool
  | [], [] => true
  | v :: vs, y :: ys => strIs v y && strsAre vs ys
  | _, _ => false
noncomputable def stepsObj (o : Obj) : Bool := (match o.data with | .seq vs _ => strsAre vs.toList stepNames | _ => false) && o.cls == .type "tuple" && o.dict.isNone && o.slots.isEmpty
noncomputable def stepsAt (s : Shared) : Bool := match s.heap.nsMap mainGlobals (Str.ofString "STEPS") with
  | some (.ref a) => (match s.heap.get? a with | some o => stepsObj o | none => false)
  | _ => false
noncomputable def GlobOk (mg : Str → Option Value) (h : Heap) : Prop := ∃ a vs n, mg (Str.ofString "STEPS") = some (.ref a) ∧ h.get? a = some (tupO vs n) ∧ strsAre vs.toList stepNames = true
theorem GlobOk.keeps {mg : Str → Option Value} {h h' : Heap} (x : GlobOk mg h) (hk : ∀ b o, h.get? b = some o → h'.get? b = some o) : GlobOk mg h' := let ⟨a, vs, n, h1, h2, h3⟩ := x; ⟨a, vs, n, h1, hk _ _ h2, h3⟩
theorem glob_of (s : Shared) (e : stepsAt s = true) : GlobOk (s.heap.nsMap mainGlobals) s.heap := by
  unfold stepsAt at e
  split at e
  · rename_i a ha
    split at e
    · rename_i o ho
      unfold stepsObj at e
      simp only [Bool.and_eq_true, beq_iff_eq, Option.isNone_iff_eq_none, Array.isEmpty_iff] at e
      obtain ⟨⟨⟨e1, e2⟩, e3⟩, e4⟩ := e
      split at e1
      · rename_i vs n hd
        refine ⟨a, vs, n, ha, ?_, e1⟩
        rw [ho]
        obtain ⟨c, d, dt, sl⟩ := o
        dsimp only at e2 e3 e4 hd
        subst e2 e3 e4 hd
        rfl
      · cases e1
    · cases e
  · cases e
theorem reps_strs {P : Params} {h : Heap} {H : Addr → Prop} : ∀ {vs : List Value} {ys : List Str}, strsAre vs ys = true → RepAll P h H vs (ys.map .str)
  | [], [], _ => .nil
  | [], _ :: _, e => by cases e
  | _ :: _, [], e => by cases e
  | v :: vs, y :: ys, e => by
    rw [strsAre, Bool.and_eq_true] at e
    obtain ⟨e1, e2⟩ := e
    refine .cons ?_ (reps_strs e2)
    cases v <;> first | (cases e1; done) | skip
    rename_i x t
    have e3 : (x == y) = true := e1
    rw [beq_iff_eq] at e3
    subst e3
    exact .str _ _
theorem hx4 {prog : Program} {w : World} {base : Heap} {mg : Str → Option Value} {A : Around} (g : GlobOk mg base) : CSound prog w base mg X4 A := by
  refine ⟨(fun _ _ _ _ h => nomatch h), fun x d h => ?_⟩
  have h : (if x = "STEPS" then some (D.tup steps) else none) = some d := h
  split at h
  · rename_i hx
    cases h
    subst hx
    obtain ⟨a, vs, n, h1, h2, h3⟩ := g
    refine ⟨_, h1, .tup h2 (fun q => q) (by decide) ?_⟩
    exact reps_strs h3
  · cases h
end Mine

namespace Mine
open PySem PySem.W PyProof.Rows
set_option maxRecDepth 100000
set_option maxHeartbeats 0
noncomputable def keepS : Stmt → Bool
  | .Assign [.Name x _] _ _ => x != Str.ofString "__name__"
  | _ => true
noncomputable def vw : Program := { PySem.Challenge.pw_uf030018_04 with main := { PySem.Challenge.pw_uf030018_04.main with body := PySem.Challenge.pw_uf030018_04.main.body.filter keepS } }
theorem ws : OpenLaw.wellSaid PySem.Challenge.rw_uf030018_04 = true := by decide +kernel
theorem left : LeftO PySem.Challenge.pw_uf030018_04 vw [] (fun s => xlAt vw [] s && recOk (RowW.records PySem.Challenge.rw_uf030018_04.row.toRowW) s && stepsAt s) (Hook.obs Hook.none) (Hook.val Hook.none) 3714 := fun w => by kernel_rfl
theorem dlSome : (defOf vw (Str.ofString "law")).isSome = true := by decide +kernel
noncomputable def dl : DefRec × List (Str × Expr) := (defOf vw (Str.ofString "law")).get dlSome
theorem dlDef : defOf vw PySem.Challenge.rw_uf030018_04.row.name = some (dl.1, dl.2) := (Option.some_get dlSome).symm
theorem dlIs : PySem.Challenge.rw_uf030018_04.row.prog.theDef PySem.Challenge.rw_uf030018_04.row.name = some (dl.1.params, dl.1.body, dl.1.scope) := by kernel_rfl
theorem dlKw : kwWritten? dl.1.params.kwonlyargs dl.1.params.kw_defaults = some dl.2 := by kernel_rfl
theorem dlName : dl.1.name = Str.ofString "law" := by kernel_rfl
theorem okAll : (chainsOk vw && opensWell PySem.Challenge.rw_uf030018_04.row.prog && (frees PySem.Challenge.rw_uf030018_04.row.toRowW && PySem.Challenge.rw_uf030018_04.row.within.isEmpty)) = true := by decide +kernel
theorem chkd : chkProg (recsOf vw) PP = true := by decide +kernel
theorem freed : bltFree vw (looseW vw []) = true := by decide +kernel
end Mine
open PySem PySem.W PyProof.Rows
set_option maxRecDepth 100000 in
set_option maxHeartbeats 8000000 in
theorem PySem.Challenge.cw_uf030018_04_holds : PySem.Challenge.rw_uf030018_04.Holds := by
  refine holds_law Mine.ws fun said => ?_
  refine holds_open (q := Mine.vw) (loose := []) (Xt := fun s => xlAt Mine.vw [] s && recOk (RowW.records PySem.Challenge.rw_uf030018_04.row.toRowW) s && Mine.stepsAt s) (XP := (fun mg h => XL Mine.vw [] mg h ∧ Mine.GlobOk mg h)) (Yf := Hook.obs Hook.none) (Ya := Hook.val Hook.none) (YP := Hook.says Hook.none) (N := 3714) Mine.left (Hook.of Hook.none) (Hook.keeps Hook.none) (fun s e => ⟨xl_of s (Bool.and_eq_true_iff.mp (Bool.and_eq_true_iff.mp e).1).1, Mine.glob_of s (Bool.and_eq_true_iff.mp e).2⟩) (fun mg h h' x k => ⟨XL.keeps mg h h' x.1 k, Mine.GlobOk.keeps x.2 k⟩) Mine.dlDef Mine.dlIs Mine.dlKw (fun s e => recFacts_of (Bool.and_eq_true_iff.mp (Bool.and_eq_true_iff.mp e).1).2) (by rfl) said Mine.okAll ⟨rfl, rfl, rfl, rfl, rfl, by decide +kernel⟩ ?hw ?hc
  (case hw => w_witness2)
  intro w s₀ s₁ mg mb G Y fa o pm cd doc dV kV ho hd hcd hD hmg hg args vals as hpre hlay hrd hwl hlo
  rw [Mine.dlName] at hmg
  refine Ground.open G ?_
  intro T B D TE TW
  wrow_args hpre hlay hrd hwl hlo
  exact Mine.law_fin (P := Mine.PP) (X := Mine.X4) 20 T Mine.chkd Mine.freed (by decide) (fun _ _ => Mine.hx4 G.X.2) hmg hg (by assumption) (by assumption) (Mine.pure_ok _ _)
