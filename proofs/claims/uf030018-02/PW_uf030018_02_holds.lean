import PyProof.Rows.All
import Wide.All
import OpenK.AllK
import Wide.FinOn
import PyProof.Cells
import PyProof.RangeIter
import PyProof.FactsAll.tuple
import PyProof.DictKinds
import PyProof.CompMap
import PyProof.DictKind
import PyProof.Rows.Tup
import PyProof.StrBlockI
import PyProof.StrBlock2
import PyProof.CompFree
import PyProof.Rows.IntRules
import PyProof.Rows.RuleB_mul
import PyProof.Rows.RuleB_floordiv
import PyProof.Rows.RuleB_pow
import PyProof.Rows.RuleB_mod
import PyProof.Rows.RuleC_int
import PyProof.Rows.RuleU_int
import PyProof.Rows.StrRules
import PyProof.Rows.Nodes
import PyProof.Rows.TupSub
import PyProof.ListOps
import PyProof.TupleOps
import PyProof.NeKinds
import PyProof.Rows.Lst
import PyProof.Rows.TupMore
import PyProof.Rows.StrTemp
import PyProof.ListTruth
import PyProof.TupleOfSeq
import PyProof.CallStr
import PyProof.RangeFor
import PyProof.Conv_int_bool
import PyProof.SliceStr2
import PyProof.SliceMore
import PyProof.ListIndexNeg
import PyProof.IsiPairs
import PyProof.IsiHeapPairs
import PyProof.Rows.Exc
import PyProof.Rows.Globals
import PyProof.IsiTuple
import PyProof.ListNew
import PyProof.WalksMore
import PyProof.Rows.StrTempNeg
import PyProof.ForAppend
import PySem.Challenge.RW_uf030018_02
set_option Elab.async false
namespace Mine
open PySem

/-- by-value data -/
inductive D where
  | none
  | bool (b : Bool)
  | int (i : Int)
  | str (x : Str)
  | tup (ds : List D)
  | list (ds : List D)
  | dict (ks : List D) (vs : List D)
  | rng (a b : Int)

noncomputable def big : Nat := 2 ^ 24

/-- hashes of keys: ints, strs, tuples of these -/
noncomputable def hashC (P : Params) : D → Int
  | .int i => hashInt i
  | .str x => if x.cps.isEmpty = true then 0 else reduceHash (P.strHash x.cps)
  | _ => 0
noncomputable def hashK (P : Params) : D → Int
  | .tup ds => reduceHash (Builtin.Tuple.tupleHashOf (ds.map (hashC P)))
  | d => hashC P d
noncomputable def D.isCell : D → Bool
  | .int _ | .str _ => true
  | _ => false
noncomputable def D.isKey : D → Bool
  | .int _ | .str _ => true
  | .tup ds => ds.all D.isCell
  | _ => false

abbrev tupO (vs : Array Value) (n : Nat) : Obj := { cls := .type "tuple", dict := Option.none, data := .seq vs n, slots := #[] }
abbrev lstO (vs : Array Value) (n : Nat) : Obj := { cls := .type "list", dict := Option.none, data := .seq vs n, slots := #[] }
abbrev dicO (es : Array DictEntry) (n : Nat) : Obj := { cls := .type "dict", dict := Option.none, data := .dict es n, slots := #[] }

mutual
/-- the value v stands for d in the heap h, by objects that lie outside of H -/
inductive Rep (P : Params) (h : Heap) (H : Addr → Prop) : Value → D → Prop
  | none : Rep P h H .none .none
  | bool (b : Bool) : Rep P h H (.bool b) (.bool b)
  | int (i : Int) (t : Tok) : Rep P h H (.int i t) (.int i)
  | str (x : Str) (t : Tok) : Rep P h H (.str x t) (.str x)
  | tup {a : Addr} {vs : Array Value} {n : Nat} {ds : List D} : h.get? a = some (tupO vs n) → ¬ H a → ds.length ≤ big → RepAll P h H vs.toList ds → Rep P h H (.ref a) (.tup ds)
  | list {a : Addr} {vs : Array Value} {n : Nat} {ds : List D} : h.get? a = some (lstO vs n) → ¬ H a → ds.length ≤ big → RepAll P h H vs.toList ds → Rep P h H (.ref a) (.list ds)
  | dict {a : Addr} {es : Array DictEntry} {n : Nat} {ks vs : List D} : h.get? a = some (dicO es n) → ¬ H a → ks.length ≤ big → RepAll P h H (es.toList.map (·.key)) ks → RepAll P h H (es.toList.map (·.val)) vs →
      es.toList.map (·.hash) = ks.map (hashK P) → ks.all D.isKey = true → ks.Nodup → Rep P h H (.ref a) (.dict ks vs)
  | rng {a : Addr} {lo hi : Int} {t u v : Tok} : IsRange h a lo hi 1 t u v → ¬ H a → (-big ≤ lo ∧ lo ≤ big ∧ -big ≤ hi ∧ hi ≤ big) → Rep P h H (.ref a) (.rng lo hi)
inductive RepAll (P : Params) (h : Heap) (H : Addr → Prop) : List Value → List D → Prop
  | nil : RepAll P h H [] []
  | cons {v : Value} {d : D} {vs : List Value} {ds : List D} : Rep P h H v d → RepAll P h H vs ds → RepAll P h H (v :: vs) (d :: ds)
end

mutual
theorem Rep.mono {P : Params} {h h' : Heap} {H H' : Addr → Prop} (hk : ∀ a o, ¬ H a → h.get? a = some o → h'.get? a = some o) (hH : ∀ a o, h.get? a = some o → H' a → H a) :
    ∀ {v : Value} {d : D}, Rep P h H v d → Rep P h' H' v d
  | _, _, .none => .none
  | _, _, .bool b => .bool b
  | _, _, .int i t => .int i t
  | _, _, .str x t => .str x t
  | _, _, .tup ho hn hl hr => .tup (hk _ _ hn ho) (fun x => hn (hH _ _ ho x)) hl (RepAll.mono hk hH hr)
  | _, _, .list ho hn hl hr => .list (hk _ _ hn ho) (fun x => hn (hH _ _ ho x)) hl (RepAll.mono hk hH hr)
  | _, _, .dict ho hn hl hr hr' e1 e2 e3 => .dict (hk _ _ hn ho) (fun x => hn (hH _ _ ho x)) hl (RepAll.mono hk hH hr) (RepAll.mono hk hH hr') e1 e2 e3
  | _, _, .rng hr hn hl => .rng (hk _ _ hn hr) (fun x => hn (hH _ _ hr x)) hl
theorem RepAll.mono {P : Params} {h h' : Heap} {H H' : Addr → Prop} (hk : ∀ a o, ¬ H a → h.get? a = some o → h'.get? a = some o) (hH : ∀ a o, h.get? a = some o → H' a → H a) :
    ∀ {vs : List Value} {ds : List D}, RepAll P h H vs ds → RepAll P h' H' vs ds
  | _, _, .nil => .nil
  | _, _, .cons hv hr => .cons (Rep.mono hk hH hv) (RepAll.mono hk hH hr)
end

theorem Rep.keeps {P : Params} {h h' : Heap} {H : Addr → Prop} {v : Value} {d : D} (hr : Rep P h H v d) (hk : ∀ a o, h.get? a = some o → h'.get? a = some o) : Rep P h' H v d :=
  hr.mono (fun a o _ e => hk a o e) (fun _ _ _ x => x)
theorem RepAll.keeps {P : Params} {h h' : Heap} {H : Addr → Prop} {v : List Value} {d : List D} (hr : RepAll P h H v d) (hk : ∀ a o, h.get? a = some o → h'.get? a = some o) : RepAll P h' H v d :=
  hr.mono (fun a o _ e => hk a o e) (fun _ _ _ x => x)
theorem Rep.sub {P : Params} {h : Heap} {H H' : Addr → Prop} {v : Value} {d : D} (hr : Rep P h H v d) (hH : ∀ a, H' a → H a) : Rep P h H' v d :=
  hr.mono (fun _ _ _ e => e) (fun a _ _ x => hH a x)

theorem RepAll.length {P : Params} {h : Heap} {H : Addr → Prop} : ∀ {vs : List Value} {ds : List D}, RepAll P h H vs ds → vs.length = ds.length
  | _, _, .nil => rfl
  | _, _, .cons _ hr => by simp [RepAll.length hr]
theorem RepAll.append {P : Params} {h : Heap} {H : Addr → Prop} : ∀ {vs ws : List Value} {ds es : List D}, RepAll P h H vs ds → RepAll P h H ws es → RepAll P h H (vs ++ ws) (ds ++ es)
  | _, _, _, _, .nil, k => k
  | _, _, _, _, .cons hv hr, k => .cons hv (RepAll.append hr k)
theorem RepAll.get {P : Params} {h : Heap} {H : Addr → Prop} : ∀ {vs : List Value} {ds : List D} (i : Nat) {d : D}, RepAll P h H vs ds → ds[i]? = some d → ∃ v, vs[i]? = some v ∧ Rep P h H v d
  | _, _, _, _, .nil, e => by simp at e
  | _, _, 0, _, .cons hv hr, e => by simp at e; subst e; exact ⟨_, rfl, hv⟩
  | _, _, i + 1, _, .cons hv hr, e => by simpa using RepAll.get i hr (by simpa using e)
theorem RepAll.drop {P : Params} {h : Heap} {H : Addr → Prop} : ∀ {vs : List Value} {ds : List D} (i : Nat), RepAll P h H vs ds → RepAll P h H (vs.drop i) (ds.drop i)
  | _, _, 0, k => by simpa using k
  | _, _, i + 1, .nil => by simpa using RepAll.nil
  | _, _, i + 1, .cons hv hr => by simpa using RepAll.drop i hr
theorem RepAll.take {P : Params} {h : Heap} {H : Addr → Prop} : ∀ {vs : List Value} {ds : List D} (i : Nat), RepAll P h H vs ds → RepAll P h H (vs.take i) (ds.take i)
  | _, _, 0, _ => by simpa using RepAll.nil
  | _, _, i + 1, .nil => by simpa using RepAll.nil
  | _, _, i + 1, .cons hv hr => by simpa using RepAll.cons hv (RepAll.take i hr)

noncomputable def D.scalar : D → Bool
  | .none | .bool _ | .int _ | .str _ => true
  | _ => false
theorem Rep.scalar {P : Params} {h h' : Heap} {H H' : Addr → Prop} {v : Value} {d : D} (hr : Rep P h H v d) (hs : d.scalar = true) : Rep P h' H' v d := by
  cases hr <;> first | exact .none | exact .bool _ | exact .int _ _ | exact .str _ _ | cases hs

theorem ofString_inj {a b : String} (h : Str.ofString a = Str.ofString b) : a = b := by
  rw [Str.ofString_eq_toList, Str.ofString_eq_toList] at h
  have h1 : a.toList.map Char.toNat = b.toList.map Char.toNat := by simpa using h
  have h2 : a.toList = b.toList := by
    generalize a.toList = l at h1; generalize b.toList = m at h1
    induction l generalizing m with
    | nil => cases m <;> simp_all
    | cons x l ih =>
      cases m with
      | nil => simp at h1
      | cons y m =>
        simp only [List.map_cons, List.cons.injEq] at h1
        have : x = y := by
          have := h1.1
          exact Char.toNat_inj.mp this
        rw [this, ih _ h1.2]
  exact String.toList_inj.mp h2

end Mine

namespace Mine
open PySem

/-! the mini language -/
inductive ME where
  | var (x : String)
  | glob (x : String)
  | int (i : Int)
  | str (s : String)
  | bool (b : Bool)
  | none
  | bin (op : Operator) (a b : ME)
  | cmp (op : CmpOp) (a b : ME)
  | bop (op : BoolOp) (es : List ME)
  | not (a : ME)
  | neg (a : ME)
  | tup (es : List ME)
  | lst (es : List ME)
  | sub (a i : ME)
  | sl (a lo hi : ME)
  | comp (elt : ME) (x : String) (src : ME) (cs : List ME)
  | call (f : String) (args : List ME)
  | isi (a : ME) (T : String)
  | blt (f : String) (args : List ME)

inductive MS where
  | assign (x : String) (e : ME)
  | append (x : String) (e : ME)
  | setk (x : String) (k e : ME)
  | expr (e : ME)
  | ite (c : ME) (t f : List MS)
  | for_ (x : String) (src : ME) (body : List MS)
  | while_ (c : ME) (body : List MS)
  | ret (e : ME)
  | cont

/-! data operations -/
noncomputable def D.items : D → Option (List D)
  | .list ds | .tup ds => some ds
  | .rng a b => some ((List.range (b - a).toNat).map fun (i : Nat) => D.int (a + (i : Int)))
  | _ => Option.none

noncomputable def truth : D → Option Bool
  | .bool b => some b
  | .none => some false
  | .int i => some (i != 0)
  | .list ds | .tup ds => some (!ds.isEmpty)
  | _ => Option.none

noncomputable def eqS : D → D → Option Bool
  | .none, .none => some true
  | .bool a, .bool b => some (a == b)
  | .int a, .int b => some (a == b)
  | .str a, .str b => some (a == b)
  | .bool a, .int b => some ((if a then 1 else 0) == b)
  | .int a, .bool b => some (a == (if b then 1 else 0))
  | .int _, .str _ | .str _, .int _ | .bool _, .str _ | .str _, .bool _ => some false
  | .none, .int _ | .none, .str _ | .none, .bool _ | .int _, .none | .str _, .none | .bool _, .none => some false
  | _, _ => Option.none
noncomputable def eqAll : List D → List D → Option Bool
  | [], [] => some true
  | a :: r, b :: r' => match eqS a b, eqAll r r' with
    | some x, some y => some (x && y)
    | _, _ => Option.none
  | _, _ => some false
/-- == of two data -/
noncomputable def eqD : D → D → Option Bool
  | .list ds, .list es => if ds.length = es.length then eqAll ds es else some false
  | .tup ds, .tup es => if ds.length = es.length then eqAll ds es else Option.none
  | a, b => eqS a b

noncomputable def lim : Int := 2 ^ 64
noncomputable def powLim : Int := 2 ^ 1000
noncomputable def strLim : Int := 10 ^ 100
noncomputable def binD : Operator → D → D → Option D
  | .Add, .int a, .int b => some (.int (a + b))
  | .Sub, .int a, .int b => some (.int (a - b))
  | .Mult, .int a, .int b => if (-lim < a ∧ a < lim) ∨ (-lim < b ∧ b < lim) then some (.int (a * b)) else Option.none
  | .FloorDiv, .int a, .int b => if 0 < b ∧ b < lim then some (.int (a / b)) else Option.none
  | .Mod, .int a, .int b => if 0 < b then some (.int (a % b)) else Option.none
  | .Pow, .int a, .int b => if -powLim < a ∧ a < powLim ∧ 0 ≤ b ∧ b ≤ 100 then some (.int (a ^ b.toNat)) else Option.none
  | .Add, .str a, .str b => if a.length + b.length ≤ big then some (.str (a ++ b)) else Option.none
  | .Mult, .str x, .int n => if 0 ≤ n ∧ n ≤ 1000 ∧ x.length ≤ 1000 then some (.str (Txt.mul x n)) else Option.none
  | .Add, .list a, .list b => if a.length + b.length ≤ big then some (.list (a ++ b)) else Option.none
  | .Add, .tup a, .tup b => if a.length + b.length ≤ big then some (.tup (a ++ b)) else Option.none
  | _, _, _ => Option.none

noncomputable def cmpD : CmpOp → D → D → Option D
  | .Eq, a, b => (eqD a b).map .bool
  | .NotEq, a, b => (eqD a b).map fun x => .bool (!x)
  | .Lt, .int a, .int b => some (.bool (decide (a < b)))
  | .LtE, .int a, .int b => some (.bool (decide (a ≤ b)))
  | .Gt, .int a, .int b => some (.bool (decide (a > b)))
  | .GtE, .int a, .int b => some (.bool (decide (a ≥ b)))
  | .Lt, .str a, .str b => some (.bool (decide (a.cps.toList < b.cps.toList)))
  | _, _, _ => Option.none

/-- the place of an index -/
noncomputable def idx (k : Int) (n : Nat) : Option Nat := if 0 ≤ k ∧ k < n then some k.toNat else if -(n : Int) ≤ k ∧ k < 0 then some (k + n).toNat else Option.none
noncomputable def charAt (x : Str) (j : Nat) : Str := ⟨#[x.cps.getD j 0]⟩
noncomputable def subD : D → D → Option D
  | .list ds, .int k => (idx k ds.length).bind fun j => ds[j]?
  | .tup ds, .int k => (idx k ds.length).bind fun j => ds[j]?
  | .str x, .int k => if 0 ≤ k ∧ k < x.length ∧ x.length ≤ big then some (.str (charAt x k.toNat)) else Option.none
  | _, _ => Option.none

noncomputable def bnd (lo : D) (dflt : Nat) : Option Nat := match lo with
  | .none => some dflt
  | .int i => if 0 ≤ i then some i.toNat else Option.none
  | _ => Option.none
noncomputable def slD (d lo hi : D) : Option D := match d with
  | .list ds => (bnd lo 0).bind fun a => (bnd hi ds.length).map fun b => .list ((ds.take b).drop a)
  | .str x => if x.length ≤ big then (match lo, hi with
    | .none, .none => some (.str (Txt.slice x Option.none Option.none))
    | .none, .int j => some (.str (Txt.slice x Option.none (some j)))
    | .int i, .none => some (.str (Txt.slice x (some i) Option.none))
    | .int i, .int j => some (.str (Txt.slice x (some i) (some j)))
    | _, _ => Option.none) else Option.none
  | _ => Option.none

noncomputable def isiD (d : D) (T : String) : Option Bool :=
  if T = "str" ∨ T = "bool" ∨ T = "int" ∨ T = "tuple" ∨ T = "list" then (match d with
    | .str _ => some (T == "str")
    | .int _ => some (T == "int")
    | .bool _ => some (T == "int" || T == "bool")
    | .tup _ => some (T == "tuple")
    | .list _ => some (T == "list")
    | _ => Option.none) else Option.none

noncomputable def bltD : String → List D → Option D
  | "len", [.list ds] => some (.int ds.length)
  | "len", [.tup ds] => some (.int ds.length)
  | "len", [.str x] => if x.length ≤ big then some (.int x.length) else Option.none
  | "range", [.int n] => if -(big : Int) ≤ n ∧ n ≤ big then some (.rng 0 n) else Option.none
  | "range", [.int a, .int n] => if (-(big : Int) ≤ n ∧ n ≤ big) ∧ -(big : Int) ≤ a ∧ a ≤ big then some (.rng a n) else Option.none
  | "tuple", [.list ds] => some (.tup ds)
  | "int", [.bool b] => some (.int (if b then 1 else 0))
  | "str", [.int i] => if -strLim < i ∧ i < strLim then some (.str (Str.ofString (toString i))) else Option.none
  | "str", [.str x] => some (.str x)
  | _, _ => Option.none

/-! the evaluator -/
noncomputable def compM (f : D → Option (Option D)) : List D → Option (List D)
  | [] => some []
  | it :: r => match f it with
    | Option.none => Option.none
    | some o => match compM f r with
      | Option.none => Option.none
      | some ds => some (match o with | Option.none => ds | some d => d :: ds)

structure CF where
  call : String → List D → Option (D × Bool)
  glob : String → Option D

mutual
noncomputable def evE (cf : CF) (ρ : List (String × D)) (me : ME) : Option D := match me with
  | .var x => ρ.lookup x
  | .glob x => cf.glob x
  | .int i => some (.int i)
  | .str s => some (.str (Str.ofString s))
  | .bool b => some (.bool b)
  | .none => some .none
  | .bin op a b => match evE cf ρ a with
    | some x => (match evE cf ρ b with | some y => binD op x y | Option.none => Option.none)
    | Option.none => Option.none
  | .cmp op a b => match evE cf ρ a with
    | some x => (match evE cf ρ b with | some y => cmpD op x y | Option.none => Option.none)
    | Option.none => Option.none
  | .bop op es => evBop cf ρ op es
  | .not a => match evE cf ρ a with
    | some x => (truth x).map fun t => .bool (!t)
    | Option.none => Option.none
  | .neg a => match evE cf ρ a with
    | some (.int i) => some (.int (-i))
    | _ => Option.none
  | .tup es => match evEs cf ρ es with
    | some ds => if ds.length ≤ big then some (.tup ds) else Option.none
    | Option.none => Option.none
  | .lst es => match evEs cf ρ es with
    | some ds => if ds.length ≤ big then some (.list ds) else Option.none
    | Option.none => Option.none
  | .sub a i => match evE cf ρ a with
    | some x => (match evE cf ρ i with | some y => subD x y | Option.none => Option.none)
    | Option.none => Option.none
  | .sl a lo hi => match evE cf ρ a with
    | some x => (match evE cf ρ lo with
      | some y => (match evE cf ρ hi with | some z => slD x y z | Option.none => Option.none)
      | Option.none => Option.none)
    | Option.none => Option.none
  | .comp elt x src cs => match evE cf ρ src with
    | some d => (match d.items with
      | some its => if its.length ≤ big then (compM (fun it => match evCs cf ((x, it) :: ρ) cs with
          | some true => (match evE cf ((x, it) :: ρ) elt with | some y => some (some y) | Option.none => Option.none)
          | some false => some Option.none
          | Option.none => Option.none) its).map .list else Option.none
      | Option.none => Option.none)
    | Option.none => Option.none
  | .call f args => match evEs cf ρ args with
    | some ds => (cf.call f ds).map (·.1)
    | Option.none => Option.none
  | .isi a T => match evE cf ρ a with
    | some x => (isiD x T).map .bool
    | Option.none => Option.none
  | .blt f args => match evEs cf ρ args with
    | some ds => bltD f ds
    | Option.none => Option.none
termination_by structural me
noncomputable def evEs (cf : CF) (ρ : List (String × D)) (ms : List ME) : Option (List D) := match ms with
  | [] => some []
  | e :: r => match evE cf ρ e with
    | some d => (match evEs cf ρ r with | some ds => some (d :: ds) | Option.none => Option.none)
    | Option.none => Option.none
termination_by structural ms
noncomputable def evBop (cf : CF) (ρ : List (String × D)) (op : BoolOp) (ms : List ME) : Option D := match ms with
  | [] => Option.none
  | [e] => evE cf ρ e
  | e :: r => match evE cf ρ e with
    | some d => (match truth d with
      | some t => if t = (match op with | .And => false | .Or => true) then some d else evBop cf ρ op r
      | Option.none => Option.none)
    | Option.none => Option.none
termination_by structural ms
noncomputable def evCs (cf : CF) (ρ : List (String × D)) (ms : List ME) : Option Bool := match ms with
  | [] => some true
  | e :: r => match evE cf ρ e with
    | some d => (match truth d with
      | some t => if t then evCs cf ρ r else some false
      | Option.none => Option.none)
    | Option.none => Option.none
termination_by structural ms
end

/-! the variables that an expression reads -/
mutual
noncomputable def ME.names : ME → List String
  | .var x => [x]
  | .bin _ a b | .cmp _ a b | .sub a b => a.names ++ b.names
  | .bop _ es | .tup es | .lst es | .call _ es | .blt _ es => namesL es
  | .not a | .neg a | .isi a _ => a.names
  | .sl a lo hi => a.names ++ lo.names ++ hi.names
  | .comp elt x src cs => src.names ++ (elt.names ++ namesL cs).filter (· != x)
  | _ => []
noncomputable def namesL : List ME → List String
  | [] => []
  | e :: r => e.names ++ namesL r
end

/-! statements -/
abbrev St := List (String × (Bool × D))
noncomputable def vis (σ : St) : List (String × D) := σ.map fun p => (p.1, p.2.2)
noncomputable def setv (σ : St) (x : String) (v : Bool × D) : St := match σ with
  | [] => [(x, v)]
  | (y, w) :: r => if y = x then (y, v) :: r else (y, w) :: setv r x v
noncomputable def freeze (ns : List String) (σ : St) : St := σ.map fun p => (p.1, (p.2.1 && !ns.contains p.1, p.2.2))
noncomputable def settle (d : D) (ns : List String) (σ : St) : St := if d.scalar then σ else freeze ns σ

inductive Fl where
  | next | cont
  | ret (fr : Bool) (d : D)

/-- an expression's value, and whether it is a new list that nothing else holds -/
noncomputable def evF (cf : CF) (ρ : List (String × D)) : ME → Option (D × Bool)
  | .call f args => match evEs cf ρ args with
    | some ds => cf.call f ds
    | Option.none => Option.none
  | .lst es => (evE cf ρ (.lst es)).map fun d => (d, true)
  | .comp elt x src cs => (evE cf ρ (.comp elt x src cs)).map fun d => (d, true)
  | e => (evE cf ρ e).map fun d => (d, false)

noncomputable def forD (f : D → St → Option (Fl × St)) : List D → St → Option (Fl × St)
  | [], σ => some (.next, σ)
  | it :: r, σ => match f it σ with
    | some (.next, σ') | some (.cont, σ') => forD f r σ'
    | x => x
noncomputable def whileD (c : St → Option Bool) (f : St → Option (Fl × St)) : Nat → St → Option (Fl × St)
  | 0, _ => Option.none
  | n + 1, σ => match c σ with
    | some true => (match f σ with
      | some (.next, σ') | some (.cont, σ') => whileD c f n σ'
      | x => x)
    | some false => some (.next, σ)
    | Option.none => Option.none
noncomputable def wlim : Nat := 2 ^ 20

mutual
noncomputable def exS (cf : CF) (st : MS) (σ : St) : Option (Fl × St) := match st, σ with
  | .assign x e, σ => match evF cf (vis σ) e with
    | some (d, fr) => some (.next, setv (settle d e.names σ) x (fr, d))
    | Option.none => Option.none
  | .append x e, σ => match evE cf (vis σ) e with
    | some d => (match (settle d e.names σ).lookup x with
      | some (true, .list ds) => if ds.length < big then some (.next, setv (settle d e.names σ) x (true, .list (ds ++ [d]))) else Option.none
      | _ => Option.none)
    | Option.none => Option.none
  | .setk _ _ _, _ => Option.none
  | .expr e, σ => match evE cf (vis σ) e with
    | some d => if d.scalar then some (.next, σ) else Option.none
    | Option.none => Option.none
  | .ite c t f, σ => match evE cf (vis σ) c with
    | some d => (match truth d with
      | some true => exSs cf t σ
      | some false => exSs cf f σ
      | Option.none => Option.none)
    | Option.none => Option.none
  | .for_ x src body, σ => match evE cf (vis σ) src with
    | some d => (match d.items with
      | some its => forD (fun it σ => exSs cf body (setv σ x (false, it))) its (freeze src.names σ)
      | Option.none => Option.none)
    | Option.none => Option.none
  | .while_ c body, σ => whileD (fun σ => match evE cf (vis σ) c with | some d => truth d | Option.none => Option.none) (fun σ => exSs cf body σ) wlim σ
  | .ret e, σ => match e with
    | .var x => (match σ.lookup x with | some (fr, d) => some (.ret fr d, σ) | Option.none => Option.none)
    | e => (match evF cf (vis σ) e with
      | some (d, fr) => some (.ret fr d, σ)
      | Option.none => Option.none)
  | .cont, σ => some (.cont, σ)
termination_by structural st
noncomputable def exSs (cf : CF) (ss : List MS) (σ : St) : Option (Fl × St) := match ss, σ with
  | [], σ => some (.next, σ)
  | st :: r, σ => match exS cf st σ with
    | some (.next, σ') => exSs cf r σ'
    | x => x
termination_by structural ss
end

structure Fn where
  params : List String
  body : List MS

/-- calls: n is how deep they may nest; X: functions that are shown by hand, and global constants -/
noncomputable def callN (P : List (String × Fn)) (X : CF) : Nat → CF
  | 0 => ⟨fun _ _ => Option.none, X.glob⟩
  | n + 1 => ⟨fun f args => match P.lookup f with
    | Option.none => X.call f args
    | some fn => if args.length = fn.params.length then
        (match exSs (callN P X n) fn.body ((fn.params.zip args).map fun p => (p.1, (false, p.2))) with
        | some (.ret fr d, _) => some (d, fr)
        | some (.next, _) => some (.none, false)
        | _ => Option.none)
      else Option.none, X.glob⟩
end Mine

namespace Mine
open PySem

abbrev KD := Str → Option NameKind
noncomputable def isVar (k : KD) (x : Str) : Bool := (k x == some .local || k x == some .cell || k x == some .free) && x != Str.ofString "__debug__" && x != Str.ofString "__classdict__" && x != Str.ofString ".0"
noncomputable def isGlob (k : KD) (x : Str) : Bool := k x == some .globalImplicit && x != Str.ofString "__debug__"
noncomputable def kindC (k : KD) (scope : Scope) : KD := fun x => (scope.names.map fun p => if p.2 == .free && k p.1 == some .cell then (p.1, NameKind.cell) else p).lookup x
noncomputable def notSet : Expr → Bool
  | .Set .. => false
  | _ => true
noncomputable def okScope (k : KD) (scope : Scope) (x : Str) : Bool :=
  scope.kind == .function && decide (scope.names.map (·.1)).Nodup && (scope.names.lookup x == some .local || scope.names.lookup x == some .cell) &&
  scope.names.all (fun p => p.2 != .free || k p.1 == some .cell || k p.1 == some .free) && scope.names.all (fun p => p.2 == .free || p.2 == .globalImplicit || p.1 == x || p.1 == Str.ofString ".0")

noncomputable def ME.isNone : ME → Bool
  | .none => true
  | _ => false

noncomputable def notSlice : Expr → Bool
  | .Slice .. => false
  | _ => true
noncomputable def c1 {α : Type} (l : List α) (f : α → Bool) : Bool := match l with | [x] => f x | _ => false
theorem c1_inv {α : Type} {l : List α} {f : α → Bool} (h : c1 l f = true) : ∃ x, l = [x] ∧ f x = true := by
  match l, h with
  | [x], h => exact ⟨x, rfl, h⟩
noncomputable def c2 {α : Type} (l : List α) (f : α → α → Bool) : Bool := match l with | [x, y] => f x y | _ => false
theorem c2_inv {α : Type} {l : List α} {f : α → α → Bool} (h : c2 l f = true) : ∃ x y, l = [x, y] ∧ f x y = true := by
  match l, h with
  | [x, y], h => exact ⟨x, y, rfl, h⟩
noncomputable def cOpt {α : Type} (l : Option α) (f : α → Bool) : Bool := match l with | some x => f x | none => false
theorem cOpt_inv {α : Type} {l : Option α} {f : α → Bool} (h : cOpt l f = true) : ∃ x, l = some x ∧ f x = true := by
  cases l with
  | none => cases h
  | some x => exact ⟨x, rfl, h⟩
noncomputable def cName (e : Expr) (f : Str → Pos → Bool) : Bool := match e with | .Name y p => f y p | _ => false
theorem cName_inv {e : Expr} {f : Str → Pos → Bool} (h : cName e f = true) : ∃ (y : Str) (p : Pos), e = .Name y p ∧ f y p = true := by
  cases e <;> first | exact ⟨_, _, rfl, h⟩ | exact absurd h Bool.false_ne_true
noncomputable def cConst (e : Expr) (f : Const → Nat → Pos → Bool) : Bool := match e with | .Constant c n p => f c n p | _ => false
theorem cConst_inv {e : Expr} {f : Const → Nat → Pos → Bool} (h : cConst e f = true) : ∃ (c : Const) (n : Nat) (p : Pos), e = .Constant c n p ∧ f c n p = true := by
  cases e <;> first | exact ⟨_, _, _, rfl, h⟩ | exact absurd h Bool.false_ne_true
noncomputable def cBin (e : Expr) (f : Expr → Operator → Expr → Pos → Bool) : Bool := match e with | .BinOp l o r p => f l o r p | _ => false
theorem cBin_inv {e : Expr} {f : Expr → Operator → Expr → Pos → Bool} (h : cBin e f = true) : ∃ (l : Expr) (o : Operator) (r : Expr) (p : Pos), e = .BinOp l o r p ∧ f l o r p = true := by
  cases e <;> first | exact ⟨_, _, _, _, rfl, h⟩ | exact absurd h Bool.false_ne_true
noncomputable def cBool (e : Expr) (f : BoolOp → List Expr → Pos → Bool) : Bool := match e with | .BoolOp o vs p => f o vs p | _ => false
theorem cBool_inv {e : Expr} {f : BoolOp → List Expr → Pos → Bool} (h : cBool e f = true) : ∃ (o : BoolOp) (vs : List Expr) (p : Pos), e = .BoolOp o vs p ∧ f o vs p = true := by
  cases e <;> first | exact ⟨_, _, _, rfl, h⟩ | exact absurd h Bool.false_ne_true
noncomputable def cUn (e : Expr) (f : UnaryOp → Expr → Pos → Bool) : Bool := match e with | .UnaryOp o x p => f o x p | _ => false
theorem cUn_inv {e : Expr} {f : UnaryOp → Expr → Pos → Bool} (h : cUn e f = true) : ∃ (o : UnaryOp) (x : Expr) (p : Pos), e = .UnaryOp o x p ∧ f o x p = true := by
  cases e <;> first | exact ⟨_, _, _, rfl, h⟩ | exact absurd h Bool.false_ne_true
noncomputable def cTup (e : Expr) (f : List Expr → Nat → Pos → Bool) : Bool := match e with | .Tuple vs n p => f vs n p | _ => false
theorem cTup_inv {e : Expr} {f : List Expr → Nat → Pos → Bool} (h : cTup e f = true) : ∃ (vs : List Expr) (n : Nat) (p : Pos), e = .Tuple vs n p ∧ f vs n p = true := by
  cases e <;> first | exact ⟨_, _, _, rfl, h⟩ | exact absurd h Bool.false_ne_true
noncomputable def cLst (e : Expr) (f : List Expr → Pos → Bool) : Bool := match e with | .List vs p => f vs p | _ => false
theorem cLst_inv {e : Expr} {f : List Expr → Pos → Bool} (h : cLst e f = true) : ∃ (vs : List Expr) (p : Pos), e = .List vs p ∧ f vs p = true := by
  cases e <;> first | exact ⟨_, _, rfl, h⟩ | exact absurd h Bool.false_ne_true
noncomputable def cSub (e : Expr) (f : Expr → Expr → Pos → Bool) : Bool := match e with | .Subscript v s p => f v s p | _ => false
theorem cSub_inv {e : Expr} {f : Expr → Expr → Pos → Bool} (h : cSub e f = true) : ∃ (v : Expr) (s : Expr) (p : Pos), e = .Subscript v s p ∧ f v s p = true := by
  cases e <;> first | exact ⟨_, _, _, rfl, h⟩ | exact absurd h Bool.false_ne_true
noncomputable def cSlice (e : Expr) (f : Option Expr → Option Expr → Option Expr → Pos → Bool) : Bool := match e with | .Slice l u t p => f l u t p | _ => false
theorem cSlice_inv {e : Expr} {f : Option Expr → Option Expr → Option Expr → Pos → Bool} (h : cSlice e f = true) : ∃ (l : Option Expr) (u : Option Expr) (t : Option Expr) (p : Pos), e = .Slice l u t p ∧ f l u t p = true := by
  cases e <;> first | exact ⟨_, _, _, _, rfl, h⟩ | exact absurd h Bool.false_ne_true
noncomputable def cCmp (e : Expr) (f : Expr → List CmpOp → List Expr → Pos → Bool) : Bool := match e with | .Compare l os rs p => f l os rs p | _ => false
theorem cCmp_inv {e : Expr} {f : Expr → List CmpOp → List Expr → Pos → Bool} (h : cCmp e f = true) : ∃ (l : Expr) (os : List CmpOp) (rs : List Expr) (p : Pos), e = .Compare l os rs p ∧ f l os rs p = true := by
  cases e <;> first | exact ⟨_, _, _, _, rfl, h⟩ | exact absurd h Bool.false_ne_true
noncomputable def cCall (e : Expr) (f : Expr → List Expr → List Keyword → Pos → Bool) : Bool := match e with | .Call g as ks p => f g as ks p | _ => false
theorem cCall_inv {e : Expr} {f : Expr → List Expr → List Keyword → Pos → Bool} (h : cCall e f = true) : ∃ (g : Expr) (as : List Expr) (ks : List Keyword) (p : Pos), e = .Call g as ks p ∧ f g as ks p = true := by
  cases e <;> first | exact ⟨_, _, _, _, rfl, h⟩ | exact absurd h Bool.false_ne_true
noncomputable def cLC (e : Expr) (f : Expr → List Comprehension → Scope → Pos → Bool) : Bool := match e with | .ListComp t gs sc p => f t gs sc p | _ => false
theorem cLC_inv {e : Expr} {f : Expr → List Comprehension → Scope → Pos → Bool} (h : cLC e f = true) : ∃ (t : Expr) (gs : List Comprehension) (sc : Scope) (p : Pos), e = .ListComp t gs sc p ∧ f t gs sc p = true := by
  cases e <;> first | exact ⟨_, _, _, _, rfl, h⟩ | exact absurd h Bool.false_ne_true
noncomputable def cAttr (e : Expr) (f : Expr → Str → Pos → Bool) : Bool := match e with | .Attribute x a p => f x a p | _ => false
theorem cAttr_inv {e : Expr} {f : Expr → Str → Pos → Bool} (h : cAttr e f = true) : ∃ (x : Expr) (a : Str) (p : Pos), e = .Attribute x a p ∧ f x a p = true := by
  cases e <;> first | exact ⟨_, _, _, rfl, h⟩ | exact absurd h Bool.false_ne_true
mutual
noncomputable def chkE (k : KD) (e : Expr) (me : ME) : Bool := match me with
  | .var x => cName e fun y _ => y == Str.ofString x && isVar k y
  | .glob x => cName e fun y _ => y == Str.ofString x && isGlob k y
  | .int i => cConst e fun c _ _ => c == .int i
  | .str s => cConst e fun c _ _ => c == .str (Str.ofString s)
  | .bool b => cConst e fun c _ _ => c == .bool b
  | .none => cConst e fun c _ _ => c == .none
  | .bin op a b => cBin e fun l op' r _ => op == op' && chkE k l a && chkE k r b
  | .cmp op a b => cCmp e fun l os rs _ => os == [op] && c1 rs fun r => notSet r && chkE k l a && chkE k r b
  | .bop op es => cBool e fun op' vs _ => op == op' && chkEs k vs es
  | .not a => cUn e fun o x _ => o == .Not && chkE k x a
  | .neg a => cUn e fun o x _ => o == .USub && chkE k x a
  | .tup es => cTup e fun vs _ _ => chkEs k vs es
  | .lst es => cLst e fun vs _ => chkEs k vs es
  | .sub a i => cSub e fun v s _ => notSlice s && chkE k v a && chkE k s i
  | .sl a lo hi => cSub e fun v s _ => cSlice s fun l u t _ => t.isNone && chkE k v a && (match l with | Option.none => lo.isNone | some x => chkE k x lo) && (match u with | Option.none => hi.isNone | some x => chkE k x hi)
  | .comp elt x src cs => cLC e fun t gs scope _ => c1 gs fun g => g.is_async == 0 && cName g.target fun y _ => y == Str.ofString x && notSet g.iter && okScope k scope y && chkE k g.iter src && chkE (kindC k scope) t elt && chkEs (kindC k scope) g.ifs cs
  | .call f args => cCall e fun g as ks _ => ks.isEmpty && cName g fun g _ => g == Str.ofString f && isGlob k g && chkEs k as args
  | .isi a T => cCall e fun g as ks _ => ks.isEmpty && c2 as fun x t => cName g fun g _ => cName t fun t _ => g == Str.ofString "isinstance" && isGlob k g && t == Str.ofString T && isGlob k t && chkE k x a
  | .blt f args => cCall e fun g as ks _ => ks.isEmpty && cName g fun g _ => g == Str.ofString f && isGlob k g && chkEs k as args
termination_by structural me
noncomputable def chkEs (k : KD) (es : List Expr) (ms : List ME) : Bool := match ms with
  | [] => es.isEmpty
  | a :: r => (match es with | e :: es' => chkE k e a && chkEs k es' r | [] => false)
termination_by structural ms
end

noncomputable def shapeE : Expr → Nat
  | .Name .. => 1
  | .Constant .. => 2
  | .BinOp .. => 3
  | .Compare .. => 4
  | .BoolOp .. => 5
  | .UnaryOp .. => 6
  | .Tuple .. => 7
  | .List .. => 8
  | .Subscript .. => 9
  | .ListComp .. => 10
  | .Call .. => 11
  | _ => 0
noncomputable def shapeM : ME → Nat
  | .var _ | .glob _ => 1
  | .int _ | .str _ | .bool _ | .none => 2
  | .bin _ _ _ => 3
  | .cmp _ _ _ => 4
  | .bop _ _ => 5
  | .not _ | .neg _ => 6
  | .tup _ => 7
  | .lst _ => 8
  | .sub _ _ | .sl _ _ _ => 9
  | .comp _ _ _ _ => 10
  | .call _ _ | .isi _ _ | .blt _ _ => 11
section
variable {k : KD} {e : Expr}
theorem inv_var {x : String} (h : chkE k e (.var x) = true) : ∃ y p, e = .Name y p ∧ (y == Str.ofString x && isVar k y) = true := by
  rw [chkE] at h; exact cName_inv h
theorem inv_glob {x : String} (h : chkE k e (.glob x) = true) : ∃ y p, e = .Name y p ∧ (y == Str.ofString x && isGlob k y) = true := by
  rw [chkE] at h; exact cName_inv h
theorem inv_int {i : Int} (h : chkE k e (.int i) = true) : ∃ n p, e = .Constant (.int i) n p := by
  rw [chkE] at h; replace h := cConst_inv h; obtain ⟨c, n, p, rfl, h⟩ := h; exact ⟨n, p, by rw [eq_of_beq h]⟩
theorem inv_str {i : String} (h : chkE k e (.str i) = true) : ∃ n p, e = .Constant (.str (Str.ofString i)) n p := by
  rw [chkE] at h; replace h := cConst_inv h; obtain ⟨c, n, p, rfl, h⟩ := h; exact ⟨n, p, by rw [eq_of_beq h]⟩
theorem inv_bool {i : Bool} (h : chkE k e (.bool i) = true) : ∃ n p, e = .Constant (.bool i) n p := by
  rw [chkE] at h; replace h := cConst_inv h; obtain ⟨c, n, p, rfl, h⟩ := h; exact ⟨n, p, by rw [eq_of_beq h]⟩
theorem inv_none (h : chkE k e .none = true) : ∃ n p, e = .Constant .none n p := by
  rw [chkE] at h; replace h := cConst_inv h; obtain ⟨c, n, p, rfl, h⟩ := h; exact ⟨n, p, by rw [eq_of_beq h]⟩
theorem inv_bin {op : Operator} {a b : ME} (h : chkE k e (.bin op a b) = true) : ∃ l op' r p, e = .BinOp l op' r p ∧ (op == op' && chkE k l a && chkE k r b) = true := by
  rw [chkE] at h; exact cBin_inv h
theorem inv_cmp {op : CmpOp} {a b : ME} (h : chkE k e (.cmp op a b) = true) : ∃ l r p, e = .Compare l [op] [r] p ∧ (notSet r && chkE k l a && chkE k r b) = true := by
  rw [chkE] at h; replace h := cCmp_inv h; obtain ⟨l, os, rs, p, rfl, h⟩ := h
  rw [Bool.and_eq_true] at h
  obtain ⟨h1, h⟩ := h
  replace h := c1_inv h; obtain ⟨r, rfl, h⟩ := h
  exact ⟨l, r, p, by rw [eq_of_beq h1], h⟩
theorem inv_bop {op : BoolOp} {es : List ME} (h : chkE k e (.bop op es) = true) : ∃ op' vs p, e = .BoolOp op' vs p ∧ (op == op' && chkEs k vs es) = true := by
  rw [chkE] at h; exact cBool_inv h
theorem inv_not {a : ME} (h : chkE k e (.not a) = true) : ∃ x p, e = .UnaryOp .Not x p ∧ chkE k x a = true := by
  rw [chkE] at h; replace h := cUn_inv h; obtain ⟨o, x, p, rfl, h⟩ := h
  rw [Bool.and_eq_true] at h
  exact ⟨x, p, by rw [eq_of_beq h.1], h.2⟩
theorem inv_neg {a : ME} (h : chkE k e (.neg a) = true) : ∃ x p, e = .UnaryOp .USub x p ∧ chkE k x a = true := by
  rw [chkE] at h; replace h := cUn_inv h; obtain ⟨o, x, p, rfl, h⟩ := h
  rw [Bool.and_eq_true] at h
  exact ⟨x, p, by rw [eq_of_beq h.1], h.2⟩
theorem inv_tup {es : List ME} (h : chkE k e (.tup es) = true) : ∃ vs n p, e = .Tuple vs n p ∧ chkEs k vs es = true := by
  rw [chkE] at h; exact cTup_inv h
theorem inv_lst {es : List ME} (h : chkE k e (.lst es) = true) : ∃ vs p, e = .List vs p ∧ chkEs k vs es = true := by
  rw [chkE] at h; exact cLst_inv h
theorem notSlice_inv {s : Expr} (h : notSlice s = true) : ∀ a b c p, s = .Slice a b c p → False := by
  rintro a b c p rfl; cases h
theorem inv_sub {a i : ME} (h : chkE k e (.sub a i) = true) : ∃ v s p, e = .Subscript v s p ∧ (∀ a b c p, s = .Slice a b c p → False) ∧ (chkE k v a && chkE k s i) = true := by
  rw [chkE] at h; replace h := cSub_inv h; obtain ⟨v, s, p, rfl, h⟩ := h
  rw [Bool.and_assoc, Bool.and_eq_true] at h
  exact ⟨v, s, p, rfl, notSlice_inv h.1, h.2⟩
theorem inv_sl {a lo hi : ME} (h : chkE k e (.sl a lo hi) = true) : ∃ v l u p pos, e = .Subscript v (.Slice l u Option.none p) pos ∧ (chkE k v a && (match l with | Option.none => lo.isNone | some x => chkE k x lo) && (match u with | Option.none => hi.isNone | some x => chkE k x hi)) = true := by
  rw [chkE] at h; replace h := cSub_inv h; obtain ⟨v, s, p, rfl, h⟩ := h
  replace h := cSlice_inv h; obtain ⟨l, u, t, p, rfl, h⟩ := h
  rw [Bool.and_assoc, Bool.and_assoc, Bool.and_eq_true] at h
  exact ⟨v, l, u, p, _, by rw [Option.isNone_iff_eq_none.mp h.1], by rw [Bool.and_assoc]; exact h.2⟩
theorem inv_comp {elt src : ME} {x : String} {cs : List ME} (h : chkE k e (.comp elt x src cs) = true) : ∃ t y py it ifs scope lp, e = .ListComp t [⟨.Name y py, it, ifs, 0⟩] scope lp ∧ (y == Str.ofString x && notSet it && okScope k scope y && chkE k it src && chkE (kindC k scope) t elt && chkEs (kindC k scope) ifs cs) = true := by
  rw [chkE] at h; replace h := cLC_inv h; obtain ⟨t, gs, scope, p, rfl, h⟩ := h
  replace h := c1_inv h; obtain ⟨⟨tg, it, ifs, z⟩, rfl, h⟩ := h
  rw [Bool.and_eq_true] at h
  obtain ⟨h1, h⟩ := h
  obtain ⟨y, py, h2, h⟩ := cName_inv h
  have h1 : z = 0 := eq_of_beq h1
  have h2 : tg = _ := h2
  subst h1 h2
  exact ⟨t, y, py, it, ifs, scope, p, rfl, h⟩
theorem inv_call {f : String} {args : List ME} (h : chkE k e (.call f args) = true) : ∃ g gp as pos, e = .Call (.Name g gp) as [] pos ∧ (g == Str.ofString f && isGlob k g && chkEs k as args) = true := by
  rw [chkE] at h; replace h := cCall_inv h; obtain ⟨g, as, ks, p, rfl, h⟩ := h
  rw [Bool.and_eq_true] at h
  obtain ⟨h1, h⟩ := h
  replace h := cName_inv h; obtain ⟨y, py, rfl, h⟩ := h
  exact ⟨y, py, as, p, by rw [List.isEmpty_iff.mp h1], h⟩
theorem inv_blt {f : String} {args : List ME} (h : chkE k e (.blt f args) = true) : ∃ g gp as pos, e = .Call (.Name g gp) as [] pos ∧ (g == Str.ofString f && isGlob k g && chkEs k as args) = true := by
  rw [chkE] at h; exact inv_call (by rw [chkE]; exact h)
theorem inv_isi {a : ME} {T : String} (h : chkE k e (.isi a T) = true) : ∃ g gp x t tp pos, e = .Call (.Name g gp) [x, .Name t tp] [] pos ∧ (g == Str.ofString "isinstance" && isGlob k g && t == Str.ofString T && isGlob k t && chkE k x a) = true := by
  rw [chkE] at h; replace h := cCall_inv h; obtain ⟨g, as, ks, p, rfl, h⟩ := h
  rw [Bool.and_eq_true] at h
  obtain ⟨h1, h⟩ := h
  replace h := c2_inv h; obtain ⟨x, t, rfl, h⟩ := h
  replace h := cName_inv h; obtain ⟨y, py, rfl, h⟩ := h
  replace h := cName_inv h; obtain ⟨z, pz, rfl, h⟩ := h
  exact ⟨y, py, x, z, pz, p, by rw [List.isEmpty_iff.mp h1], h⟩
theorem chk_shape {me : ME} (h : chkE k e me = true) : shapeE e = shapeM me := by
  cases me with
  | var => obtain ⟨_, _, rfl, _⟩ := inv_var h; rfl
  | glob => obtain ⟨_, _, rfl, _⟩ := inv_glob h; rfl
  | int => replace h := inv_int h; obtain ⟨_, _, rfl⟩ := h; rfl
  | str => replace h := inv_str h; obtain ⟨_, _, rfl⟩ := h; rfl
  | bool => replace h := inv_bool h; obtain ⟨_, _, rfl⟩ := h; rfl
  | none => replace h := inv_none h; obtain ⟨_, _, rfl⟩ := h; rfl
  | bin => obtain ⟨_, _, _, _, rfl, _⟩ := inv_bin h; rfl
  | cmp => obtain ⟨_, _, _, rfl, _⟩ := inv_cmp h; rfl
  | bop => obtain ⟨_, _, _, rfl, _⟩ := inv_bop h; rfl
  | not => obtain ⟨_, _, rfl, _⟩ := inv_not h; rfl
  | neg => obtain ⟨_, _, rfl, _⟩ := inv_neg h; rfl
  | tup => obtain ⟨_, _, _, rfl, _⟩ := inv_tup h; rfl
  | lst => obtain ⟨_, _, rfl, _⟩ := inv_lst h; rfl
  | sub => obtain ⟨_, _, _, rfl, _⟩ := inv_sub h; rfl
  | sl => obtain ⟨_, _, _, _, _, rfl, _⟩ := inv_sl h; rfl
  | comp => obtain ⟨_, _, _, _, _, _, _, rfl, _⟩ := inv_comp h; rfl
  | call => obtain ⟨_, _, _, _, rfl, _⟩ := inv_call h; rfl
  | blt => obtain ⟨_, _, _, _, rfl, _⟩ := inv_blt h; rfl
  | isi => obtain ⟨_, _, _, _, _, _, rfl, _⟩ := inv_isi h; rfl
end
end Mine

namespace Mine
open PySem

noncomputable def Ex (h : Heap) (H : Addr → Prop) : Prop := ∀ a, H a → ∃ b o, @LE.le Nat _ a b ∧ h.get? b = some o
theorem Ex.fresh {h : Heap} {H : Addr → Prop} (x : Ex h H) : ¬ H h.objs.size := fun e => by
  obtain ⟨b, o, hb, ho⟩ := x _ e
  exact Nat.lt_irrefl _ (Nat.lt_of_le_of_lt hb (Heap.lt_size ho))
theorem Ex.keeps {h h' : Heap} {H : Addr → Prop} (x : Ex h H) (hk : ∀ a o, h.get? a = some o → h'.get? a = some o) : Ex h' H := fun a e => by
  obtain ⟨b, o, hb, ho⟩ := x _ e
  exact ⟨b, o, hb, hk _ _ ho⟩

theorem Kp.refl (s : Shared) : Keeps s s := ⟨s.heap, s.toks, rfl, fun _ _ e => e⟩
theorem Kp.tok (s : Shared) (t : Nat) : Keeps s { s with toks := t } := ⟨s.heap, t, rfl, fun _ _ e => e⟩
theorem Kp.push (s : Shared) (o : Obj) : Keeps s { s with heap := s.heap.push o } := ⟨_, s.toks, rfl, fun _ _ e => Heap.get?_push_of_some _ e⟩
theorem Kp.trans {s s' s'' : Shared} (a : Keeps s s') (b : Keeps s' s'') : Keeps s s'' := by
  obtain ⟨h', t', rfl, k'⟩ := a
  obtain ⟨h'', t'', rfl, k''⟩ := b
  exact ⟨h'', t'', rfl, fun x o e => k'' x o (k' x o e)⟩
theorem Kp.heap {s s' : Shared} (a : Keeps s s') : ∀ b o, s.heap.get? b = some o → s'.heap.get? b = some o := by
  obtain ⟨h', t', rfl, k'⟩ := a
  exact k'

/-- what an expression's run leaves -/
noncomputable def Post (w : World) (s : Shared) (H : Addr → Prop) (d : D) (v : Value) (s' : Shared) : Prop := Keeps s s' ∧ Rep w.params s'.heap H v d

section
variable {prog : Program} {w : World} {A : Around} {E : Value → Shared → Prop} {s : Shared} {H : Addr → Prop}

theorem bits_le {a : Int} (h : -lim < a ∧ a < lim) : Builtin.Int.intBits a ≤ 64 := by
  unfold Builtin.Int.intBits
  split
  · omega
  · have h2 : a.natAbs < 2 ^ 64 := by unfold lim at h; omega
    have h3 : a.natAbs ≠ 0 := by intro e; rename_i hh; apply hh; simp; omega
    have := (Nat.log2_lt h3).mpr h2
    omega
theorem bits_le1000 {a : Int} (h : -powLim < a ∧ a < powLim) : Builtin.Int.intBits a ≤ 1000 := by
  unfold powLim at h
  unfold Builtin.Int.intBits
  split
  · omega
  · rename_i hh
    have h3 : a.natAbs ≠ 0 := by intro e; apply hh; simp; omega
    have h2 : a.natAbs < 2 ^ 1000 := by
      have e : ((2 ^ 1000 : Nat) : Int) = (2 : Int) ^ 1000 := by exact Int.natCast_pow 2 1000
      generalize (2 : Int) ^ 1000 = p at h e
      omega
    have := (Nat.log2_lt h3).mpr h2
    omega

theorem rep_newTup {vs : Array Value} {ds : List D} (hH : Ex s.heap H) (hl : ds.length ≤ big) (hr : RepAll w.params s.heap H vs.toList ds) :
    Rep w.params (s.heap.push (tupO vs 0)) H (.ref s.heap.objs.size) (.tup ds) :=
  .tup (Heap.get?_push_size _ rfl) hH.fresh hl (hr.keeps fun _ _ e => Heap.get?_push_of_some _ e)
theorem rep_newList {vs : Array Value} {ds : List D} (hH : Ex s.heap H) (hl : ds.length ≤ big) (hr : RepAll w.params s.heap H vs.toList ds) :
    Rep w.params (s.heap.push (lstO vs 0)) H (.ref s.heap.objs.size) (.list ds) :=
  .list (Heap.get?_push_size _ rfl) hH.fresh hl (hr.keeps fun _ _ e => Heap.get?_push_of_some _ e)

theorem bin_snd {op : Operator} {x y : Value} {a b d : D} (hx : Rep w.params s.heap H x a) (hy : Rep w.params s.heap H y b) (hH : Ex s.heap H) (he : binD op a b = some d) :
    wpAny (model prog w) A (binaryOp op x y) (Post w s H d) E s := by
  unfold binD at he
  split at he
  · cases hx; cases hy
    cases he
    exact PyProof.Rows.add_int ⟨Kp.tok _ _, .int _ _⟩
  · cases hx; cases hy
    cases he
    exact PyProof.Rows.sub_int ⟨Kp.tok _ _, .int _ _⟩
  · cases hx; cases hy
    split at he
    · rename_i hc; cases he
      exact PyProof.Rows.mul_int ⟨Kp.tok _ _, .int _ _⟩ (hc.elim (fun h => .of_left (bits_le h)) fun h => .of_right (bits_le h))
    · cases he
  · cases hx; cases hy
    split at he
    · rename_i i1 i2 _ _ hc; cases he
      refine PyProof.Rows.floordiv_int (by omega) ?_ (.inl (PyProof.noPylong_of_log2 ?_))
      · rw [Int.fdiv_eq_ediv_of_nonneg _ (by omega)]
        exact ⟨Kp.tok _ _, .int _ _⟩
      · have : i2.natAbs < 2 ^ 64 := by unfold lim at hc; omega
        have h3 : i2.natAbs ≠ 0 := by omega
        have := (Nat.log2_lt h3).mpr this
        omega
    · cases he
  · cases hx; cases hy
    split at he
    · rename_i i1 i2 _ _ hc; cases he
      refine PyProof.Rows.mod_int (by omega) ?_
      rw [Int.fmod_eq_emod_of_nonneg _ (by omega)]
      exact ⟨Kp.tok _ _, .int _ _⟩
    · cases he
  · cases hx; cases hy
    split at he
    · rename_i i1 i2 _ _ hc; cases he
      obtain ⟨h1, h2, h3, h4⟩ := hc
      refine PyProof.Rows.pow_int h3 ?_ ⟨Kp.tok _ _, .int _ _⟩
      have hb := bits_le1000 ⟨h1, h2⟩
      have : (Builtin.Int.intBits i1 : Int) * i2 ≤ 1000 * 100 := Int.mul_le_mul (by omega) h4 h3 (by decide)
      exact Int.le_trans this (by decide)
    · cases he
  · cases hx; cases hy
    split at he
    · rename_i hc; cases he
      exact PyProof.Rows.add_str (fun t' tk => ⟨Kp.tok _ _, .str _ _⟩) (by exact hc)
    · cases he
  · cases hx; cases hy
    split at he
    · rename_i x n _ _ hc; cases he
      obtain ⟨h0, h1, h2⟩ := hc
      refine SB.mul ⟨by simp; omega, fun g1 _ => ?_, fun g1 _ => ?_⟩ fun t' k => ⟨Kp.tok _ _, .str _ _⟩
      · have : (1000 : Int) ≤ (2 ^ 63 - 1) / n := by
          rw [Int.le_ediv_iff_mul_le (by omega)]; omega
        omega
      · have : x.length * n.toNat ≤ 1000 * 1000 := Nat.mul_le_mul h2 (by omega)
        show decide (_ > sizeLine) = false
        simp only [decide_eq_false_iff_not]
        have e : (1000 * 1000 : Nat) < sizeLine := by decide
        omega
    · cases he
  · cases hx; cases hy
    split at he
    · rename_i ds1 ds2 t1 vs1 n1 ho1 hn1 hl1 hr1 t2 vs2 n2 ho2 hn2 hl2 hr2 hc; cases he
      have e1 := hr1.length
      have e2 := hr2.length
      simp only [Array.length_toList] at e1 e2
      refine P.add_list ho1 ho2 ⟨Kp.push _ _, ?_⟩ (by rw [e1, e2]; exact hc)
      refine rep_newList hH (by simpa using hc) ?_
      simpa using hr1.append hr2
    · cases he
  · cases hx; cases hy
    split at he
    · rename_i ds1 ds2 t1 vs1 n1 ho1 hn1 hl1 hr1 t2 vs2 n2 ho2 hn2 hl2 hr2 hc; cases he
      have e1 := hr1.length
      have e2 := hr2.length
      simp only [Array.length_toList] at e1 e2
      by_cases hv : vs1.isEmpty = true
      · refine concat_meets ⟨_, ho1, rfl⟩ ⟨_, ho2, rfl⟩ noFill_tuple_add seq_tuple_add PySem.F.slot_tuple_add PySem.F.entry_tuple_add (PySem.F.args_tuple_add_2 _ _) (AutoSeq1.tuple___add___tuple_tuple_0 t1 vs1 n1 t2 vs2 n2 hv) ⟨ho1, ho2, Kp.refl _, ?_⟩
        have : ds1 = [] := by cases ds1 with
          | nil => rfl
          | cons _ _ => simp at hv; subst hv; simp at e1
        subst this
        exact .tup ho2 hn2 hl2 hr2
      · by_cases hv2 : vs2.isEmpty = true
        · refine concat_meets ⟨_, ho1, rfl⟩ ⟨_, ho2, rfl⟩ noFill_tuple_add seq_tuple_add PySem.F.slot_tuple_add PySem.F.entry_tuple_add (PySem.F.args_tuple_add_2 _ _) (AutoSeq1.tuple___add___tuple_tuple_1 t1 vs1 n1 t2 vs2 n2 hv hv2) ⟨ho1, ho2, Kp.refl _, ?_⟩
          have : ds2 = [] := by cases ds2 with
            | nil => rfl
            | cons _ _ => simp at hv2; subst hv2; simp at e2
          subst this
          simpa using Rep.tup ho1 hn1 hl1 hr1
        · refine P.add_tuple ho1 ho2 hv hv2 ⟨Kp.push _ _, ?_⟩ (by rw [e1, e2]; exact hc)
          refine rep_newTup hH (by simpa using hc) ?_
          simpa using hr1.append hr2
    · cases he
  · cases he
end
end Mine

namespace Mine
open PySem PySem.SeqAt

section
variable {prog : Program} {w : World} {A : Around} {E : Value → Shared → Prop} {s : Shared} {H H' : Addr → Prop}

theorem eqS_snd {P : Params} {h : Heap} {x y : Value} {a b : D} {k : Bool} (hx : Rep P h H x a) (hy : Rep P h H' y b) (he : eqS a b = some k) :
    (∀ A s, EqAt A s x y k) ∧ (∀ A s, RcAt A s x y k) ∧ (∀ A s, RcNeAt A s x y (!k)) := by
  cases hx with
  | none =>
    cases hy with
    | none => cases he; exact ⟨fun A s => EqAt.same _, fun A s => RcAt.none_none, fun A s => RcNeAt.none_none⟩
    | bool b => cases he; exact ⟨fun A s => EqAt.none_bool _, fun A s => RcAt.none_bool _, fun A s => RcNeAt.none_bool _⟩
    | int i t => cases he; exact ⟨fun A s => EqAt.none_int _ _, fun A s => RcAt.none_int _ _, fun A s => RcNeAt.none_int _ _⟩
    | str x t => cases he; exact ⟨fun A s => EqAt.none_str _ _, fun A s => RcAt.none_str _ _, fun A s => RcNeAt.none_str _ _⟩
    | tup => cases he
    | list => cases he
    | dict => cases he
    | rng => cases he
  | bool b =>
    cases hy with
    | none => cases he; exact ⟨fun A s => EqAt.bool_none _, fun A s => RcAt.bool_none _, fun A s => RcNeAt.bool_none _⟩
    | bool b => cases he; exact ⟨fun A s => EqAt.bool_bool _ _, fun A s => RcAt.bool_bool _ _, fun A s => RcNeAt.bool_bool _ _⟩
    | int i t => cases he; exact ⟨fun A s => EqAt.bool_int _ _ _, fun A s => RcAt.bool_int _ _ _, fun A s => RcNeAt.bool_int _ _ _⟩
    | str x t => cases he; exact ⟨fun A s => EqAt.bool_str _ _ _, fun A s => RcAt.bool_str _ _ _, fun A s => RcNeAt.bool_str _ _ _⟩
    | tup => cases he
    | list => cases he
    | dict => cases he
    | rng => cases he
  | int i t =>
    cases hy with
    | none => cases he; exact ⟨fun A s => EqAt.int_none _ _, fun A s => RcAt.int_none _ _, fun A s => RcNeAt.int_none _ _⟩
    | bool b => cases he; exact ⟨fun A s => EqAt.int_bool _ _ _, fun A s => RcAt.int_bool _ _ _, fun A s => RcNeAt.int_bool _ _ _⟩
    | int i t => cases he; exact ⟨fun A s => EqAt.int_int _ _ _ _, fun A s => RcAt.int_int _ _ _ _, fun A s => RcNeAt.int_int _ _ _ _⟩
    | str x t => cases he; exact ⟨fun A s => EqAt.int_str _ _ _ _, fun A s => RcAt.int_str _ _ _ _, fun A s => RcNeAt.int_str _ _ _ _⟩
    | tup => cases he
    | list => cases he
    | dict => cases he
    | rng => cases he
  | str x t =>
    cases hy with
    | none => cases he; exact ⟨fun A s => EqAt.str_none _ _, fun A s => RcAt.str_none _ _, fun A s => RcNeAt.str_none _ _⟩
    | bool b => cases he; exact ⟨fun A s => EqAt.str_bool _ _ _, fun A s => RcAt.str_bool _ _ _, fun A s => RcNeAt.str_bool _ _ _⟩
    | int i t => cases he; exact ⟨fun A s => EqAt.str_int _ _ _ _, fun A s => RcAt.str_int _ _ _ _, fun A s => RcNeAt.str_int _ _ _ _⟩
    | str x t => cases he; exact ⟨fun A s => EqAt.str_str _ _ _ _, fun A s => RcAt.str_str _ _ _ _, fun A s => RcNeAt.str_str _ _ _ _⟩
    | tup => cases he
    | list => cases he
    | dict => cases he
    | rng => cases he
  | tup => cases hy <;> cases he
  | list => cases hy <;> cases he
  | dict => cases hy <;> cases he
  | rng => cases hy <;> cases he

theorem eqAll_snd {P : Params} {h : Heap} : ∀ {xs ys : List Value} {ds es : List D} {k : Bool}, RepAll P h H xs ds → RepAll P h H' ys es → ds.length = es.length → eqAll ds es = some k →
    ∃ e : Nat → Bool, (List.range ds.length).all e = k ∧ ∀ j (h1 : j < xs.length) (h2 : j < ys.length) A s, EqAt A s xs[j] ys[j] (e j)
  | _, _, _, _, k, .nil, .nil, _, he => ⟨fun _ => true, by simp [eqAll] at he; simpa using he.symm, fun j h1 => absurd h1 (by simp)⟩
  | _, _, _, _, k, .nil, .cons _ _, hl, he => by simp at hl
  | _, _, _, _, k, .cons _ _, .nil, hl, he => by simp at hl
  | _, _, _, _, k, .cons hx hxs, .cons hy hys, hl, he => by
    simp only [eqAll] at he
    split at he
    · rename_i b1 b2 h1 h2
      cases he
      obtain ⟨e, e1, e2⟩ := eqAll_snd hxs hys (by simpa using hl) h2
      refine ⟨fun j => match j with | 0 => b1 | j + 1 => e j, ?_, ?_⟩
      · simp only [List.length_cons, List.range_succ_eq_map, List.all_cons, List.all_map]
        rw [← e1]; rfl
      · intro j h1' h2' A s
        cases j with
        | zero => exact (eqS_snd hx hy h1).1 A s
        | succ j => exact e2 j (by simpa using h1') (by simpa using h2') A s
    · cases he

theorem isList_of {h : Heap} {a : Addr} {vs : Array Value} {n : Nat} (ho : h.get? a = some (lstO vs n)) : h.IsList a vs := ⟨_, ho, rfl, n, rfl⟩
theorem isTuple_of {h : Heap} {a : Addr} {vs : Array Value} {n : Nat} (ho : h.get? a = some (tupO vs n)) : h.IsTuple a vs := ⟨_, ho, rfl, n, rfl⟩
theorem isTup_of {h : Heap} {a : Addr} {vs : Array Value} {n : Nat} (ho : h.get? a = some (tupO vs n)) : PyProof.Rows.IsTup h a vs := ⟨_, ho, rfl, n, rfl⟩

theorem eqD_snd {x y : Value} {a b : D} {k : Bool} (hx : Rep w.params s.heap H x a) (hy : Rep w.params s.heap H' y b) (hu : A.units < cLine) (he : eqD a b = some k) :
    RcAt A s x y k ∧ RcNeAt A s x y (!k) := by
  have lists : ∀ {l1 l2 : Addr} {v1 v2 : Array Value} {n1 n2 : Nat} {d1 d2 : List D}, s.heap.get? l1 = some (lstO v1 n1) → s.heap.get? l2 = some (lstO v2 n2) → RepAll w.params s.heap H v1.toList d1 → RepAll w.params s.heap H' v2.toList d2 →
      (if d1.length = d2.length then eqAll d1 d2 else some false) = some k → RcAt A s (.ref l1) (.ref l2) k ∧ RcNeAt A s (.ref l1) (.ref l2) (!k) := by
    intro l1 l2 v1 v2 n1 n2 d1 d2 h1 h2 r1 r2 he
    have e1 := r1.length
    have e2 := r2.length
    simp only [Array.length_toList] at e1 e2
    split at he
    · rename_i hl
      obtain ⟨e, e3, e4⟩ := eqAll_snd r1 r2 hl he
      subst e3
      rw [← e1]
      exact ⟨RcAt.lists (isList_of h1) (isList_of h2) (by omega) hu (fun j q1 q2 => by have := e4 j (by simpa using q1) (by simpa using q2) A.in1 s; rwa [Array.getElem_toList, Array.getElem_toList] at this),
        RcNeAt.lists (isList_of h1) (isList_of h2) (by omega) hu (fun j q1 q2 => by have := e4 j (by simpa using q1) (by simpa using q2) A.in1 s; rwa [Array.getElem_toList, Array.getElem_toList] at this)⟩
    · rename_i hl
      cases he
      have hne : (v1.size != v2.size) = true := by simp; omega
      exact ⟨RcAt.lists_lengths (isList_of h1) (isList_of h2) hne hu, RcNeAt.lists_lengths (isList_of h1) (isList_of h2) hne hu⟩
  unfold eqD at he
  split at he
  · cases hx with
    | list h1 _ _ r1 => cases hy with
      | list h2 _ _ r2 => exact lists h1 h2 r1 r2 he
  · cases hx with
    | tup h1 _ _ r1 => cases hy with
      | tup h2 _ _ r2 =>
        have e1 := r1.length
        have e2 := r2.length
        simp only [Array.length_toList] at e1 e2
        split at he
        · rename_i v1 n1 _ _ _ v2 n2 _ _ hl
          obtain ⟨e, e3, e4⟩ := eqAll_snd r1 r2 hl he
          have q : ((List.range (min v1.size v2.size)).all e && v1.size == v2.size) = k := by
            have e5 : min v1.size v2.size = v1.size := by omega
            rw [e5, e1, e3, e2, hl]; simp
          rw [← q]
          exact ⟨RcAt.tuples (isTuple_of h1) (isTuple_of h2) hu (fun j q1 q2 => by have := e4 j (by simpa using q1) (by simpa using q2) A.in1 s; rwa [Array.getElem_toList, Array.getElem_toList] at this),
            RcNeAt.tuples (isTuple_of h1) (isTuple_of h2) hu (fun j q1 q2 => by have := e4 j (by simpa using q1) (by simpa using q2) A.in1 s; rwa [Array.getElem_toList, Array.getElem_toList] at this)⟩
        · cases he
  · exact ⟨(eqS_snd hx hy he).2.1 _ _, (eqS_snd hx hy he).2.2 _ _⟩

theorem cmp_snd {op : CmpOp} {x y : Value} {a b d : D} (hx : Rep w.params s.heap H x a) (hy : Rep w.params s.heap H y b) (hu : A.units < cLine) (he : cmpD op a b = some d) :
    wpAny (model prog w) A (compareOp op x y) (Post w s H d) E s := by
  unfold cmpD at he
  split at he
  · rw [Option.map_eq_some_iff] at he
    obtain ⟨k, hk, rfl⟩ := he
    exact (eqD_snd hx hy hu hk).1 prog w E _ ⟨Kp.refl _, .bool _⟩
  · rw [Option.map_eq_some_iff] at he
    obtain ⟨k, hk, rfl⟩ := he
    exact (eqD_snd hx hy hu hk).2 prog w E _ ⟨Kp.refl _, .bool _⟩
  · cases hx; cases hy; cases he
    exact PyProof.Rows.lt_int ⟨Kp.refl _, .bool _⟩
  · cases hx; cases hy; cases he
    exact PyProof.Rows.le_int ⟨Kp.refl _, .bool _⟩
  · cases hx; cases hy; cases he
    exact PyProof.Rows.gt_int ⟨Kp.refl _, .bool _⟩
  · cases hx; cases hy; cases he
    exact PyProof.Rows.ge_int ⟨Kp.refl _, .bool _⟩
  · cases hx; cases hy; cases he
    exact PyProof.Rows.lt_str ⟨Kp.refl _, .bool _⟩
  · cases he

theorem lt63 {n : Nat} (h : n ≤ big) : (n : Int) < 2 ^ 63 := by unfold big at h; omega

theorem truth_snd {x : Value} {a : D} {t : Bool} (hx : Rep w.params s.heap H x a) (he : truth a = some t) :
    wpAny (model prog w) A (truthy x) (fun b s' => Keeps s s' ∧ b = t) E s := by
  cases hx <;> simp only [truth] at he <;> cases he
  · exact PyProof.Rows.truthy_none ⟨Kp.refl _, rfl⟩
  · exact wpAny_truthy_bool ⟨Kp.refl _, rfl⟩
  · exact PyProof.Rows.truthy_int ⟨Kp.refl _, rfl⟩
  · rename_i vs n ds ho _ hl hr
    have e := hr.length
    simp only [Array.length_toList] at e
    refine PyProof.Rows.truthy_tuple (isTup_of ho) (by rw [e]; exact lt63 hl) ⟨Kp.tok _ _, ?_⟩
    congr 1
    rw [Bool.eq_iff_iff]
    simp only [Array.isEmpty_iff, List.isEmpty_iff, ← Array.size_eq_zero_iff, ← List.length_eq_zero_iff, e]
  · rename_i vs n ds ho _ hl hr
    have e := hr.length
    simp only [Array.length_toList] at e
    refine wpAny_truthy_list (isList_of ho) (by rw [e]; exact lt63 hl) ⟨Kp.tok _ _, ?_⟩
    congr 1
    rw [Bool.eq_iff_iff]
    simp only [Array.isEmpty_iff, List.isEmpty_iff, ← Array.size_eq_zero_iff, ← List.length_eq_zero_iff, e]

theorem idx_seq {k : Int} {n j : Nat} (h : idx k n = some j) : seqIndex? k n = some j ∧ j < n ∧ -(n : Int) ≤ k ∧ k < n := by
  unfold idx at h
  unfold seqIndex?
  split at h
  · rename_i hc; cases h
    have e : ¬ k < 0 := by omega
    simp only [e, if_false]
    simp [hc]; omega
  · split at h
    · rename_i hc; cases h
      simp only [hc.2, if_true]
      have h1 : 0 ≤ k + n := by omega
      have h2 : k + n < n := by omega
      simp [h1, h2]; omega
    · cases h

theorem getItem_snd {x i : Value} {a b d : D} (hx : Rep w.params s.heap H x a) (hi : Rep w.params s.heap H i b) (he : subD a b = some d) :
    wpAny (model prog w) A (getItem x i) (Post w s H d) E s ∧ ∃ T id, s.TypeIs x T ∧ typeLookup (.type T) "__getitem__" = pure (some (.builtin id)) := by
  cases hx <;> cases hi <;> simp only [subD] at he <;> try (cases he)
  · split at he
    · rename_i x _ k _ hc; cases he
      refine ⟨PyProof.Rows.getItem_str (c := x.cps.getD k.toNat 0) ?_ ?_ ⟨Kp.tok _ _, .str _ _⟩, "str", _, typeIs_str _ _ _, F.slot_str_getitem.lookup⟩
      · simp; unfold big at hc; omega
      · have h1 : idx k x.length = some k.toNat := by unfold idx; simp [hc.1, hc.2.1]
        rw [(idx_seq h1).1]
        have h2 : k.toNat < x.cps.size := by have := hc.2.1; unfold Str.length at this; omega
        simp [Array.getD, h2]
    · cases he
  · rename_i ho hn hl hr k _
    cases hj : idx k _ with
    | none => rw [hj] at he; cases he
    | some j =>
      rw [hj] at he
      obtain ⟨v, hv, hvr⟩ := hr.get j he
      obtain ⟨h1, h2, h3, h4⟩ := idx_seq hj
      have e := hr.length
      simp only [Array.length_toList] at e
      refine ⟨PyProof.Rows.getItem_tuple (isTup_of ho) (by have := lt63 hl; omega) (by have := lt63 hl; omega) (by rw [e]; exact h1) (by simpa using hv) ⟨Kp.refl _, hvr⟩, "tuple", _, (isTup_of ho).typeIs, F.slot_tuple_getitem.lookup⟩
  · rename_i ho hn hl hr k _
    cases hj : idx k _ with
    | none => rw [hj] at he; cases he
    | some j =>
      rw [hj] at he
      obtain ⟨v, hv, hvr⟩ := hr.get j he
      obtain ⟨h1, h2, h3, h4⟩ := idx_seq hj
      have e := hr.length
      simp only [Array.length_toList] at e
      refine ⟨?_, "list", _, (isList_of ho).typeIs, F.slot_list_getitem.lookup⟩
      have hb := lt63 hl
      unfold seqIndex? at h1
      by_cases hk : k < 0
      · rw [if_pos hk] at h1
        refine wpAny_getItem_list_neg (isList_of ho) hk (by rw [e]; omega) (by omega) ?_ ⟨Kp.refl _, hvr⟩
        rw [e]
        simp only [Bool.and_eq_true, decide_eq_true_eq] at h1
        split at h1
        · cases h1; simpa using hv
        · cases h1
      · rw [if_neg hk] at h1
        refine wpAny_getItem_list (isList_of ho) (by omega) (by omega) ?_ ⟨Kp.refl _, hvr⟩
        simp only [Bool.and_eq_true, decide_eq_true_eq] at h1
        split at h1
        · cases h1; simpa using hv
        · cases h1
end
end Mine

namespace Mine
open PySem PySem.SeqAt

section
variable {prog : Program} {w : World} {A : Around} {E : Value → Shared → Prop} {s : Shared} {H H' : Addr → Prop}

theorem isi_snd {x : Value} {a : D} {T : String} {t : Bool} (hx : Rep w.params s.heap H x a) (he : isiD a T = some t) :
    wpAny (model prog w) A (call (.builtin "isinstance") [x, .type T]) (Post w s H (.bool t)) E s := by
  unfold isiD at he
  split at he
  · rename_i hT
    cases hx with
    | bool b =>
      rcases hT with rfl | rfl | rfl | rfl | rfl
      · cases he; exact IsiPair.bool_str ⟨Kp.tok _ _, .bool _⟩
      · cases he; exact IsiPair.bool_bool ⟨Kp.refl _, .bool _⟩
      · cases he; exact IsiPair.bool_int ⟨Kp.refl _, .bool _⟩
      · cases he; exact IsiPair.bool_tuple ⟨Kp.tok _ _, .bool _⟩
      · cases he; exact IsiPair.bool_list ⟨Kp.tok _ _, .bool _⟩
    | int i t =>
      rcases hT with rfl | rfl | rfl | rfl | rfl
      · cases he; exact IsiPair.int_str ⟨Kp.tok _ _, .bool _⟩
      · cases he; exact IsiPair.int_bool ⟨Kp.tok _ _, .bool _⟩
      · cases he; exact IsiPair.int_int ⟨Kp.refl _, .bool _⟩
      · cases he; exact IsiPair.int_tuple ⟨Kp.tok _ _, .bool _⟩
      · cases he; exact IsiPair.int_list ⟨Kp.tok _ _, .bool _⟩
    | str x t =>
      rcases hT with rfl | rfl | rfl | rfl | rfl
      · cases he; exact IsiPair.str_str ⟨Kp.refl _, .bool _⟩
      · cases he; exact IsiPair.str_bool ⟨Kp.tok _ _, .bool _⟩
      · cases he; exact IsiPair.str_int ⟨Kp.tok _ _, .bool _⟩
      · cases he; exact IsiPair.str_tuple ⟨Kp.tok _ _, .bool _⟩
      · cases he; exact IsiPair.str_list ⟨Kp.tok _ _, .bool _⟩
    | tup ho =>
      rcases hT with rfl | rfl | rfl | rfl | rfl
      · cases he; exact IsiPair.tuple_str ho rfl ⟨Kp.tok _ _, .bool _⟩
      · cases he; exact IsiPair.tuple_bool ho rfl ⟨Kp.tok _ _, .bool _⟩
      · cases he; exact IsiPair.tuple_int ho rfl ⟨Kp.tok _ _, .bool _⟩
      · cases he; exact IsiPair.tuple_tuple ho rfl ⟨Kp.refl _, .bool _⟩
      · cases he; exact IsiPair.tuple_list ho rfl ⟨Kp.tok _ _, .bool _⟩
    | list ho =>
      rcases hT with rfl | rfl | rfl | rfl | rfl
      · cases he; exact IsiPair.list_str ho rfl ⟨Kp.tok _ _, .bool _⟩
      · cases he; exact IsiPair.list_bool ho rfl ⟨Kp.tok _ _, .bool _⟩
      · cases he; exact IsiPair.list_int ho rfl ⟨Kp.tok _ _, .bool _⟩
      · cases he; exact IsiPair.list_tuple ho rfl ⟨Kp.tok _ _, .bool _⟩
      · cases he; exact IsiPair.list_list ho rfl ⟨Kp.refl _, .bool _⟩
    | _ => cases he
  · cases he

/-- the built-in that a name means -/
noncomputable def bltVal : String → Value
  | "len" => .builtin "len"
  | "isinstance" => .builtin "isinstance"
  | "sum" => .builtin "sum"
  | "max" => .builtin "max"
  | "min" => .builtin "min"
  | "sorted" => .builtin "sorted"
  | T => .type T

theorem natAbs_log2 {i : Int} (h : -strLim < i ∧ i < strLim) : i.natAbs.log2 < 1920 := by
  unfold strLim at h
  have h2 : i.natAbs < 10 ^ 100 := by
    have e : ((10 ^ 100 : Nat) : Int) = (10 : Int) ^ 100 := by exact Int.natCast_pow 10 100
    generalize (10 : Int) ^ 100 = p at h e
    omega
  by_cases h3 : i.natAbs = 0
  · rw [h3]; decide
  · refine (Nat.log2_lt h3).mpr (Nat.lt_trans h2 (by decide +kernel))

theorem blt_snd {f : String} {xs : List Value} {as : List D} {d : D} (hx : RepAll w.params s.heap H xs as) (hH : Ex s.heap H) (he : bltD f as = some d) :
    wpAny (model prog w) A (call (bltVal f) xs) (Post w s H d) E s := by
  unfold bltD at he
  split at he
  · cases hx with
    | cons h1 h2 => cases h2; cases h1 with
      | list ho hn hl hr =>
        cases he
        have e := hr.length
        simp only [Array.length_toList] at e
        refine PyProof.Rows.len_list (isList_of ho) (by rw [e]; exact lt63 hl) ?_
        rw [e]; exact ⟨Kp.tok _ _, .int _ _⟩
  · cases hx with
    | cons h1 h2 => cases h2; cases h1 with
      | tup ho hn hl hr =>
        cases he
        have e := hr.length
        simp only [Array.length_toList] at e
        refine PyProof.Rows.len_tuple (isTup_of ho) (by rw [e]; exact lt63 hl) ?_
        rw [e]; exact ⟨Kp.tok _ _, .int _ _⟩
  · cases hx with
    | cons h1 h2 => cases h2; cases h1 with
      | str x t =>
        split at he
        · rename_i hc; cases he
          exact PyProof.Rows.len_str (by have := lt63 hc; omega) ⟨Kp.tok _ _, .int _ _⟩
        · cases he
  · cases hx with
    | cons h1 h2 => cases h2; cases h1 with
      | int n t =>
        split at he
        · rename_i hc; cases he
          refine call_range_1 ⟨⟨_, _, rfl, fun _ _ e => Heap.get?_push_of_some _ e⟩, ?_⟩
          exact .rng (IsRange.new _ _ _ _ _ _ _) hH.fresh (by unfold big at *; omega)
        · cases he
  · cases hx with
    | cons h1 h2 => cases h2 with
      | cons h2 h3 => cases h3; cases h1 with
        | int n t => cases h2 with
          | int m u =>
            split at he
            · rename_i hc; cases he
              refine call_range_2 ⟨⟨_, _, rfl, fun _ _ e => Heap.get?_push_of_some _ e⟩, ?_⟩
              exact .rng (IsRange.new _ _ _ _ _ _ _) hH.fresh (by unfold big at *; omega)
            · cases he
  · cases hx with
    | cons h1 h2 => cases h2; cases h1 with
      | list ho hn hl hr =>
        cases he
        have e := hr.length
        simp only [Array.length_toList] at e
        refine call_tuple_list (isList_of ho) (fun h' hk => ⟨⟨_, _, rfl, fun _ _ q => Heap.get?_push_of_some _ (hk _ _ q)⟩, ?_⟩) (by rw [e]; exact hl)
        exact .tup (Heap.get?_push_size _ rfl) (hH.keeps hk).fresh hl (hr.keeps fun _ _ q => Heap.get?_push_of_some _ (hk _ _ q))
  · cases hx with
    | cons h1 h2 => cases h2; cases h1 with
      | bool b =>
        cases he
        exact call_int_bool ⟨Kp.tok _ _, .int _ _⟩
  · cases hx with
    | cons h1 h2 => cases h2; cases h1 with
      | int i t =>
        split at he
        · rename_i hc; cases he
          exact P.str_of_int (natAbs_log2 hc) ⟨Kp.tok _ _, .str _ _⟩
        · cases he
  · cases hx with
    | cons h1 h2 => cases h2; cases h1 with
      | str x t =>
        cases he
        exact P.str_of_str ⟨Kp.refl _, .str _ _⟩
  · cases he
end
end Mine

namespace Mine
open PySem PySem.SeqAt

section
variable {prog : Program} {w : World} {A : Around} {E : Value → Shared → Prop} {s : Shared} {H H' : Addr → Prop}

structure IterAt (prog : Program) (w : World) (A : Around) (s₁ : Shared) (H : Addr → Prop) (its : List D) (I : Addr) (s₂ : Shared) : Prop where
  keeps : Keeps s₁ s₂
  fresh : s₁.heap.get? I = none
  ex : ∃ o, s₂.heap.get? I = some o
  walk : ∃ fp P St, Walks prog w A I fp [I] its.length P St ∧ St 0 s₂.heap ∧ (∀ b ∈ fp, b = I ∨ (¬ H b ∧ ∃ o, s₁.heap.get? b = some o)) ∧ (∀ i v, i < its.length → P i v → ∃ d, its[i]? = some d ∧ Rep w.params s₁.heap H v d) ∧ (∀ i h, St i h → ∃ o, h.get? I = some o)

theorem fresh_size (h : Heap) : h.get? h.objs.size = none := Heap.get?_none_of_le (Nat.le_refl _)

theorem iter_snd {x : Value} {d : D} {its : List D} (hx : Rep w.params s.heap H x d) (hh : A.handled = none) (he : d.items = some its) :
    wpAny (model prog w) A (pyIter x) (fun v s₂ => ∃ I, v = .ref I ∧ IterAt prog w A s H its I s₂) E s := by
  cases hx <;> simp only [D.items] at he <;> cases he
  · rename_i a vs n ho hn hl hr
    have e := hr.length
    simp only [Array.length_toList] at e
    have hne : a ≠ s.heap.objs.size := Nat.ne_of_lt (Heap.lt_size ho)
    refine wpAny_pyIter_tuple (isTuple_of ho) ⟨_, rfl, Kp.push _ _, fresh_size _, ⟨_, Heap.get?_push_size _ rfl⟩, ?_⟩
    refine ⟨_, _, _, e ▸ Walks.tuple hh s.heap.objs.size a hne vs, ?_, ?_, ?_, ?_⟩
    · exact ⟨⟨_, Heap.get?_push_size _ rfl, rfl, rfl⟩, (isTuple_of ho).push _⟩
    · intro b hb
      simp only [List.mem_cons, List.not_mem_nil, or_false] at hb
      rcases hb with rfl | rfl
      · exact .inl rfl
      · exact .inr ⟨hn, _, ho⟩
    · intro i v hi hv
      obtain ⟨v', h1, h2⟩ := hr.get i (List.getElem?_eq_getElem hi)
      have : v' = v := by
        have h3 : vs.toList[i]? = vs[i]? := by simp
        rw [h3, hv] at h1; cases h1; rfl
      exact ⟨_, List.getElem?_eq_getElem hi, this ▸ h2⟩
    · rintro i h ⟨⟨o, e, _⟩, _⟩; exact ⟨o, e⟩
  · rename_i a vs n ho hn hl hr
    have e := hr.length
    simp only [Array.length_toList] at e
    have hne : a ≠ s.heap.objs.size := Nat.ne_of_lt (Heap.lt_size ho)
    refine wpAny_pyIter_list (isList_of ho) ⟨_, rfl, Kp.push _ _, fresh_size _, ⟨_, Heap.get?_push_size _ rfl⟩, ?_⟩
    refine ⟨_, _, _, e ▸ Walks.list hh s.heap.objs.size a hne vs, ?_, ?_, ?_, ?_⟩
    · exact ⟨⟨_, Heap.get?_push_size _ rfl, rfl, rfl⟩, (isList_of ho).push _⟩
    · intro b hb
      simp only [List.mem_cons, List.not_mem_nil, or_false] at hb
      rcases hb with rfl | rfl
      · exact .inl rfl
      · exact .inr ⟨hn, _, ho⟩
    · intro i v hi hv
      obtain ⟨v', h1, h2⟩ := hr.get i (List.getElem?_eq_getElem hi)
      have : v' = v := by
        have h3 : vs.toList[i]? = vs[i]? := by simp
        rw [h3, hv] at h1; cases h1; rfl
      exact ⟨_, List.getElem?_eq_getElem hi, this ▸ h2⟩
    · rintro i h ⟨⟨o, e, _⟩, _⟩; exact ⟨o, e⟩
  · rename_i lo hi t u v hr hn hl
    have hsm : Builtin.Range.small lo hi 1 = true := by
      unfold big at hl; exact small_one (by omega) (by omega) (by omega) (by omega)
    have hsz : Builtin.Range.rangeSize lo hi 1 = ((hi - lo).toNat : Int) := by
      rw [rangeSize_one]; split <;> omega
    refine wpAny_pyIter_range hr hsm ⟨_, rfl, Kp.push _ _, fresh_size _, ⟨_, Heap.get?_push_size _ rfl⟩, ?_⟩
    have hlen : ((List.range (hi - lo).toNat).map fun (i : Nat) => D.int (lo + (i : Int))).length = (hi - lo).toNat := by simp
    refine ⟨_, _, _, hlen ▸ Walks.range hh s.heap.objs.size lo 1 (hi - lo).toNat, ?_, ?_, ?_, ?_⟩
    · show Heap.get? _ _ = _
      rw [Heap.get?_push_size _ rfl, hsz]
      simp [rawInt]
    · intro b hb
      simp only [List.mem_cons, List.not_mem_nil, or_false] at hb
      exact .inl hb
    · rintro i v hi ⟨t, rfl⟩
      rw [hlen] at hi
      refine ⟨.int (lo + i), by simp [hi], ?_⟩
      rw [Int.mul_one]
      exact .int _ _
    · intro i h e; exact ⟨_, e⟩
end
end Mine

namespace Mine
open PySem PySem.SeqAt

structure AOk (A : Around) (n : Nat) : Prop where
  handled : A.handled = none
  depth : A.depth + n + 20 < recursionLimit
  units : A.units + 3 * n + 100 < cLine

structure EnvRep (h : Heap) (env : Env) (m : Str → Option Value) : Prop where
  kind : env.scope.kind = .function
  glob : env.globals = mainGlobals
  blt : env.builtins = builtinsNs
  loc : ∃ ml, h.Ns env.locals ml ∧ ∀ x, env.kindOf x = some .local → ml x = m x
  cell : ∀ x, env.kindOf x = some .cell ∨ env.kindOf x = some .free → ∃ c, env.cells.lookup x = some c ∧ h.IsCell c (m x)
  inj : ∀ x y c, env.cells.lookup x = some c → env.cells.lookup y = some c → x = y
  off : ∀ x c, env.cells.lookup x = some c → c ≠ env.locals
  ex : ∀ x c, env.cells.lookup x = some c → ∃ o, h.get? c = some o

theorem EnvRep.keeps {h h' : Heap} {env : Env} {m : Str → Option Value} (R : EnvRep h env m) (hk : ∀ a o, h.get? a = some o → h'.get? a = some o) : EnvRep h' env m where
  kind := R.kind
  glob := R.glob
  blt := R.blt
  loc := let ⟨ml, h1, h2⟩ := R.loc; ⟨ml, h1.keeps hk, h2⟩
  cell := fun x hx => let ⟨c, h1, h2⟩ := R.cell x hx; ⟨c, h1, h2.keeps hk⟩
  inj := R.inj
  off := R.off
  ex := fun x c hc => let ⟨o, ho⟩ := R.ex x c hc; ⟨o, hk _ _ ho⟩

theorem Ns.keepAt {h h' : Heap} {a : Addr} {m : Str → Option Value} (hn : h.Ns a m) (hk : ∀ o, h.get? a = some o → h'.get? a = some o) : h'.Ns a m :=
  let ⟨o, es, ep, ho, r⟩ := hn; ⟨o, es, ep, hk _ ho, r⟩
theorem Cell.keepAt {h h' : Heap} {a : Addr} {v : Option Value} (hn : h.IsCell a v) (hk : ∀ o, h.get? a = some o → h'.get? a = some o) : h'.IsCell a v :=
  let ⟨o, ho, r⟩ := hn; ⟨o, hk _ ho, r⟩

/-- the frame's own places stay -/
theorem EnvRep.keepsAt {h h' : Heap} {env : Env} {m : Str → Option Value} (R : EnvRep h env m) (hk : ∀ a o, (a = env.locals ∨ ∃ x, env.cells.lookup x = some a) → h.get? a = some o → h'.get? a = some o) : EnvRep h' env m where
  kind := R.kind
  glob := R.glob
  blt := R.blt
  loc := let ⟨ml, h1, h2⟩ := R.loc; ⟨ml, Ns.keepAt h1 fun o e => hk _ o (.inl rfl) e, h2⟩
  cell := fun x hx => let ⟨c, h1, h2⟩ := R.cell x hx; ⟨c, h1, Cell.keepAt h2 fun o e => hk _ o (.inr ⟨x, h1⟩) e⟩
  inj := R.inj
  off := R.off
  ex := fun x c hc => let ⟨o, ho⟩ := R.ex x c hc; ⟨o, hk _ _ (.inr ⟨x, hc⟩) ho⟩

section
variable {M : Model} {A : Around} {E : Value → Shared → Prop} {s : Shared}

theorem load_snd {env : Env} {m : Str → Option Value} {x : Str} {v : Value} {pos : Pos} {Q : Value → Shared → Prop} (R : EnvRep s.heap env m) (hx : isVar env.kindOf x = true) (hv : m x = some v) (h : Q v s) :
    wpAny M A (eval (.Name x pos) env) Q E s := by
  unfold isVar at hx
  simp only [Bool.and_eq_true, Bool.or_eq_true, beq_iff_eq, bne_iff_ne] at hx
  obtain ⟨⟨⟨hk, hd⟩, hc⟩, _⟩ := hx
  have hd' : (x == ("__debug__" : Str)) = false := by simpa using hd
  have hc' : (x == ("__classdict__" : Str)) = false := by simpa using hc
  refine wpAny_Name ?_ hd'
  rcases hk with (hk | hk) | hk
  · obtain ⟨ml, h1, h2⟩ := R.loc
    exact wpAny_loadName_local R.kind hk h1 ((h2 x hk).trans hv) h
  · obtain ⟨c, h1, h2⟩ := R.cell x (.inl hk)
    exact wpAny_loadName_cell R.kind hk h1 (hv ▸ h2) h
  · obtain ⟨c, h1, h2⟩ := R.cell x (.inr hk)
    exact wpAny_loadName_free R.kind hk h1 (hv ▸ h2) h hc'

noncomputable def upd (m : Str → Option Value) (x : Str) (v : Value) : Str → Option Value := fun y => if y = x then some v else m y

theorem store_snd {env : Env} {m : Str → Option Value} {x : Str} {v : Value} {Q : Unit → Shared → Prop} (R : EnvRep s.heap env m) (hx : env.kindOf x = some .local ∨ env.kindOf x = some .cell)
    (h : ∀ h' tk a, EnvRep h' env (upd m x v) → (a = env.locals ∨ env.cells.lookup x = some a) → Heap.SameBut a s.heap h' → Q () { s with heap := h', toks := tk }) :
    wpAny M A (storeName env x v) Q E s := by
  rcases hx with hk | hk
  · obtain ⟨ml, h1, h2⟩ := R.loc
    refine wpAny_storeName_local hk h1 (fun h' hn hs => h h' _ env.locals ⟨R.kind, R.glob, R.blt, ⟨_, hn, fun y hy => ?_⟩, fun y hy => ?_, R.inj, R.off, fun y c hc => let ⟨o, ho⟩ := R.ex y c hc; ⟨o, (hs.2 c (R.off y c hc)).trans ho⟩⟩ (.inl rfl) hs) (by rw [R.kind]; rfl)
    · unfold upd; by_cases e : y = x
      · simp [e]
      · simp [e, h2 y hy]
    · obtain ⟨c, h3, h4⟩ := R.cell y hy
      have hne : y ≠ x := by rintro rfl; rw [hk] at hy; simp at hy
      refine ⟨c, h3, ?_⟩
      unfold upd; rw [if_neg hne]
      exact h4.sameBut hs (R.off y c h3)
  · obtain ⟨c, h3, h4⟩ := R.cell x (.inl hk)
    refine wpAny_storeName_cell R.kind hk h3 h4 fun h' hc hs => h h' s.toks c ⟨R.kind, R.glob, R.blt, ?_, fun y hy => ?_, R.inj, R.off, fun y c' hc' => ?_⟩ (.inr h3) hs
    · obtain ⟨ml, h1, h2⟩ := R.loc
      refine ⟨ml, h1.sameBut hs (fun e => R.off x c h3 e.symm), fun y hy => ?_⟩
      have hne : y ≠ x := by rintro rfl; rw [hk] at hy; simp at hy
      unfold upd; rw [if_neg hne]; exact h2 y hy
    · obtain ⟨c', h5, h6⟩ := R.cell y hy
      by_cases e : y = x
      · subst e
        rw [h3] at h5; cases h5
        exact ⟨c, h3, by simpa [upd] using hc⟩
      · refine ⟨c', h5, ?_⟩
        unfold upd; rw [if_neg e]
        exact h6.sameBut hs fun q => e (R.inj y x c' h5 (q ▸ h3))
    · by_cases e : c' = c
      · obtain ⟨o, ho, _⟩ := hc; exact ⟨o, e ▸ ho⟩
      · obtain ⟨o, ho⟩ := R.ex y c' hc'; exact ⟨o, (hs.2 c' e).trans ho⟩

/-! the closure that a comprehension's block takes -/
noncomputable def clGo (cells : List (Str × Addr)) : List (Str × NameKind) → List (Str × Addr) → List (Str × Addr)
  | [], acc => acc
  | (n, k) :: r, acc => if k == .free then (match cells.lookup n with | some c => clGo cells r ((n, c) :: acc) | none => clGo cells r acc) else clGo cells r acc

theorem closure_go {env : Env} (f : Str × NameKind → List (Str × Addr) → Sem (ForInStep (List (Str × Addr))))
    (hf : ∀ n k cs, f (n, k) cs = if k == .free then (do let c ← cellOf env n; pure (.yield ((n, c) :: cs))) else pure (.yield cs)) :
    ∀ (names : List (Str × NameKind)) (acc : List (Str × Addr)), (∀ p ∈ names, p.2 = .free → ∃ c, env.cells.lookup p.1 = some c) → forIn names acc f = pure (clGo env.cells names acc)
  | [], acc, _ => rfl
  | (n, k) :: r, acc, h => by
    have hr : ∀ p ∈ r, p.2 = .free → ∃ c, env.cells.lookup p.1 = some c := fun p hp => h p (List.mem_cons_of_mem _ hp)
    rw [List.forIn_cons, hf]
    unfold clGo
    by_cases hk : (k == NameKind.free) = true
    · obtain ⟨c, hc⟩ := h (n, k) List.mem_cons_self (by simpa using hk)
      rw [if_pos hk, if_pos hk]
      unfold cellOf
      simp only at hc
      rw [hc]
      simp only [pure_bind]
      exact closure_go f hf r _ hr
    · rw [if_neg hk, if_neg hk, pure_bind]
      exact closure_go f hf r _ hr

theorem closureFor_go {env : Env} {scope : Scope} (h : ∀ p ∈ scope.names, p.2 = .free → ∃ c, env.cells.lookup p.1 = some c) : closureFor scope env = pure (clGo env.cells scope.names []) := by
  unfold closureFor
  simp only []
  rw [closure_go (env := env) _ (fun n k cs => by
    by_cases hk : (k == NameKind.free) = true <;> simp [hk]) scope.names [] h]
  rfl

theorem lookup_cons' {α : Type} (x n : Str) (c : α) (l : List (Str × α)) : ((n, c) :: l).lookup x = if x = n then some c else l.lookup x := by
  rw [List.lookup_cons]
  by_cases h : x = n
  · simp [h]
  · have : (x == n) = false := by simpa using h
    simp [h, this]

theorem clGo_sound {cells : List (Str × Addr)} : ∀ (names : List (Str × NameKind)) (acc : List (Str × Addr)), (∀ x c, acc.lookup x = some c → cells.lookup x = some c) →
    ∀ x c, (clGo cells names acc).lookup x = some c → cells.lookup x = some c
  | [], acc, h => h
  | (n, k) :: r, acc, h => by
    unfold clGo
    split
    · cases hc : cells.lookup n with
      | none => exact clGo_sound r acc h
      | some c =>
        refine clGo_sound r _ fun x c' e => ?_
        rw [lookup_cons'] at e
        split at e
        · rename_i q; cases e; rw [q]; exact hc
        · exact h x c' e
    · exact clGo_sound r acc h

theorem clGo_mem {cells : List (Str × Addr)} : ∀ (names : List (Str × NameKind)) (acc : List (Str × Addr)) (x : Str) (c : Addr), (clGo cells names acc).lookup x = some c → (x, NameKind.free) ∈ names ∨ acc.lookup x = some c
  | [], acc, x, c, h => .inr h
  | (n, k) :: r, acc, x, c, h => by
    unfold clGo at h
    split at h
    · rename_i hk
      have hk' : k = .free := by simpa using hk
      subst hk'
      cases hc : cells.lookup n with
      | none => rw [hc] at h; exact (clGo_mem r acc x c h).imp (.tail _) id
      | some c' =>
        rw [hc] at h
        rcases clGo_mem r _ x c h with e | e
        · exact .inl (.tail _ e)
        · rw [lookup_cons'] at e
          split at e
          · rename_i q; exact .inl (q ▸ .head _)
          · exact .inr e
    · exact (clGo_mem r acc x c h).imp (.tail _) id

theorem clGo_has {cells : List (Str × Addr)} {x : Str} {c : Addr} (hx : cells.lookup x = some c) : ∀ (names : List (Str × NameKind)) (acc : List (Str × Addr)),
    ((x, NameKind.free) ∈ names ∨ acc.lookup x = some c) → (clGo cells names acc).lookup x = some c
  | [], acc, h => h.elim (fun e => nomatch e) id
  | (n, k) :: r, acc, h => by
    unfold clGo
    split
    · cases hc : cells.lookup n with
      | none =>
        refine clGo_has hx r acc (h.imp (fun e => ?_) id)
        rcases List.mem_cons.mp e with e | e
        · cases e; rw [hx] at hc; cases hc
        · exact e
      | some c' =>
        refine clGo_has hx r _ ?_
        rcases h with e | e
        · rcases List.mem_cons.mp e with e | e
          · cases e; rw [hx] at hc; cases hc
            exact .inr (by rw [lookup_cons', if_pos rfl])
          · exact .inl e
        · rw [lookup_cons']
          split
          · rename_i q; rw [← q, hx] at hc; cases hc; exact .inr rfl
          · exact .inr e
    · rename_i hk
      refine clGo_has hx r acc (h.imp (fun e => ?_) id)
      rcases List.mem_cons.mp e with e | e
      · cases e; simp at hk
      · exact e

theorem cellsFrom_app : ∀ (names : List (Str × NameKind)) (n : Nat) (acc : List (Str × Addr)), cellsFrom n names acc = cellsFrom n names [] ++ acc
  | [], _, _ => rfl
  | (x, k) :: r, n, acc => by
    unfold cellsFrom
    split
    · rw [cellsFrom_app r (n + 1) ((x, n) :: acc), cellsFrom_app r (n + 1) [(x, n)]]; simp
    · exact cellsFrom_app r n acc

theorem cellsFrom_mem : ∀ (names : List (Str × NameKind)) (n : Nat) (x : Str) (c : Addr), (x, c) ∈ cellsFrom n names [] → (x, NameKind.cell) ∈ names ∧ n ≤ c
  | [], _, _, _, h => nomatch h
  | (y, k) :: r, n, x, c, h => by
    unfold cellsFrom at h
    split at h
    · rename_i hk
      rw [cellsFrom_app] at h
      rcases List.mem_append.mp h with h | h
      · obtain ⟨h1, h2⟩ := cellsFrom_mem r (n + 1) x c h
        exact ⟨.tail _ h1, by omega⟩
      · simp only [List.mem_cons, List.not_mem_nil, or_false, Prod.mk.injEq] at h
        obtain ⟨rfl, rfl⟩ := h
        have : k = .cell := by simpa using hk
        subst this
        exact ⟨.head _, Nat.le_refl _⟩
    · obtain ⟨h1, h2⟩ := cellsFrom_mem r n x c h
      exact ⟨.tail _ h1, h2⟩

theorem cellsFrom_has : ∀ (names : List (Str × NameKind)) (n : Nat) (x : Str), (x, NameKind.cell) ∈ names → ∃ c, (x, c) ∈ cellsFrom n names []
  | (y, k) :: r, n, x, h => by
    unfold cellsFrom
    rcases List.mem_cons.mp h with e | e
    · cases e
      simp only [beq_self_eq_true, if_true]
      rw [cellsFrom_app]
      exact ⟨n, List.mem_append_right _ (List.mem_singleton.mpr rfl)⟩
    · split
      · obtain ⟨c, hc⟩ := cellsFrom_has r (n + 1) x e
        rw [cellsFrom_app]
        exact ⟨c, List.mem_append_left _ hc⟩
      · exact cellsFrom_has r n x e

theorem lookup_some_of_mem {α : Type} : ∀ {l : List (Str × α)} {x : Str} {c : α}, (x, c) ∈ l → ∃ c', l.lookup x = some c'
  | (y, d) :: r, x, c, h => by
    rw [lookup_cons']
    split
    · exact ⟨_, rfl⟩
    · rename_i hne
      rcases List.mem_cons.mp h with e | e
      · cases e; exact absurd rfl hne
      · exact lookup_some_of_mem e

theorem lookup_app {α : Type} (x : Str) : ∀ (l l' : List (Str × α)), (l ++ l').lookup x = (l.lookup x).or (l'.lookup x)
  | [], l' => by simp
  | (y, c) :: r, l' => by
    rw [List.cons_append, lookup_cons', lookup_cons', lookup_app x r l']
    split <;> simp
end
end Mine

namespace Mine
open PySem PySem.SeqAt

/-- the list at a, its items outside of H and of a itself -/
noncomputable def OwnL (P : Params) (h : Heap) (H : Addr → Prop) (a : Addr) (ds : List D) : Prop :=
  ∃ vs n, h.get? a = some (lstO vs n) ∧ ds.length ≤ big ∧ RepAll P h (fun b => H b ∨ b = a) vs.toList ds
theorem OwnL.rep {P : Params} {h : Heap} {H : Addr → Prop} {a : Addr} {ds : List D} (o : OwnL P h H a ds) (hn : ¬ H a) : Rep P h H (.ref a) (.list ds) := by
  obtain ⟨vs, n, h1, h2, h3⟩ := o
  exact .list h1 hn h2 (h3.mono (fun _ _ _ e => e) fun _ _ _ q => .inl q)

theorem lookup_map {α β : Type} (g : Str → α → β) (x : Str) : ∀ (l : List (Str × α)), (l.map fun p => (p.1, g p.1 p.2)).lookup x = (l.lookup x).map (g x)
  | [] => rfl
  | (y, c) :: r => by
    rw [List.map_cons, lookup_cons', lookup_cons', lookup_map g x r]
    split
    · rename_i h; subst h; rfl
    · rfl

theorem kindC_eq (k : KD) (scope : Scope) (x : Str) : kindC k scope x = (scope.names.lookup x).map fun q => if q == .free && k x == some .cell then .cell else q := by
  unfold kindC
  rw [← lookup_map (fun n q => if q == NameKind.free && k n == some .cell then NameKind.cell else q) x scope.names]
  congr 1
  refine List.map_congr_left fun p _ => ?_
  by_cases h : (p.2 == NameKind.free && k p.1 == some .cell) = true
  · simp [h]
  · simp [h]

theorem relabel_kind {env : Env} {scope : Scope} (hk : env.scope.kind = .function) : (fun x => (relabel scope env).names.lookup x) = kindC env.kindOf scope := by
  funext x
  unfold relabel kindC
  simp only [hk]
  congr 1
  refine List.map_congr_left fun p _ => ?_
  obtain ⟨a, b⟩ := p
  simp

section
variable {M : Model} {A : Around} {E : Value → Shared → Prop} {s : Shared}
theorem newEnvA {scope : Scope} {globals : Addr} {cl : List (Str × Addr)} {qual : Str} {env : Env} {Q : Env → Shared → Prop}
    (h : Q { scope, locals := s.heap.objs.size, globals, cells := cellsFrom (s.heap.objs.size + 1) scope.names cl, qual, func := none, code := env.code, frame := env.frame, builtins := env.builtins }
      { s with heap := pushCells (s.heap.push { cls := .type "dict", data := .dict #[] }) scope.names }) :
    wpAny M A (newFunctionEnv scope globals cl [] qual none .none (some env)) Q E s := by
  simp only [newFunctionEnv, Option.isSome_some, if_true]
  refine wpAny_bind (wpAny_alloc ?_)
  refine wpAny_bind (wpAny_layCells _ (fun name kind cells => by cases hkc : kind == NameKind.cell <;> simp [hkc]) _ _ _ _ ?_)
  rw [show ({ s with heap := s.heap.push { cls := .type "dict", data := .dict #[] } } : Shared).heap.objs.size = s.heap.objs.size + 1 from Heap.size_push ..]
  exact wpAny_pure h
end

theorem cells_facts (h : Heap) (scope : Scope) (o : Obj) :
    CellsOk (pushCells (h.push o) scope.names) (h.objs.size + 1) (cellsFrom (h.objs.size + 1) scope.names []) := by
  have ok := cellsFrom_ok scope.names (h.push o) (h.objs.size + 1) [] ⟨fun _ _ hm => (nomatch hm), List.Pairwise.nil⟩ (by rw [Heap.size_push]; exact Nat.le_refl _)
  rwa [Heap.size_push] at ok

/-- the environment of a comprehension's block -/
theorem compEnv_rep {h : Heap} {env : Env} {m : Str → Option Value} {scope : Scope} {y : Str} (R : EnvRep h env m) (hok : okScope env.kindOf scope y = true) :
    EnvRep (pushCells (h.push { cls := .type "dict", data := .dict #[] }) scope.names)
      { scope := relabel scope env, locals := h.objs.size, globals := env.globals, cells := cellsFrom (h.objs.size + 1) scope.names (clGo env.cells scope.names []), qual := env.qual, func := none, code := env.code, frame := env.frame, builtins := env.builtins }
      (fun x => if scope.names.lookup x = some .free then m x else none) := by
  unfold okScope at hok
  simp only [Bool.and_eq_true, decide_eq_true_eq, beq_iff_eq, List.all_eq_true] at hok
  obtain ⟨⟨⟨⟨hkind, hnd⟩, hy⟩, hfree⟩, _⟩ := hok
  have ok := cells_facts h scope { cls := .type "dict", data := .dict #[] }
  have keep : ∀ b o, h.get? b = some o → (pushCells (h.push { cls := .type "dict", data := .dict #[] }) scope.names).get? b = some o := fun b o e => pushCells_keeps _ _ b o (Heap.get?_push_of_some _ e)
  have uniq : ∀ x k k', (x, k) ∈ scope.names → (x, k') ∈ scope.names → k = k' := by
    intro x k k' h1 h2
    have : ∀ (l : List (Str × NameKind)), (l.map (·.1)).Nodup → (x, k) ∈ l → (x, k') ∈ l → k = k' := by
      intro l
      induction l with
      | nil => intro _ h; nomatch h
      | cons p l ih =>
        intro hn h1 h2
        simp only [List.map_cons, List.nodup_cons] at hn
        rcases List.mem_cons.mp h1 with e1 | e1 <;> rcases List.mem_cons.mp h2 with e2 | e2
        · rw [← e2] at e1; exact (Prod.mk.inj e1).2
        · exact absurd (List.mem_map_of_mem (f := (·.1)) e2) (by rw [← e1] at hn; exact hn.1)
        · exact absurd (List.mem_map_of_mem (f := (·.1)) e1) (by rw [← e2] at hn; exact hn.1)
        · exact ih hn.2 e1 e2
    exact this _ hnd h1 h2
  have own_none : ∀ x, scope.names.lookup x ≠ some .cell → (cellsFrom (h.objs.size + 1) scope.names []).lookup x = none := by
    intro x hx
    cases hc : (cellsFrom (h.objs.size + 1) scope.names []).lookup x with
    | none => rfl
    | some c =>
      exfalso
      have h1 := (cellsFrom_mem _ _ _ _ (mem_of_lookup hc)).1
      obtain ⟨k', h2⟩ := lookup_some_of_mem h1
      have := uniq _ _ _ (mem_of_lookup h2) h1
      rw [this] at h2
      exact hx h2
  have cases_cell : ∀ x c, (cellsFrom (h.objs.size + 1) scope.names (clGo env.cells scope.names [])).lookup x = some c →
      (cellsFrom (h.objs.size + 1) scope.names []).lookup x = some c ∨ ((cellsFrom (h.objs.size + 1) scope.names []).lookup x = none ∧ env.cells.lookup x = some c) := by
    intro x c hc
    rw [cellsFrom_app, lookup_app] at hc
    cases hq : (cellsFrom (h.objs.size + 1) scope.names []).lookup x with
    | some c' => rw [hq] at hc; simp at hc; exact .inl (by rw [hc])
    | none =>
      rw [hq] at hc
      simp only [Option.none_or] at hc
      exact .inr ⟨rfl, clGo_sound _ _ (fun _ _ e => by simp at e) x c hc⟩
  have outer_lt : ∀ x c, env.cells.lookup x = some c → @LT.lt Nat _ c h.objs.size := fun x c hc => let ⟨o, ho⟩ := R.ex x c hc; Heap.lt_size ho
  have own_ge : ∀ x c, (cellsFrom (h.objs.size + 1) scope.names []).lookup x = some c → @LE.le Nat _ (h.objs.size + 1) c := fun x c hc => (ok.empty x c (mem_of_lookup hc)).2
  refine ⟨hkind, R.glob, R.blt, ⟨fun _ => none, ?_, ?_⟩, ?_, ?_, ?_, ?_⟩
  · exact (Heap.Ns.new h (.type "dict")).keeps (pushCells_keeps _ _)
  · intro x hx
    have hx' : kindC env.kindOf scope x = some .local := by rw [← relabel_kind R.kind]; exact hx
    rw [kindC_eq] at hx'
    split
    · rename_i hf; rw [hf] at hx'; simp at hx'; split at hx' <;> cases hx'
    · rfl
  · intro x hx
    have hx' : kindC env.kindOf scope x = some .cell ∨ kindC env.kindOf scope x = some .free := by rw [← relabel_kind R.kind]; exact hx
    rw [kindC_eq] at hx'
    cases hq : scope.names.lookup x with
    | none => rw [hq] at hx'; simp at hx'
    | some k =>
      rw [hq] at hx'
      by_cases hf : k = .free
      · subst hf
        have hm := mem_of_lookup hq
        have hv := hfree _ hm
        simp only [bne_self_eq_false, Bool.false_or, Bool.or_eq_true, beq_iff_eq] at hv
        obtain ⟨c, h1, h2⟩ := R.cell x hv
        refine ⟨c, ?_, ?_⟩
        · show (cellsFrom _ _ _).lookup x = some c
          rw [cellsFrom_app, lookup_app, own_none x (by rw [hq]; simp)]
          simpa using clGo_has h1 scope.names [] (.inl hm)
        · rw [if_pos rfl]; exact h2.keeps keep
      · have hk : k = .cell := by
          have : (k == NameKind.free) = false := by simpa using hf
          simp [this, hf] at hx'
          exact hx'
        subst hk
        obtain ⟨c, hc⟩ := cellsFrom_has scope.names (h.objs.size + 1) x (mem_of_lookup hq)
        obtain ⟨c', hc'⟩ := lookup_some_of_mem hc
        refine ⟨c', ?_, ?_⟩
        · show (cellsFrom _ _ _).lookup x = some c'
          rw [cellsFrom_app, lookup_app, hc']; rfl
        · rw [if_neg (by simp)]
          exact (ok.empty x c' (mem_of_lookup hc')).1
  · intro x y' c h1 h2
    rcases cases_cell x c h1 with e1 | ⟨_, e1⟩ <;> rcases cases_cell y' c h2 with e2 | ⟨_, e2⟩
    · exact name_of_addr ok.apart (mem_of_lookup e1) (mem_of_lookup e2)
    · have := own_ge x c e1; have := outer_lt y' c e2; omega
    · have := own_ge y' c e2; have := outer_lt x c e1; omega
    · exact R.inj x y' c e1 e2
  · intro x c h1 e
    rcases cases_cell x c h1 with e1 | ⟨_, e1⟩
    · have := own_ge x c e1; have e' : @Eq Nat c h.objs.size := e; omega
    · have := outer_lt x c e1; have e' : @Eq Nat c h.objs.size := e; omega
  · intro x c h1
    rcases cases_cell x c h1 with e1 | ⟨_, e1⟩
    · obtain ⟨o, ho, _⟩ := (ok.empty x c (mem_of_lookup e1)).1; exact ⟨o, ho⟩
    · obtain ⟨o, ho⟩ := R.ex x c e1; exact ⟨o, keep _ _ ho⟩
end Mine

namespace Mine
open PySem PySem.SeqAt

theorem compM_snoc (f : D → Option (Option D)) : ∀ (l : List D) (x : D), compM f (l ++ [x]) = (match compM f l, f x with
    | some ds, some (some d) => some (ds ++ [d])
    | some ds, some Option.none => some ds
    | _, _ => Option.none)
  | [], x => by
    simp only [List.nil_append, compM]
    cases f x with
    | none => rfl
    | some o => cases o <;> rfl
  | y :: l, x => by
    rw [List.cons_append, compM, compM, compM_snoc f l x]
    cases f y with
    | none => rfl
    | some o =>
      cases compM f l with
      | none => rfl
      | some ds =>
        cases f x with
        | none => rfl
        | some o' => cases o' <;> cases o <;> rfl
theorem compM_pre {f : D → Option (Option D)} : ∀ {a b : List D} {out : List D}, compM f (a ++ b) = some out → ∃ o, compM f a = some o
  | [], b, out, h => ⟨[], rfl⟩
  | x :: a, b, out, h => by
    rw [List.cons_append, compM] at h
    rw [compM]
    cases hx : f x with
    | none => rw [hx] at h; cases h
    | some o =>
      rw [hx] at h
      cases hab : compM f (a ++ b) with
      | none => rw [hab] at h; cases h
      | some ds =>
        obtain ⟨o', ho'⟩ := compM_pre hab
        rw [ho']
        exact ⟨_, rfl⟩
theorem compM_len {f : D → Option (Option D)} : ∀ {a : List D} {out : List D}, compM f a = some out → out.length ≤ a.length
  | [], out, h => by simp [compM] at h; simp [← h]
  | x :: a, out, h => by
    rw [compM] at h
    cases hx : f x with
    | none => rw [hx] at h; cases h
    | some o =>
      rw [hx] at h
      cases hab : compM f a with
      | none => rw [hab] at h; cases h
      | some ds =>
        rw [hab] at h
        have := compM_len hab
        cases o <;> (cases h; simp; omega)

theorem notSet_folded {e : Expr} {env : Env} (h : notSet e = true) : ∀ x, foldedSetIterable e env x = pure x := by
  intro x
  cases e <;> first | rfl | (cases h)
theorem notSet_marks {e : Expr} {op : CmpOp} (h : notSet e = true) : behindInMarks op e = false := by
  cases e <;> first | rfl | (cases h)

theorem nodup_lookup : ∀ {l : List (Str × NameKind)}, (l.map (·.1)).Nodup → ∀ p ∈ l, l.lookup p.1 = some p.2
  | q :: l, hn, p, hp => by
    simp only [List.map_cons, List.nodup_cons] at hn
    obtain ⟨a, b⟩ := q
    rw [lookup_cons']
    rcases List.mem_cons.mp hp with e | e
    · subst e; simp
    · split
      · rename_i q; exact absurd (List.mem_map_of_mem (f := (·.1)) e) (by rw [q]; exact hn.1)
      · exact nodup_lookup hn.2 p e

section
variable {prog : Program} {w : World} {A : Around} {E : Value → Shared → Prop} {s : Shared} {H : Addr → Prop}

theorem comp_loop {cenv : Env} {m mC0 : Str → Option Value} {free : Str → Prop} {y : Str} {py pos : Pos} {it elt : Expr} {ifs : List Expr} {scope : Scope} {R : Result → Shared → Prop} {its out : List D} {f : D → Option (Option D)}
    {I L : Addr} {fp : List Addr} {P : Nat → Value → Prop} {St : Nat → Heap → Prop} {F : Addr → Prop} {h1 h4 : Heap} {tk4 : Nat}
    (W : Walks prog w A I fp [I] its.length P St) (hfp : ∀ b ∈ fp, b = I ∨ (¬ H b ∧ ∃ o, h1.get? b = some o)) (hP : ∀ i v, i < its.length → P i v → ∃ d, its[i]? = some d ∧ Rep w.params h1 H v d)
    (hky : cenv.kindOf y = some .local ∨ cenv.kindOf y = some .cell) (hyf : ¬ free y)
    (hst : St 0 h4) (hacc : h4.PlainList L #[]) (RC : EnvRep h4 cenv mC0) (hfv : ∀ x, free x → mC0 x = m x)
    (FI : F I) (FL : F L) (FC : F cenv.locals) (Fy : ∀ c, cenv.cells.lookup y = some c → F c)
    (nIL : I ≠ L) (nIC : I ≠ cenv.locals) (nLC : L ≠ cenv.locals) (ncell : ∀ x c, cenv.cells.lookup x = some c → c ≠ L ∧ c ≠ I)
    (Ff : ∀ b, F b → h1.get? b = none) (Fx : ∀ b, F b → b ≠ I → ∃ o, h4.get? b = some o) (IC : @LE.le Nat _ I cenv.locals) (hH : Ex h1 H) (k01 : ∀ b o, s.heap.get? b = some o → h1.get? b = some o) (k14 : ∀ b o, h1.get? b = some o → h4.get? b = some o)
    (hlen : its.length ≤ big) (hout : compM f its = some out)
    (helt : ∀ (s₂ : Shared) (mC : Str → Option Value) (H₂ : Addr → Prop) (v : Value) (dv : D) (r : Option D), dv ∈ its → f dv = some r → EnvRep s₂.heap cenv mC → mC y = some v → Rep w.params s₂.heap H₂ v dv →
      (∀ x, free x → mC x = m x) → Ex s₂.heap H₂ → Keeps s s₂ → (∀ a o, s.heap.get? a = some o → H₂ a → H a) → ∀ E' : Value → Shared → Prop,
      wpAny (model prog w) A (forIn ifs true fun c r => if r = true then do let ok ← isTrue c cenv (eval c cenv); pure (ForInStep.yield ok) else pure (ForInStep.yield r))
        (fun ok s₃ => Keeps s₂ s₃ ∧ ok = r.isSome ∧ ∀ dr, r = some dr → wpAny (model prog w) A (eval elt cenv) (fun v' s₄ => Keeps s₃ s₄ ∧ Rep w.params s₄.heap H₂ v' dr) E' s₃) E' s₂)
    (hR : ∀ h' tk m', h'.Ns cenv.locals m' → OwnL w.params h' (fun b => H b ∨ F b) L out → (∀ b o, s.heap.get? b = some o → h'.get? b = some o) → R (.ok .next) { s with heap := h', toks := tk }) :
    codeAny (model prog w) A (.compLoop (.ListComp elt [⟨.Name y py, it, ifs, 0⟩] scope pos) 0 (.ref I) (.ref L) cenv) R { s with heap := h4, toks := tk4 } := by
  refine codeAny_compLoop_tests
    (fun k s' => ∃ h tk done rest o ys mC, s' = { s with heap := h, toks := tk } ∧ its = done ++ rest ∧ St done.length h ∧ h.PlainList L ys ∧ compM f done = some o ∧ RepAll w.params h (fun b => H b ∨ F b) ys.toList o ∧ EnvRep h cenv mC ∧
      (∀ x, free x → mC x = m x) ∧ (∀ b o, h1.get? b = some o → h.get? b = some o) ∧ (∀ b, F b → b ≠ I → ∃ o, h.get? b = some o) ∧ k = its.length + 1 - done.length) ?_ (its.length + 1)
    ⟨h4, tk4, [], its, [], #[], mC0, rfl, rfl, hst, hacc, rfl, by simpa using RepAll.nil, RC, hfv, k14, Fx, rfl⟩
  rintro k s' ⟨h, tk, done, rest, o, ys, mC, rfl, hits, hst', hacc', ho, hys, RC', hfv', k1h, Fx', rfl⟩
  have hysl : ys.size = o.length := by have := hys.length; simpa using this
  have hol : o.length ≤ done.length := compM_len ho
  have hdl : done.length + rest.length = its.length := by rw [hits]; simp
  cases rest with
  | nil =>
    simp only [List.append_nil] at hits
    subst hits
    rw [hout] at ho; cases ho
    refine W.done _ _ _ hst' fun h' tk' hk' => ?_
    obtain ⟨ml, hns, _⟩ := RC'.loc
    refine hR h' tk' ml (Ns.keepAt hns fun o e => hk' _ o (by simpa using Ne.symm nIC) e) ?_ fun b o e => hk' b o ?_ (k1h b o (k01 b o e))
    · obtain ⟨n, hL⟩ := hacc'
      refine ⟨ys, n, hk' _ _ (by simpa using Ne.symm nIL) hL, Nat.le_trans hol hlen, ?_⟩
      exact hys.mono (fun a o' hn e => hk' a o' (fun q => hn (.inr (by simp at q; rw [q]; exact FI))) e) fun a o' _ q => q.elim id fun q => .inr (q ▸ FL)
    · intro q
      simp at q
      have := Ff I FI
      rw [← q, k01 b o e] at this; cases this
  | cons dv rest' =>
    have hlt : done.length < its.length := by rw [hits]; simp
    refine W.item done.length _ _ _ hlt hst' fun v h₁ tk₁ hPv hst₁ hk₁ => ?_
    obtain ⟨dv', e1, rv⟩ := hP _ v hlt hPv
    have : dv' = dv := by
      rw [hits] at e1
      simpa using e1.symm
    subst this
    have RC₁ : EnvRep h₁ cenv mC := RC'.keepsAt fun a o' ha e => hk₁ a o' (by
      simp only [List.mem_singleton]
      rcases ha with rfl | ⟨x, hx⟩
      · exact Ne.symm nIC
      · exact (ncell x a hx).2) e
    refine wpAny_assign_Name (store_snd (s := { s with heap := h₁, toks := tk₁ }) RC₁ hky fun h₂ tk₂ a RC₂ ha hs₂ => ?_)
    have Fa : F a := ha.elim (fun e => e ▸ FC) fun e => Fy a e
    have aI : a ≠ I := ha.elim (fun e => e ▸ Ne.symm nIC) fun e => (ncell y a e).2
    have aL : a ≠ L := ha.elim (fun e => e ▸ Ne.symm nLC) fun e => (ncell y a e).1
    have nF1 : ∀ b o', h1.get? b = some o' → ¬ F b := fun b o' e q => by have := Ff b q; rw [e] at this; cases this
    have k12 : ∀ b o', h1.get? b = some o' → h₂.get? b = some o' := fun b o' e => (hs₂.2 b (fun q => nF1 b o' e (q ▸ Fa))).trans (hk₁ b o' (by simp only [List.mem_singleton]; rintro rfl; exact nF1 _ _ e FI) (k1h b o' e))
    have hst₂ : St (done.length + 1) h₂ := W.frame _ _ _ hst₁ fun b hb o' e => by
      refine (hs₂.2 b fun q => ?_).trans e
      rcases hfp b hb with e2 | ⟨_, o2, e2⟩
      · exact aI (q ▸ e2)
      · exact nF1 b o2 e2 (q ▸ Fa)
    have Fx₂ : ∀ b, F b → b ≠ I → ∃ o', h₂.get? b = some o' := fun b hb hbI => by
      obtain ⟨o', e⟩ := Fx' b hb hbI
      have e1 := hk₁ b o' (by simpa using hbI) e
      by_cases q : b = a
      · rcases ha with e2 | e2
        · obtain ⟨_, ⟨o2, _, _, e3, _⟩, _⟩ := RC₂.loc
          exact ⟨o2, by rw [q, e2]; exact e3⟩
        · obtain ⟨o2, e3⟩ := RC₂.ex y a e2
          exact ⟨o2, by rw [q]; exact e3⟩
      · exact ⟨o', (hs₂.2 b q).trans e1⟩
    have hmem : dv' ∈ its := by rw [hits]; simp
    have hfd : ∃ r, f dv' = some r ∧ compM f (done ++ [dv']) = some (match r with | some x => o ++ [x] | Option.none => o) := by
      rw [hits, show done ++ dv' :: rest' = (done ++ [dv']) ++ rest' by simp] at hout
      obtain ⟨o', ho'⟩ := compM_pre hout
      have h2 := ho'
      rw [compM_snoc, ho] at ho'
      cases hf : f dv' with
      | none => rw [hf] at ho'; cases ho'
      | some r =>
        refine ⟨r, rfl, ?_⟩
        rw [hf] at ho'
        rw [h2]
        cases r <;> (cases ho'; rfl)
    obtain ⟨r, hfr, hnext⟩ := hfd
    have hH₂ : Ex h₂ (fun b => H b ∨ F b) := fun b hb => hb.elim (fun q => let ⟨b', o', hb', e⟩ := hH b q; ⟨b', o', hb', k12 b' o' e⟩) fun q => by
      by_cases hbI : b = I
      · obtain ⟨o', e⟩ := Fx₂ _ FC (Ne.symm nIC)
        exact ⟨_, o', hbI ▸ IC, e⟩
      · obtain ⟨o', e⟩ := Fx₂ b q hbI
        exact ⟨b, o', Nat.le_refl _, e⟩
    have rv₂ : Rep w.params h₂ (fun b => H b ∨ F b) v dv' := rv.mono (fun b o' _ e => k12 b o' e) fun b o' e q => q.elim id fun q => absurd q (nF1 b o' e)
    refine wpAny_mono (helt { s with heap := h₂, toks := tk₂ } (upd mC y v) (fun b => H b ∨ F b) v dv' r hmem hfr RC₂ (by simp [upd]) rv₂ (fun x hx => by
      have : x ≠ y := fun e => hyf (e ▸ hx)
      simp [upd, this, hfv' x hx]) hH₂ ⟨h₂, tk₂, rfl, fun b o' e => k12 b o' (k01 b o' e)⟩ (fun b o' e q => q.elim id fun q => absurd q (nF1 b o' (k01 b o' e))) _) (fun ok s₃ h₃ => ?_) fun _ _ e => e
    obtain ⟨kp3, rfl, he3⟩ := h₃
    obtain ⟨h₃, tk₃, rfl, k23⟩ := kp3
    have hys₂ : RepAll w.params h₂ (fun b => H b ∨ F b) ys.toList o := hys.mono (fun b o' hn e => (hs₂.2 b fun q => hn (.inr (q ▸ Fa))).trans (hk₁ b o' (by simp only [List.mem_singleton]; rintro rfl; exact hn (.inr FI)) e)) fun _ _ _ q => q
    have hacc₂ : h₂.PlainList L ys := by
      obtain ⟨n, hL⟩ := hacc'
      exact ⟨n, (hs₂.2 L (Ne.symm aL)).trans (hk₁ _ _ (by simpa using Ne.symm nIL) hL)⟩
    have hacc₃ : h₃.PlainList L ys := let ⟨n, hL⟩ := hacc₂; ⟨n, k23 _ _ hL⟩
    cases r with
    | none =>
      simp only [Option.isSome_none, Bool.false_eq_true, if_false]
      refine ⟨its.length + 1 - (done.length + 1), by omega, h₃, tk₃, done ++ [dv'], rest', o, ys, _, rfl, by rw [hits]; simp, ?_, hacc₃, hnext, hys₂.keeps k23, RC₂.keeps k23, ?_, fun b o' e => k23 _ _ (k12 b o' e), fun b hb hbI => let ⟨o', e⟩ := Fx₂ b hb hbI; ⟨o', k23 _ _ e⟩, by simp⟩
      · have := W.frame _ _ h₃ hst₂ fun b _ o' e => k23 b o' e
        simpa using this
      · intro x hx
        have : x ≠ y := fun e => hyf (e ▸ hx)
        simp [upd, this, hfv' x hx]
    | some dr =>
      simp only [Option.isSome_some, if_true]
      refine wpAny_mono (he3 dr rfl) (fun x s₄ h₄ => ?_) fun _ _ e => e
      obtain ⟨⟨h₄, tk₄, rfl, k34⟩, rx⟩ := h₄
      have hacc₄ : h₄.PlainList L ys := let ⟨n, hL⟩ := hacc₃; ⟨n, k34 _ _ hL⟩
      refine wpAny_list_append_plain hacc₄ (fun h₅ hl₅ hs₅ => ?_) (by
        have e9 : big = sizeLine := rfl
        omega)
      have notL : ∀ {b}, ¬ (H b ∨ F b) → b ≠ L := fun hn q => hn (.inr (q ▸ FL))
      refine ⟨its.length + 1 - (done.length + 1), by omega, h₅, tk₄, done ++ [dv'], rest', o ++ [dr], ys.push x, _, rfl, by rw [hits]; simp, ?_, hl₅, hnext, ?_, (RC₂.keeps fun b o' e => k34 _ _ (k23 b o' e)).keepsAt fun b o' hb e => (hs₅.2 b ?_).trans e, ?_, ?_, ?_, by simp⟩
      · have := W.frame _ _ h₅ hst₂ fun b hb o' e => (hs₅.2 b ?_).trans (k34 _ _ (k23 b o' e))
        · simpa using this
        · rcases hfp b hb with e2 | ⟨_, o2, e2⟩
          · rw [e2]; exact nIL
          · rintro rfl; exact nF1 _ _ e2 FL
      · have r1 := (hys₂.keeps k23).keeps k34
        have r2 : RepAll w.params h₄ (fun b => H b ∨ F b) (ys.toList ++ [x]) (o ++ [dr]) := r1.append (.cons rx .nil)
        have r3 := r2.mono (h' := h₅) (H' := fun b => H b ∨ F b) (fun b o' hn e => (hs₅.2 b (notL hn)).trans e) fun _ _ _ q => q
        simpa using r3
      · rcases hb with rfl | ⟨z, hz⟩
        · exact Ne.symm nLC
        · exact (ncell z b hz).1
      · intro z hz
        have : z ≠ y := fun e => hyf (e ▸ hz)
        simp [upd, this, hfv' z hz]
      · exact fun b o' e => (hs₅.2 b (fun q => nF1 b o' e (q ▸ FL))).trans (k34 _ _ (k23 _ _ (k12 b o' e)))
      · intro b hb hbI
        by_cases q : b = L
        · obtain ⟨n, hL⟩ := hl₅; exact ⟨_, q ▸ hL⟩
        · obtain ⟨o', e⟩ := Fx₂ b hb hbI
          exact ⟨o', (hs₅.2 b q).trans (k34 _ _ (k23 _ _ e))⟩

theorem comp_core {env : Env} {m : Str → Option Value} {scope : Scope} {y : Str} {py pos ppos : Pos} {it elt : Expr} {ifs : List Expr} {use : Option (Value → Sem Unit)} {Q : Value → Shared → Prop} {d : D} {its out : List D} {f : D → Option (Option D)}
    (R : EnvRep s.heap env m) (hok : okScope env.kindOf scope y = true) (hset : notSet it = true) (hh : A.handled = none) (hH : Ex s.heap H)
    (hit : wpAny (model prog w) A (eval it env) (Post w s H d) E s) (hits : d.items = some its) (hlen : its.length ≤ big) (hout : compM f its = some out)
    (helt : ∀ (s₂ : Shared) (cenv : Env) (mC : Str → Option Value) (H₂ : Addr → Prop) (v : Value) (dv : D) (r : Option D), dv ∈ its → f dv = some r → cenv.kindOf = kindC env.kindOf scope → EnvRep s₂.heap cenv mC → mC y = some v → Rep w.params s₂.heap H₂ v dv →
      (∀ x, scope.names.lookup x = some .free → mC x = m x) → Ex s₂.heap H₂ → Keeps s s₂ → (∀ a o, s.heap.get? a = some o → H₂ a → H a) → ∀ E' : Value → Shared → Prop,
      wpAny (model prog w) A (forIn ifs true fun c r => if r = true then do let ok ← isTrue c cenv (eval c cenv); pure (ForInStep.yield ok) else pure (ForInStep.yield r))
        (fun ok s₃ => Keeps s₂ s₃ ∧ ok = r.isSome ∧ ∀ dr, r = some dr → wpAny (model prog w) A (eval elt cenv) (fun v' s₄ => Keeps s₃ s₄ ∧ Rep w.params s₄.heap H₂ v' dr) E' s₃) E' s₂)
    (hQ : ∀ L C h' tk m', (∀ b o, s.heap.get? b = some o → @LT.lt Nat _ b L) → s.heap.get? C = none → L ≠ C → h'.Ns C m' → OwnL w.params h' (fun b => H b ∨ b = C) L out → (∀ b o, s.heap.get? b = some o → h'.get? b = some o) →
      compPost (model prog w) A E use Q (.ref L) C (.ok .next) { s with heap := h', toks := tk }) :
    wpAny (model prog w) A (comprehension (.ListComp elt [⟨.Name y py, it, ifs, 0⟩] scope pos) scope env ppos (newList []) false (eval it env) use) Q E s := by
  have hok' := hok
  unfold okScope at hok'
  simp only [Bool.and_eq_true, decide_eq_true_eq, beq_iff_eq, List.all_eq_true, Bool.or_eq_true] at hok'
  obtain ⟨⟨⟨⟨hkind, hnodup⟩, hy⟩, hfree⟩, _⟩ := hok'
  refine wpAny_comprehension_free (cl := clGo env.cells scope.names []) rfl (notSet_folded hset) (closureFor_go fun p hp hf => ?_) hkind (fun x hx hl => by rw [nodup_lookup hnodup x hx, hl]) ?_
  · have hv := hfree p hp
    simp only [hf, bne_self_eq_false, Bool.false_eq_true, false_or] at hv
    obtain ⟨c, h1, _⟩ := R.cell p.1 hv
    exact ⟨c, h1⟩
  refine wpAny_mono hit (fun xv s₁ h₁ => ?_) fun _ _ e => e
  obtain ⟨k1, rep1⟩ := h₁
  have hiter := iter_snd (prog := prog) (E := E) rep1 hh hits
  refine wpAny_mono hiter (fun itv s₂ h₂ => ?_) fun _ _ e => e
  obtain ⟨I, rfl, IA⟩ := h₂
  obtain ⟨fp, P, St, W, hst, hfp, hP, _⟩ := IA.walk
  refine wpAny_newObj_type (newEnvA ?_)
  dsimp only
  obtain ⟨h2, tk2, rfl, k12⟩ := IA.keeps
  obtain ⟨h1, tk1, rfl, k01⟩ := k1
  dsimp only at k12 k01 ⊢
  generalize hh3 : h2.push { cls := .type "list", dict := none, data := .seq ([] : List Value).toArray } = h3
  have R3 : EnvRep h3 env m := (R.keeps k01).keeps fun b o e => hh3 ▸ Heap.get?_push_of_some _ (k12 b o e)
  have RC := compEnv_rep (y := y) R3 hok
  have size3 : h3.objs.size = h2.objs.size + 1 := by rw [← hh3, Heap.size_push]
  obtain ⟨oI, hI⟩ := IA.ex
  dsimp only at hI
  have I_lt : @LT.lt Nat _ I h2.objs.size := Heap.lt_size hI
  have ok := cells_facts h3 scope { cls := .type "dict", data := .dict #[] }
  have k34 : ∀ b o, h3.get? b = some o → (pushCells (h3.push { cls := .type "dict", data := .dict #[] }) scope.names).get? b = some o := fun b o e => pushCells_keeps _ _ b o (Heap.get?_push_of_some _ e)
  have k23 : ∀ b o, h2.get? b = some o → h3.get? b = some o := fun b o e => hh3 ▸ Heap.get?_push_of_some _ e
  have hL3 : h3.get? h2.objs.size = some (lstO #[] 0) := by rw [← hh3]; exact Heap.get?_push_size _ rfl
  have lt1 : ∀ b o, h1.get? b = some o → @LT.lt Nat _ b h2.objs.size := fun b o e => Heap.lt_size (k12 b o e)
  have own_ge : ∀ x c, (x, c) ∈ cellsFrom (h3.objs.size + 1) scope.names [] → @LE.le Nat _ (h3.objs.size + 1) c := fun x c hc => (ok.empty x c hc).2
  have cellb : ∀ x c, (cellsFrom (h3.objs.size + 1) scope.names (clGo env.cells scope.names [])).lookup x = some c → (x, c) ∈ cellsFrom (h3.objs.size + 1) scope.names [] ∨ (∃ o, h1.get? c = some o ∧ True) := by
    intro x c hc
    rw [cellsFrom_app, lookup_app] at hc
    cases hq : (cellsFrom (h3.objs.size + 1) scope.names []).lookup x with
    | some c' => rw [hq] at hc; simp at hc; exact .inl (hc ▸ mem_of_lookup hq)
    | none =>
      rw [hq] at hc
      simp only [Option.none_or] at hc
      obtain ⟨o, ho⟩ := R.ex x c (clGo_sound _ _ (fun _ _ e => by simp at e) x c hc)
      exact .inr ⟨o, k01 _ _ ho, trivial⟩
  have hcellfacts : ∀ x c, (cellsFrom (h3.objs.size + 1) scope.names (clGo env.cells scope.names [])).lookup x = some c → c ≠ h2.objs.size ∧ c ≠ I := by
    intro x c hc
    rcases cellb x c hc with e | ⟨o, e, _⟩
    · have := own_ge x c e
      constructor
      · rintro rfl; omega
      · rintro rfl; omega
    · have := lt1 c o e
      constructor
      · rintro rfl; exact Nat.lt_irrefl _ this
      · rintro rfl; have := IA.fresh; dsimp only at this; rw [e] at this; cases this
  have nIC : I ≠ h3.objs.size := by rintro rfl; omega
  have nLC : h2.objs.size ≠ h3.objs.size := by omega
  have nIL : I ≠ h2.objs.size := by rintro rfl; exact Nat.lt_irrefl _ I_lt
  have hkC : (fun x => (relabel scope env).names.lookup x) = kindC env.kindOf scope := relabel_kind R.kind
  have ynf : scope.names.lookup y ≠ some .free := by rcases hy with e | e <;> (rw [e]; simp)
  have none_of : ∀ b, (∀ o, h1.get? b ≠ some o) → h1.get? b = none := fun b hb => by
    cases e : h1.get? b with
    | none => rfl
    | some o => exact absurd e (hb o)
  have loop : ∀ tk4, codeAny (model prog w) A (.compLoop (.ListComp elt [⟨.Name y py, it, ifs, 0⟩] scope pos) 0 (.ref I) (.ref h2.objs.size)
      { scope := relabel scope env, locals := h3.objs.size, globals := env.globals, cells := cellsFrom (h3.objs.size + 1) scope.names (clGo env.cells scope.names []), qual := env.qual, func := none, code := env.code, frame := env.frame, builtins := env.builtins })
      (compPost (model prog w) A E use Q (.ref h2.objs.size) h3.objs.size) { s with heap := pushCells (h3.push { cls := .type "dict", data := .dict #[] }) scope.names, toks := tk4 } := by
    intro tk4
    refine comp_loop (s := s) (H := H) (m := m) (free := fun x => scope.names.lookup x = some .free) (F := fun b => b = I ∨ b = h2.objs.size ∨ b = h3.objs.size ∨ ∃ x, (x, b) ∈ cellsFrom (h3.objs.size + 1) scope.names []) (h1 := h1) (mC0 := fun x => if scope.names.lookup x = some .free then m x else none)
      W hfp hP ?_ ynf ?_ ?_ RC (fun x hx => by simp [hx]) (.inl rfl) (.inr (.inl rfl)) (.inr (.inr (.inl rfl))) ?_ nIL nIC nLC hcellfacts ?_ ?_ (by show @LE.le Nat _ I h3.objs.size; omega) (hH.keeps k01) k01 (fun b o e => k34 b o (k23 b o (k12 b o e))) hlen hout ?_ ?_
    · show (fun x => (relabel scope env).names.lookup x) y = _ ∨ (fun x => (relabel scope env).names.lookup x) y = _
      rw [hkC, kindC_eq]
      rcases hy with e | e
      · exact .inl (by rw [e]; rfl)
      · exact .inr (by rw [e]; rfl)
    · refine W.frame _ _ _ hst fun b _ o e => k34 b o (k23 b o e)
    · exact ⟨0, k34 _ _ hL3⟩
    · intro c hc
      rcases cellb y c hc with e | ⟨o, e, _⟩
      · exact .inr (.inr (.inr ⟨y, e⟩))
      · exfalso
        have hc' : (cellsFrom (h3.objs.size + 1) scope.names (clGo env.cells scope.names [])).lookup y = some c := hc
        rw [cellsFrom_app, lookup_app] at hc'
        have hym : scope.names.lookup y = some .cell := by
          rcases hy with e1 | e1
          · exfalso
            have hno : (cellsFrom (h3.objs.size + 1) scope.names []).lookup y = none := by
              cases hq : (cellsFrom (h3.objs.size + 1) scope.names []).lookup y with
              | none => rfl
              | some c' =>
                have h5 := (cellsFrom_mem _ _ _ _ (mem_of_lookup hq)).1
                have h6 := nodup_lookup hnodup _ h5
                simp only at h6
                rw [e1] at h6; cases h6
            rw [hno] at hc'
            simp only [Option.none_or] at hc'
            rcases clGo_mem _ _ _ _ hc' with q | q
            · have h6 := nodup_lookup hnodup _ q
              simp only at h6
              rw [e1] at h6; cases h6
            · simp at q
          · exact e1
        obtain ⟨c2, hc2⟩ := cellsFrom_has scope.names (h3.objs.size + 1) y (mem_of_lookup hym)
        obtain ⟨c3, hc3⟩ := lookup_some_of_mem hc2
        rw [hc3] at hc'
        simp at hc'
        subst hc'
        have := own_ge y c3 (mem_of_lookup hc3)
        have := lt1 c3 o e
        omega
    · intro b hb
      refine none_of b fun o e => ?_
      have := lt1 b o e
      rcases hb with rfl | rfl | rfl | ⟨x, hx⟩
      · have := IA.fresh; dsimp only at this; rw [e] at this; cases this
      · exact Nat.lt_irrefl _ this
      · omega
      · have := own_ge x b hx; omega
    · intro b hb hbI
      rcases hb with rfl | rfl | rfl | ⟨x, hx⟩
      · exact absurd rfl hbI
      · exact ⟨_, k34 _ _ hL3⟩
      · obtain ⟨_, ⟨o, _, _, e, _⟩, _⟩ := RC.loc
        exact ⟨o, e⟩
      · obtain ⟨o, e, _⟩ := (ok.empty x b hx).1
        exact ⟨o, e⟩
    · intro s₂ mC H₂ v dv r hm hf RC' hv rv hfv hx kp hsub E'
      refine helt s₂ _ mC H₂ v dv r hm hf ?_ RC' hv rv hfv hx kp hsub E'
      exact hkC
    · intro h' tk m' hns hown hk
      refine hQ h2.objs.size h3.objs.size h' tk m' ?_ ?_ nLC hns ?_ hk
      · exact fun b o e => lt1 _ o (k01 _ o e)
      · cases e : s.heap.get? h3.objs.size with
        | none => rfl
        | some o => have := lt1 _ o (k01 _ o e); omega
      · obtain ⟨vs, n, q1, q2, q3⟩ := hown
        exact ⟨vs, n, q1, q2, q3.mono (fun _ _ _ e => e) fun a o _ q => q.elim (fun q => q.elim (fun q => .inl (.inl q)) fun q => .inl (.inr (.inr (.inr (.inl q))))) fun q => .inr q⟩
  refine codeAny_compStart_list (loop _) (W.self 0 _ _ _ ?_ (loop _))
  exact W.frame _ _ _ hst fun b _ o e => k34 b o (k23 b o e)
end
end Mine

namespace Mine
open PySem PySem.SeqAt

noncomputable def bltNames : List String := ["len", "isinstance", "range", "tuple", "int", "str", "list", "bool", "set", "sum", "max", "min", "sorted"]

structure GOk (mg mb : Str → Option Value) (h : Heap) : Prop where
  g : h.Ns mainGlobals mg
  b : h.Ns builtinsNs mb
  lim : h.NoLimit
  blt : ∀ f ∈ bltNames, mg (Str.ofString f) = none ∧ mb (Str.ofString f) = some (bltVal f)

noncomputable def Fresh (w : World) (s s' : Shared) (H : Addr → Prop) (v : Value) (d : D) : Prop := ∃ a ds, v = .ref a ∧ d = .list ds ∧ s.heap.get? a = none ∧ OwnL w.params s'.heap H a ds
noncomputable def PostF (w : World) (s : Shared) (H : Addr → Prop) (d : D) (fr : Bool) (v : Value) (s' : Shared) : Prop := Keeps s s' ∧ Rep w.params s'.heap H v d ∧ (fr = true → Fresh w s s' H v d)

/-- the heap bears the base; the places in H are laid, and none of the base's -/
structure HOk (base h : Heap) (H : Addr → Prop) : Prop where
  keep : ∀ b o, base.get? b = some o → h.get? b = some o
  ex : Ex h H
  off : ∀ b o, base.get? b = some o → ¬ H b
theorem HOk.keeps {base h h' : Heap} {H : Addr → Prop} (x : HOk base h H) (hk : ∀ a o, h.get? a = some o → h'.get? a = some o) : HOk base h' H :=
  ⟨fun b o e => hk b o (x.keep b o e), x.ex.keeps hk, x.off⟩

structure CSound (prog : Program) (w : World) (base : Heap) (mg : Str → Option Value) (cf : CF) (A : Around) : Prop where
  call : ∀ f ds d fr, cf.call f ds = some (d, fr) → ∃ a o fd, mg (Str.ofString f) = some (.ref a) ∧ base.get? a = some o ∧ o.data = .func fd ∧
    ∀ (s : Shared) (H : Addr → Prop) (vs : List Value) (E : Value → Shared → Prop), HOk base s.heap H → RepAll w.params s.heap H vs ds →
      wpAny (model prog w) A (PySem.call (.ref a) vs) (PostF w s H d fr) E s
  glob : ∀ x d, cf.glob x = some d → ∃ v, mg (Str.ofString x) = some v ∧ Rep w.params base (fun _ => False) v d

/-- what is known of the variables that are read -/
noncomputable def NV (P : Params) (k : KD) (ns : List String) (ρ : List (String × D)) (m : Str → Option Value) (h : Heap) (H : Addr → Prop) : Prop :=
  ∀ x ∈ ns, isVar k (Str.ofString x) = true → ∀ d, ρ.lookup x = some d → ∃ v, m (Str.ofString x) = some v ∧ Rep P h H v d
theorem NV.sub {P : Params} {k : KD} {ns ns' : List String} {ρ : List (String × D)} {m : Str → Option Value} {h : Heap} {H : Addr → Prop} (n : NV P k ns ρ m h H) (hs : ∀ x ∈ ns', x ∈ ns) : NV P k ns' ρ m h H :=
  fun x hx => n x (hs x hx)
theorem NV.keeps {P : Params} {k : KD} {ns : List String} {ρ : List (String × D)} {m : Str → Option Value} {h h' : Heap} {H : Addr → Prop} (n : NV P k ns ρ m h H) (hk : ∀ a o, h.get? a = some o → h'.get? a = some o) : NV P k ns ρ m h' H :=
  fun x hx hv d hd => let ⟨v, h1, h2⟩ := n x hx hv d hd; ⟨v, h1, h2.keeps hk⟩

section
variable {prog : Program} {w : World} {A : Around} {s : Shared} {base : Heap} {mg mb : Str → Option Value} {cf : CF}

/-- a run of an expression is sound -/
noncomputable def SE (prog : Program) (w : World) (A : Around) (base : Heap) (cf : CF) (me : ME) : Prop :=
  ∀ (s : Shared) (env : Env) (e : Expr) (H : Addr → Prop) (ρ : List (String × D)) (m : Str → Option Value) (d : D) (E : Value → Shared → Prop), chkE env.kindOf e me = true → EnvRep s.heap env m →
    HOk base s.heap H → NV w.params env.kindOf me.names ρ m s.heap H → evE cf ρ me = some d → wpAny (model prog w) A (eval e env) (Post w s H d) E s
noncomputable def SEs (prog : Program) (w : World) (A : Around) (base : Heap) (cf : CF) (ms : List ME) : Prop :=
  ∀ (s : Shared) (env : Env) (es : List Expr) (H : Addr → Prop) (ρ : List (String × D)) (m : Str → Option Value) (ds : List D) (E : Value → Shared → Prop), chkEs env.kindOf es ms = true → EnvRep s.heap env m →
    HOk base s.heap H → NV w.params env.kindOf (namesL ms) ρ m s.heap H → evEs cf ρ ms = some ds →
    wpAny (model prog w) A (spliced (es.map fun e => (false, eval e env))) (fun vs s' => Keeps s s' ∧ RepAll w.params s'.heap H vs ds) E s
noncomputable def ST (prog : Program) (w : World) (A : Around) (base : Heap) (cf : CF) (me : ME) : Prop :=
  ∀ (s : Shared) (env : Env) (e : Expr) (H : Addr → Prop) (ρ : List (String × D)) (m : Str → Option Value) (d : D) (t : Bool) (E : Value → Shared → Prop), chkE env.kindOf e me = true → EnvRep s.heap env m →
    HOk base s.heap H → NV w.params env.kindOf me.names ρ m s.heap H → evE cf ρ me = some d → truth d = some t →
    wpAny (model prog w) A (isTrue e env (eval e env)) (fun b s' => Keeps s s' ∧ b = t) E s
noncomputable def SB (prog : Program) (w : World) (A : Around) (base : Heap) (cf : CF) (ms : List ME) : Prop :=
  ∀ (s : Shared) (env : Env) (es : List Expr) (op : BoolOp) (pos : Pos) (H : Addr → Prop) (ρ : List (String × D)) (m : Str → Option Value) (d : D) (E : Value → Shared → Prop), chkEs env.kindOf es ms = true → EnvRep s.heap env m →
    HOk base s.heap H → NV w.params env.kindOf (namesL ms) ρ m s.heap H → evBop cf ρ op ms = some d →
    wpAny (model prog w) A (eval (.BoolOp op es pos) env) (Post w s H d) E s ∧ ∀ t whole, truth d = some t → wpAny (model prog w) A (isTrue (.BoolOp op es pos) env whole) (fun b s' => Keeps s s' ∧ b = t) E s
noncomputable def SC (prog : Program) (w : World) (A : Around) (base : Heap) (cf : CF) (ms : List ME) : Prop :=
  ∀ (s : Shared) (env : Env) (es : List Expr) (H : Addr → Prop) (ρ : List (String × D)) (m : Str → Option Value) (t : Bool) (E : Value → Shared → Prop), chkEs env.kindOf es ms = true → EnvRep s.heap env m →
    HOk base s.heap H → NV w.params env.kindOf (namesL ms) ρ m s.heap H → evCs cf ρ ms = some t →
    wpAny (model prog w) A (forIn es true fun c r => if r = true then do let ok ← isTrue c env (eval c env); pure (ForInStep.yield ok) else pure (ForInStep.yield r)) (fun b s' => Keeps s s' ∧ b = t) E s

/-! leaves -/
theorem se_var (x : String) : SE prog w A base cf (.var x) := by
  intro s env e H ρ m d E hc R hb hn he
  replace hc := inv_var hc; obtain ⟨_, _, rfl, hc⟩ := hc
  · simp only [Bool.and_eq_true, beq_iff_eq] at hc
    obtain ⟨rfl, hv⟩ := hc
    simp only [evE] at he
    obtain ⟨v, h1, h2⟩ := hn x (by simp [ME.names]) hv d he
    exact load_snd R hv h1 ⟨Kp.refl _, h2⟩
theorem se_glob (G : GOk mg mb base) (C : CSound prog w base mg cf A) (x : String) : SE prog w A base cf (.glob x) := by
  intro s env e H ρ m d E hc R hb hn he
  replace hc := inv_glob hc; obtain ⟨_, _, rfl, hc⟩ := hc
  · simp only [Bool.and_eq_true, beq_iff_eq, isGlob, bne_iff_ne] at hc
    obtain ⟨rfl, hv, hd⟩ := hc
    simp only [evE] at he
    obtain ⟨v, h1, h2⟩ := C.glob x d he
    refine Calls.Name_function_global R.kind hv (Calls.loadGlobal_global (mg := mg) (by rw [R.glob]; exact G.g.keeps hb.keep) h1 ⟨Kp.refl _, ?_⟩) (by simpa using hd)
    exact h2.mono (fun a o _ e => hb.keep a o e) fun a o e q => absurd q (hb.off a o e)
theorem se_int (i : Int) : SE prog w A base cf (.int i) := by
  intro s env e H ρ m d E hc R hb hn he
  replace hc := inv_int hc; obtain ⟨_, _, rfl⟩ := hc
  · simp only [evE] at he; cases he
    exact wpAny_Constant_int ⟨Kp.tok _ _, .int _ _⟩
theorem se_str (x : String) : SE prog w A base cf (.str x) := by
  intro s env e H ρ m d E hc R hb hn he
  replace hc := inv_str hc; obtain ⟨_, _, rfl⟩ := hc
  · simp only [evE] at he; cases he
    exact Calls.Constant_str ⟨Kp.tok _ _, .str _ _⟩
theorem se_bool (b : Bool) : SE prog w A base cf (.bool b) := by
  intro s env e H ρ m d E hc R hb hn he
  replace hc := inv_bool hc; obtain ⟨_, _, rfl⟩ := hc
  · simp only [evE] at he; cases he
    exact PyProof.Rows.Constant_bool ⟨Kp.refl _, .bool _⟩
theorem se_none : SE prog w A base cf .none := by
  intro s env e H ρ m d E hc R hb hn he
  replace hc := inv_none hc; obtain ⟨_, _, rfl⟩ := hc
  · simp only [evE] at he; cases he
    exact PyProof.Rows.Constant_none ⟨Kp.refl _, .none⟩

theorem spliced_ok {es : List Expr} {ms : List ME} {k : KD} (hc : chkEs k es ms = true) (env : Env) : starEach es env = es.map fun e => (false, eval e env) := by
  induction ms generalizing es with
  | nil => cases es with
    | nil => rfl
    | cons _ _ => simp [chkEs] at hc
  | cons a r ih => cases es with
    | nil => simp [chkEs] at hc
    | cons e es' =>
      simp only [chkEs, Bool.and_eq_true] at hc
      have he : ∀ x p, e ≠ .Starred x p := by
        rintro x p rfl
        have := chk_shape hc.1
        cases a <;> cases this
      have : starEach (e :: es') env = (false, eval e env) :: starEach es' env := by
        cases e <;> first | rfl | exact absurd rfl (he _ _)
      rw [this, ih hc.2]; rfl
theorem backTo_ok (pos : Pos) (es : List Expr) (env : Env) : backTo pos (es.map fun e => (false, eval e env)) = es.map fun e => (false, eval e env) := by
  unfold backTo
  rw [List.map_map]
  rfl

/-! nodes -/
theorem se_bin {op : Operator} {a b : ME} (ha : SE prog w A base cf a) (hb : SE prog w A base cf b) : SE prog w A base cf (.bin op a b) := by
  intro s env e H ρ m d E hc R hw hn he
  replace hc := inv_bin hc; obtain ⟨_, _, _, _, rfl, hc⟩ := hc
  · simp only [Bool.and_eq_true, beq_iff_eq] at hc
    obtain ⟨⟨rfl, h1⟩, h2⟩ := hc
    simp only [evE] at he
    split at he
    · rename_i x hx
      split at he
      · rename_i y hy
        refine wpAny_BinOp (wpAny_mono (ha s env _ H ρ m x E h1 R hw (hn.sub fun _ hx => List.mem_append_left _ hx) hx) (fun v s₁ q₁ => ?_) fun _ _ e => e)
        refine wpAny_mono (hb s₁ env _ H ρ m y E h2 (R.keeps (Kp.heap q₁.1)) (hw.keeps (Kp.heap q₁.1)) ((hn.keeps (Kp.heap q₁.1)).sub fun _ hx => List.mem_append_right _ hx) hy) (fun v₂ s₂ q₂ => ?_) fun _ _ e => e
        refine wpAny_mono (bin_snd (q₁.2.keeps (Kp.heap q₂.1)) q₂.2 ((hw.keeps (Kp.heap q₁.1)).keeps (Kp.heap q₂.1)).ex he) (fun v₃ s₃ q₃ => ⟨Kp.trans (Kp.trans q₁.1 q₂.1) q₃.1, q₃.2⟩) fun _ _ e => e
      · cases he
    · cases he

theorem se_cmp {op : CmpOp} {a b : ME} (hu : A.units < cLine) (ha : SE prog w A base cf a) (hb : SE prog w A base cf b) : SE prog w A base cf (.cmp op a b) := by
  intro s env e H ρ m d E hc R hw hn he
  replace hc := inv_cmp hc; obtain ⟨_, _, _, rfl, hc⟩ := hc
  · simp only [Bool.and_eq_true, beq_iff_eq] at hc
    obtain ⟨⟨hs, h1⟩, h2⟩ := hc
    simp only [evE] at he
    split at he
    · rename_i x hx
      split at he
      · rename_i y hy
        refine wpAny_Compare1 (wpAny_mono (ha s env _ H ρ m x E h1 R hw (hn.sub fun _ hx => List.mem_append_left _ hx) hx) (fun v s₁ q₁ => ?_) fun _ _ e => e) (notSet_marks hs)
        refine wpAny_mono (hb s₁ env _ H ρ m y E h2 (R.keeps (Kp.heap q₁.1)) (hw.keeps (Kp.heap q₁.1)) ((hn.keeps (Kp.heap q₁.1)).sub fun _ hx => List.mem_append_right _ hx) hy) (fun v₂ s₂ q₂ => ?_) fun _ _ e => e
        refine wpAny_mono (cmp_snd (q₁.2.keeps (Kp.heap q₂.1)) q₂.2 hu he) (fun v₃ s₃ q₃ => ⟨Kp.trans (Kp.trans q₁.1 q₂.1) q₃.1, q₃.2⟩) fun _ _ e => e
      · cases he
    · cases he
theorem st_cmp {op : CmpOp} {a b : ME} (hu : A.units < cLine) (ha : SE prog w A base cf a) (hb : SE prog w A base cf b) : ST prog w A base cf (.cmp op a b) := by
  intro s env e H ρ m d t E hc R hw hn he ht
  replace hc := inv_cmp hc; obtain ⟨_, _, _, rfl, hc⟩ := hc
  · simp only [Bool.and_eq_true, beq_iff_eq] at hc
    obtain ⟨⟨hs, h1⟩, h2⟩ := hc
    simp only [evE] at he
    split at he
    · rename_i x hx
      split at he
      · rename_i y hy
        refine wpAny_isTrue_Compare1 (wpAny_mono (ha s env _ H ρ m x E h1 R hw (hn.sub fun _ hx => List.mem_append_left _ hx) hx) (fun v s₁ q₁ => ?_) fun _ _ e => e) (notSet_marks hs)
        refine wpAny_mono (hb s₁ env _ H ρ m y E h2 (R.keeps (Kp.heap q₁.1)) (hw.keeps (Kp.heap q₁.1)) ((hn.keeps (Kp.heap q₁.1)).sub fun _ hx => List.mem_append_right _ hx) hy) (fun v₂ s₂ q₂ => ?_) fun _ _ e => e
        refine wpAny_mono (cmp_snd (q₁.2.keeps (Kp.heap q₂.1)) q₂.2 hu he) (fun v₃ s₃ q₃ => ?_) fun _ _ e => e
        exact wpAny_mono (truth_snd q₃.2 ht) (fun b s₄ q₄ => ⟨Kp.trans (Kp.trans (Kp.trans q₁.1 q₂.1) q₃.1) q₄.1, q₄.2⟩) fun _ _ e => e
      · cases he
    · cases he
theorem se_not {a : ME} (ha : SE prog w A base cf a) : SE prog w A base cf (.not a) := by
  intro s env e H ρ m d E hc R hw hn he
  replace hc := inv_not hc; obtain ⟨_, _, rfl, hc⟩ := hc
  · simp only [evE] at he
    split at he
    · rename_i x hx
      simp only [Option.map_eq_some_iff] at he
      obtain ⟨t, ht, rfl⟩ := he
      refine PyProof.Rows.UnaryOp_ (wpAny_mono (ha s env _ H ρ m x E hc R hw hn hx) (fun v s₁ q₁ => ?_) fun _ _ e => e)
      exact PyProof.Rows.not_of (wpAny_mono (truth_snd q₁.2 ht) (fun b s₂ q₂ => ⟨Kp.trans q₁.1 q₂.1, q₂.2 ▸ .bool _⟩) fun _ _ e => e)
    · cases he
theorem st_not {a : ME} (ha : ST prog w A base cf a) : ST prog w A base cf (.not a) := by
  intro s env e H ρ m d t E hc R hw hn he ht
  replace hc := inv_not hc; obtain ⟨_, _, rfl, hc⟩ := hc
  · simp only [evE] at he
    split at he
    · rename_i x hx
      simp only [Option.map_eq_some_iff] at he
      obtain ⟨t', ht', rfl⟩ := he
      cases ht
      exact PyProof.Rows.isTrue_not (wpAny_mono (ha s env _ H ρ m x t' E hc R hw hn hx ht') (fun b s₂ q₂ => ⟨q₂.1, by rw [q₂.2]⟩) fun _ _ e => e)
    · cases he
theorem se_neg {a : ME} (ha : SE prog w A base cf a) : SE prog w A base cf (.neg a) := by
  intro s env e H ρ m d E hc R hw hn he
  replace hc := inv_neg hc; obtain ⟨_, _, rfl, hc⟩ := hc
  · simp only [evE] at he
    split at he
    · rename_i i hx
      cases he
      refine PyProof.Rows.UnaryOp_ (wpAny_mono (ha s env _ H ρ m _ E hc R hw hn hx) (fun v s₁ q₁ => ?_) fun _ _ e => e)
      obtain ⟨k, r⟩ := q₁
      cases r
      exact PyProof.Rows.neg_int ⟨Kp.trans k (Kp.tok _ _), .int _ _⟩
    · cases he
theorem ses_nil : SEs prog w A base cf [] := by
  intro s env es H ρ m ds E hc R hw hn he
  cases es with
  | nil => simp only [evEs] at he; cases he; exact Calls.spliced_nil ⟨Kp.refl _, .nil⟩
  | cons _ _ => simp [chkEs] at hc
theorem ses_cons {a : ME} {r : List ME} (ha : SE prog w A base cf a) (hr : SEs prog w A base cf r) : SEs prog w A base cf (a :: r) := by
  intro s env es H ρ m ds E hc R hw hn he
  cases es with
  | nil => simp [chkEs] at hc
  | cons e es' =>
    simp only [chkEs, Bool.and_eq_true] at hc
    simp only [evEs] at he
    split at he
    · rename_i x hx
      split at he
      · rename_i xs hxs
        cases he
        refine Calls.spliced_cons (wpAny_mono (ha s env _ H ρ m x E hc.1 R hw (hn.sub fun _ hx => List.mem_append_left _ hx) hx) (fun v s₁ q₁ => ?_) fun _ _ e => e)
        refine wpAny_mono (hr s₁ env _ H ρ m xs E hc.2 (R.keeps (Kp.heap q₁.1)) (hw.keeps (Kp.heap q₁.1)) ((hn.keeps (Kp.heap q₁.1)).sub fun _ hx => List.mem_append_right _ hx) hxs) (fun vs s₂ q₂ => ?_) fun _ _ e => e
        exact ⟨Kp.trans q₁.1 q₂.1, .cons (q₁.2.keeps (Kp.heap q₂.1)) q₂.2⟩
      · cases he
    · cases he
theorem se_tup {ms : List ME} (hr : SEs prog w A base cf ms) : SE prog w A base cf (.tup ms) := by
  intro s env e H ρ m d E hc R hw hn he
  replace hc := inv_tup hc; obtain ⟨_, _, _, rfl, hc⟩ := hc
  · simp only [evE] at he
    split at he
    · rename_i ds hds
      split at he
      · rename_i hl; cases he
        refine PyProof.Rows.Tuple_ ?_
        rw [spliced_ok hc, backTo_ok]
        refine wpAny_mono (hr s env _ H ρ m ds E hc R hw hn hds) (fun vs s₁ q₁ => ?_) fun _ _ e => e
        have e := q₁.2.length
        refine wpAny_newObj_type ⟨Kp.trans q₁.1 (Kp.push _ _), ?_⟩ (by show vs.toArray.size ≤ sizeLine; rw [List.size_toArray, e]; exact hl)
        exact rep_newTup (hw.keeps (Kp.heap q₁.1)).ex hl (by simpa using q₁.2)
      · cases he
    · cases he
/-- a new list -/
noncomputable def SF (prog : Program) (w : World) (A : Around) (base : Heap) (cf : CF) (me : ME) : Prop :=
  ∀ (s : Shared) (env : Env) (e : Expr) (H : Addr → Prop) (ρ : List (String × D)) (m : Str → Option Value) (d : D) (fr : Bool) (E : Value → Shared → Prop), chkE env.kindOf e me = true → EnvRep s.heap env m →
    HOk base s.heap H → NV w.params env.kindOf me.names ρ m s.heap H → evF cf ρ me = some (d, fr) → wpAny (model prog w) A (eval e env) (PostF w s H d fr) E s
theorem sf_lst {ms : List ME} (hr : SEs prog w A base cf ms) : SF prog w A base cf (.lst ms) := by
  intro s env e H ρ m d fr E hc R hw hn he
  replace hc := inv_lst hc; obtain ⟨_, _, rfl, hc⟩ := hc
  · simp only [evF, evE, Option.map_eq_some_iff] at he
    obtain ⟨d', he, e'⟩ := he
    cases e'
    split at he
    · rename_i ds hds
      split at he
      · rename_i hl; cases he
        refine PyProof.Rows.List_ ?_
        rw [spliced_ok hc, backTo_ok]
        refine wpAny_mono (hr s env _ H ρ m ds E hc R hw hn hds) (fun vs s₁ q₁ => ?_) fun _ _ e => e
        have e := q₁.2.length
        have hx := (hw.keeps (Kp.heap q₁.1)).ex
        have own : OwnL w.params (s₁.heap.push (lstO vs.toArray 0)) H s₁.heap.objs.size ds := by
          refine ⟨vs.toArray, 0, Heap.get?_push_size _ rfl, hl, ?_⟩
          have r : RepAll w.params s₁.heap H vs.toArray.toList ds := by simpa using q₁.2
          exact r.mono (fun _ _ _ e => Heap.get?_push_of_some _ e) fun a o e q => q.elim id fun q => absurd (Heap.lt_size e) (q ▸ Nat.lt_irrefl _)
        refine wpAny_newObj_type ⟨Kp.trans q₁.1 (Kp.push _ _), own.rep hx.fresh, fun _ => ⟨_, _, rfl, rfl, ?_, own⟩⟩ (by show vs.toArray.size ≤ sizeLine; rw [List.size_toArray, e]; exact hl)
        cases q : s.heap.get? s₁.heap.objs.size with
        | none => rfl
        | some o => exact absurd (Heap.lt_size (Kp.heap q₁.1 _ _ q)) (Nat.lt_irrefl _)
      · cases he
    · cases he
end
end Mine

namespace Mine
open PySem PySem.SeqAt

section
variable {prog : Program} {w : World} {A : Around} {s : Shared} {base : Heap} {mg mb : Str → Option Value} {cf : CF}

theorem se_of_sf {me : ME} (h : SF prog w A base cf me) (hf : ∀ ρ d, evE cf ρ me = some d → ∃ fr, evF cf ρ me = some (d, fr)) : SE prog w A base cf me := by
  intro s env e H ρ m d E hc R hw hn he
  obtain ⟨fr, hfr⟩ := hf ρ d he
  exact wpAny_mono (h s env e H ρ m d fr E hc R hw hn hfr) (fun _ _ q => ⟨q.1, q.2.1⟩) fun _ _ e => e

theorem subscripted_plain {sl : Expr} {o i : Value} (h : ∀ a b c d, sl ≠ .Slice a b c d) : subscripted sl false o i = operate [o, i] (getItem o i) := by
  cases sl <;> first | rfl | exact absurd rfl (h _ _ _ _)

theorem se_sub {a b : ME} (ha : SE prog w A base cf a) (hb : SE prog w A base cf b) : SE prog w A base cf (.sub a b) := by
  intro s env e H ρ m d E hc R hw hn he
  replace hc := inv_sub hc; obtain ⟨v, sl, pos, rfl, hns, hc⟩ := hc
  · skip
    simp only [Bool.and_eq_true] at hc
    simp only [evE] at he
    split at he
    · rename_i x hx
      split at he
      · rename_i y hy
        refine PyProof.Rows.Subscript_ (wpAny_mono (ha s env _ H ρ m x E hc.1 R hw (hn.sub fun _ hx => List.mem_append_left _ hx) hx) (fun v s₁ q₁ => ?_) fun _ _ e => e)
        refine wpAny_mono (hb s₁ env _ H ρ m y E hc.2 (R.keeps (Kp.heap q₁.1)) (hw.keeps (Kp.heap q₁.1)) ((hn.keeps (Kp.heap q₁.1)).sub fun _ hx => List.mem_append_right _ hx) hy) (fun v₂ s₂ q₂ => ?_) fun _ _ e => e
        obtain ⟨g, T, id, hT, hl⟩ := getItem_snd (prog := prog) (w := w) (A := A) (E := E) (q₁.2.keeps (Kp.heap q₂.1)) q₂.2 he
        refine PyProof.Rows.tail_any hT hl (wpAny_mono g (fun v₃ s₃ q₃ => ⟨Kp.trans (Kp.trans q₁.1 q₂.1) q₃.1, q₃.2⟩) fun _ _ e => e) (subscripted_plain fun a b c d q => ?_)
        exact hns a b c d q
      · cases he
    · cases he

/-- a bound of a slice -/
theorem part_snd {a : ME} (ha : SE prog w A base cf a) {s : Shared} {env : Env} {l : Option Expr} {H : Addr → Prop} {ρ : List (String × D)} {m : Str → Option Value} {d : D} {E : Value → Shared → Prop}
    (hc : (match l with | Option.none => a.isNone | some x => chkE env.kindOf x a) = true) (R : EnvRep s.heap env m) (hw : HOk base s.heap H) (hn : NV w.params env.kindOf a.names ρ m s.heap H) (he : evE cf ρ a = some d) :
    wpAny (model prog w) A (evalPart l env) (Post w s H d) E s := by
  cases l with
  | none =>
    have : a = .none := by cases a <;> first | rfl | (cases hc)
    subst this
    simp only [evE] at he; cases he
    rw [evalPart_none]
    exact wpAny_pure ⟨Kp.refl _, .none⟩
  | some x => exact ha s env x H ρ m d E hc R hw hn he

theorem take_clip {α : Type} (l : List α) (a b : Nat) : (l.drop (min a l.length)).take (min b l.length - min a l.length) = (l.take b).drop a := by
  rw [List.drop_take]
  apply List.ext_getElem?
  intro i
  simp only [List.getElem?_take, List.getElem?_drop]
  by_cases ha : a ≤ l.length
  · have : min a l.length = a := by omega
    rw [this]
    by_cases hb : b ≤ l.length
    · have : min b l.length = b := by omega
      rw [this]
    · have : min b l.length = l.length := by omega
      rw [this]
      split <;> split <;> first | rfl | omega | (rw [List.getElem?_eq_none (by omega)])
  · have h1 : min a l.length = l.length := by omega
    rw [h1]
    have h2 : ∀ j, l[a + j]? = none := fun j => List.getElem?_eq_none (by omega)
    have h3 : ∀ j, l[l.length + j]? = none := fun j => List.getElem?_eq_none (by omega)
    rw [h2, h3]; simp

theorem slicePick_nat (items : Array Value) {ds : List D} {P : Params} {h : Heap} {H : Addr → Prop} {lo hi : D} {va vb : Value} {a b : Nat} (r : RepAll P h H items.toList ds) (ra : Rep P h H va lo) (rb : Rep P h H vb hi) (ha : bnd lo 0 = some a) (hb : bnd hi ds.length = some b) :
    ∃ ka kb, IsPart va ka ∧ IsPart vb kb ∧ RepAll P h H (slicePick items ka kb none).toList ((ds.take b).drop a) := by
  have e := r.length
  simp only [Array.length_toList] at e
  have key : ∀ (ka kb : Option Int) (a b : Nat), (ka.elim 0 (clipAt items.size)) = min a items.size → (kb.elim items.size (clipAt items.size)) = min b items.size →
      RepAll P h H (slicePick items ka kb none).toList ((ds.take b).drop a) := by
    intro ka kb a b h1 h2
    rw [slicePick_plain]
    rw [h1, h2]
    have := take_clip items.toList a b
    simp only [Array.length_toList] at this
    simp only [this]
    exact (r.take b).drop a
  have bounds : ∀ {v : Value} {x : D} {n : Nat} (dflt : Nat), Rep P h H v x → bnd x dflt = some n → ∃ k, IsPart v k ∧ ((k = none ∧ n = dflt) ∨ k = some (n : Int)) := by
    intro v x n dflt rv hv
    cases rv <;> simp only [bnd] at hv <;> (try cases hv)
    · exact ⟨none, .none, .inl ⟨rfl, rfl⟩⟩
    · split at hv
      · cases hv
        rename_i i t hi
        refine ⟨some i, .int _ _, .inr ?_⟩
        rw [Int.toNat_of_nonneg hi]
      · cases hv
  obtain ⟨ka, pa, ea⟩ := bounds 0 ra ha
  obtain ⟨kb, pb, eb⟩ := bounds ds.length rb hb
  refine ⟨ka, kb, pa, pb, key ka kb a b ?_ ?_⟩
  · rcases ea with ⟨rfl, rfl⟩ | rfl
    · simp
    · simpa using clipAt_nat items.size a
  · rcases eb with ⟨rfl, rfl⟩ | rfl
    · simp [e]
    · simpa using clipAt_nat items.size b

theorem se_sl {a lo hi : ME} (ha : SE prog w A base cf a) (hl : SE prog w A base cf lo) (hh : SE prog w A base cf hi) : SE prog w A base cf (.sl a lo hi) := by
  intro s env e H ρ m d E hc R hw hn he
  replace hc := inv_sl hc; obtain ⟨_, _, _, _, _, rfl, hc⟩ := hc
  · rename_i v l u p pos
    simp only [Bool.and_eq_true] at hc
    obtain ⟨⟨h1, h2⟩, h3⟩ := hc
    simp only [evE] at he
    split at he
    · rename_i x hx
      split at he
      · rename_i y hy
        split at he
        · rename_i z hz
          refine PyProof.Rows.Subscript_ (wpAny_mono (ha s env _ H ρ m x E h1 R hw (hn.sub fun _ hx => List.mem_append_left _ (List.mem_append_left _ hx)) hx) (fun v s₁ q₁ => ?_) fun _ _ e => e)
          refine wpAny_Slice ?_
          refine wpAny_mono (part_snd hl h2 (R.keeps (Kp.heap q₁.1)) (hw.keeps (Kp.heap q₁.1)) ((hn.keeps (Kp.heap q₁.1)).sub fun _ hx => List.mem_append_left _ (List.mem_append_right _ hx)) hy) (fun vl s₂ q₂ => ?_) fun _ _ e => e
          have k2 := Kp.trans q₁.1 q₂.1
          refine wpAny_mono (part_snd hh h3 (R.keeps (Kp.heap k2)) (hw.keeps (Kp.heap k2)) ((hn.keeps (Kp.heap k2)).sub fun _ hx => List.mem_append_right _ hx) hz) (fun vu s₃ q₃ => ?_) fun _ _ e => e
          rw [evalPart_none]
          refine wpAny_pure ?_
          have k3 := Kp.trans k2 q₃.1
          have kp := Kp.push s₃ { cls := .type "slice", data := .fields #[vl, vu, .none] }
          have rx := (q₁.2.keeps (Kp.heap (Kp.trans q₂.1 q₃.1))).keeps (Kp.heap kp)
          have rl := q₂.2.keeps (Kp.heap q₃.1)
          have ru := q₃.2
          have hex := ((hw.keeps (Kp.heap k3)).keeps (Kp.heap kp)).ex
          unfold slD at he
          split at he
          · cases hA : bnd y 0 with
            | none => rw [hA] at he; cases he
            | some a' =>
              cases hB : bnd z _ with
              | none => rw [hA, hB] at he; cases he
              | some b' =>
                rw [hA, hB] at he; cases he
                cases rx with
                | list ho hno hle hr =>
                  obtain ⟨ka, kb, p1, p2, r⟩ := slicePick_nat _ hr (rl.keeps (Kp.heap kp)) (ru.keeps (Kp.heap kp)) hA hB
                  have e := hr.length
                  simp only [Array.length_toList] at e
                  refine PyProof.Rows.tail_any (ops := [_, _]) (isList_of ho).typeIs F.slot_list_getitem.lookup ?_ rfl
                  refine wpAny_getItem_list_slice (isList_of ho) (Heap.IsSliceOf.new _ _ _ _) p1 p2 .none (by simp) ⟨Kp.trans (Kp.trans k3 kp) (Kp.push _ _), ?_⟩ (by rw [e]; exact hle)
                  refine rep_newList hex ?_ r
                  simp only [List.length_drop, List.length_take]; omega
          · rename_i x'
            split at he
            · rename_i hsz
              cases rx
              refine PyProof.Rows.tail_any (ops := [_, _]) (typeIs_str _ _ _) F.slot_str_getitem.lookup ?_ rfl
              have fin : ∀ {t' k x''} , Post w s H (.str x'') (.str x'' t') { s₃ with heap := s₃.heap.push { cls := .type "slice", data := .fields #[vl, vu, .none] }, toks := k } := fun {t' k x''} =>
                ⟨Kp.trans k3 ⟨_, k, rfl, fun _ _ e => Heap.get?_push_of_some _ e⟩, .str _ _⟩
              split at he
              · cases he; cases rl; cases ru
                exact wpAny_getItem_str_slice (l := none) (u := none) (st := none) ⟨_, Heap.get?_push_size _ rfl, rfl, rfl⟩ rfl (post_val_or_str ⟨Nat.le_trans (Txt.slice_le _ _ _) hsz, fun t' k => fin⟩)
              · cases he; cases rl; cases ru
                rename_i j tj
                exact wpAny_getItem_str_slice (l := none) (u := some (j, tj)) (st := none) ⟨_, Heap.get?_push_size _ rfl, rfl, rfl⟩ rfl (post_val_or_str ⟨Nat.le_trans (Txt.slice_le _ _ _) hsz, fun t' k => fin⟩)
              · cases he; cases rl; cases ru
                rename_i i ti
                exact wpAny_getItem_str_slice (l := some (i, ti)) (u := none) (st := none) ⟨_, Heap.get?_push_size _ rfl, rfl, rfl⟩ rfl (post_val_or_str ⟨Nat.le_trans (Txt.slice_le _ _ _) hsz, fun t' k => fin⟩)
              · cases he; cases rl; cases ru
                rename_i i j ti tj
                exact wpAny_getItem_str_slice (l := some (i, ti)) (u := some (j, tj)) (st := none) ⟨_, Heap.get?_push_size _ rfl, rfl, rfl⟩ rfl (post_val_or_str ⟨Nat.le_trans (Txt.slice_le _ _ _) hsz, fun t' k => fin⟩)
              · cases he
            · cases he
          · cases he
        · cases he
      · cases he
    · cases he
end
end Mine

namespace Mine
open PySem PySem.SeqAt

section
variable {prog : Program} {w : World} {A : Around} {s : Shared} {base : Heap} {mg mb : Str → Option Value} {cf : CF}

theorem evalArgs_snd {f : Value} {es : List Expr} {ms : List ME} {env : Env} {pos : Pos} {Q : Args → Shared → Prop} {E : Value → Shared → Prop} (hc : chkEs env.kindOf es ms = true)
    (h : wpAny (model prog w) A (spliced (es.map fun e => (false, eval e env))) (fun vs s' => Q ⟨vs, []⟩ s') E s) :
    wpAny (model prog w) A (evalArgs f true (backTo pos (starEach es env)) []) Q E s := by
  rw [spliced_ok hc, backTo_ok]
  cases es with
  | nil =>
    unfold evalArgs
    show wpAny _ A (spliced [] >>= _) Q E s
    refine wpAny_bind (wpAny_mono h (fun vs s' h' => ?_) fun _ _ x => x)
    refine wpAny_bind (wpAny_pure ?_)
    refine wpAny_holding ?_
    exact wpAny_bind (wpAny_pure (wpAny_bind (wpAny_pure (wpAny_pure h'))))
  | cons e es => exact Calls.evalArgs_plain h

theorem any_false (es : List Expr) (env : Env) : ((es.map fun e => (false, eval e env)).any (·.1)) = false := by
  induction es with
  | nil => rfl
  | cons _ _ ih => simpa using ih

theorem sf_call (G : GOk mg mb base) (C : CSound prog w base mg cf A) {f : String} {ms : List ME} (hr : SEs prog w A base cf ms) : SF prog w A base cf (.call f ms) := by
  intro s env e H ρ m d fr E hc R hw hn he
  replace hc := inv_call hc; obtain ⟨_, _, _, _, rfl, hc⟩ := hc
  · rename_i g gp as pos
    simp only [Bool.and_eq_true, beq_iff_eq, isGlob, bne_iff_ne] at hc
    obtain ⟨⟨rfl, hk, hd⟩, hc⟩ := hc
    simp only [evF] at he
    split at he
    · rename_i ds hds
      obtain ⟨a, o, fd, h1, h2, h3, h4⟩ := C.call f ds d fr he
      refine PyProof.Rows.Call_Name rfl (Calls.Name_function_global R.kind hk (Calls.loadGlobal_global (mg := mg) (by rw [R.glob]; exact G.g.keeps hw.keep) h1 ?_) (by simpa using hd))
      refine Calls.callWith_function (o := o) (fd := fd) (evalArgs_snd hc ?_)
      refine wpAny_mono (hr s env as H ρ m ds E hc R hw hn hds) (fun vs s₁ q₁ => ⟨⟨(hw.keeps (Kp.heap q₁.1)).keep _ _ h2, h3⟩, ?_⟩) fun _ _ e => e
      refine wpAny_mono (h4 s₁ H vs E (hw.keeps (Kp.heap q₁.1)) q₁.2) (fun v s₂ q₂ => ⟨Kp.trans q₁.1 q₂.1, q₂.2.1, fun hf => ?_⟩) fun _ _ e => e
      obtain ⟨a', ds', e1, e2, e3, e4⟩ := q₂.2.2 hf
      refine ⟨a', ds', e1, e2, ?_, e4⟩
      cases q : s.heap.get? a' with
      | none => rfl
      | some o' => rw [Kp.heap q₁.1 _ _ q] at e3; cases e3
    · cases he

theorem name_blt (G : GOk mg mb base) {env : Env} {m : Str → Option Value} {H : Addr → Prop} {f : String} {p : Pos} {E : Value → Shared → Prop} {Q : Value → Shared → Prop} (hf : f ∈ bltNames) (R : EnvRep s.heap env m) (hw : HOk base s.heap H)
    (hk : env.kindOf (Str.ofString f) = some .globalImplicit) (hd : Str.ofString f ≠ Str.ofString "__debug__") (h : Q (bltVal f) s) : wpAny (model prog w) A (eval (.Name (Str.ofString f) p) env) Q E s := by
  obtain ⟨h1, h2⟩ := G.blt f hf
  exact Calls.Name_function_global R.kind hk (Calls.loadGlobal_builtin (mg := mg) (mb := mb) (by rw [R.glob]; exact G.g.keeps hw.keep) h1 (by rw [R.blt]; exact G.b.keeps hw.keep) h2 h) (by simpa using hd)

theorem callWith_blt {f : String} {pos : Pos} {es : List Expr} {ms : List ME} {env : Env} {Q : Value → Shared → Prop} {E : Value → Shared → Prop} (hc : chkEs env.kindOf es ms = true)
    (h : wpAny (model prog w) A (spliced (es.map fun e => (false, eval e env))) (fun vs s' => wpAny (model prog w) A (call (bltVal f) vs) Q E s') E s) :
    wpAny (model prog w) A (callWith pos (bltVal f) [] (backTo pos (starEach es env)) []) Q E s := by
  have hp : (backTo pos (starEach es env)).any (·.1) = false := by rw [spliced_ok hc, backTo_ok]; exact any_false _ _
  have key : (∃ id, bltVal f = .builtin id) ∨ ∃ T, bltVal f = .type T := by
    unfold bltVal; split <;> first | exact .inl ⟨_, rfl⟩ | exact .inr ⟨_, rfl⟩
  rcases key with ⟨id, e⟩ | ⟨T, e⟩
  · rw [e] at h ⊢; exact Calls.callWith_builtin hp (evalArgs_snd hc h)
  · rw [e] at h ⊢; exact PyProof.Rows.callWith_type hp (evalArgs_snd hc h)

theorem se_blt (G : GOk mg mb base) {f : String} {ms : List ME} (hf : f ∈ bltNames) (hr : SEs prog w A base cf ms) : SE prog w A base cf (.blt f ms) := by
  intro s env e H ρ m d E hc R hw hn he
  replace hc := inv_blt hc; obtain ⟨_, _, _, _, rfl, hc⟩ := hc
  · rename_i g gp as pos
    simp only [Bool.and_eq_true, beq_iff_eq, isGlob, bne_iff_ne] at hc
    obtain ⟨⟨rfl, hk, hd⟩, hc⟩ := hc
    simp only [evE] at he
    split at he
    · rename_i ds hds
      refine PyProof.Rows.Call_Name rfl (name_blt G hf R hw hk hd (callWith_blt hc ?_))
      refine wpAny_mono (hr s env as H ρ m ds E hc R hw hn hds) (fun vs s₁ q₁ => ?_) fun _ _ e => e
      exact wpAny_mono (blt_snd q₁.2 (hw.keeps (Kp.heap q₁.1)).ex he) (fun v s₂ q₂ => ⟨Kp.trans q₁.1 q₂.1, q₂.2⟩) fun _ _ e => e
    · cases he

theorem se_isi (G : GOk mg mb base) {a : ME} {T : String} (ha : SE prog w A base cf a) : SE prog w A base cf (.isi a T) := by
  intro s env e H ρ m d E hc R hw hn he
  replace hc := inv_isi hc; obtain ⟨_, _, _, _, _, _, rfl, hc⟩ := hc
  · rename_i g gp x t tp pos
    simp only [Bool.and_eq_true, beq_iff_eq, isGlob, bne_iff_ne] at hc
    obtain ⟨⟨⟨⟨rfl, hk, hd⟩, rfl⟩, hk2, hd2⟩, hc⟩ := hc
    simp only [evE] at he
    split at he
    · rename_i dx hdx
      simp only [Option.map_eq_some_iff] at he
      obtain ⟨b, hb, rfl⟩ := he
      have hT : T ∈ bltNames ∧ bltVal T = .type T := by
        unfold isiD at hb
        split at hb
        · rename_i h
          rcases h with rfl | rfl | rfl | rfl | rfl <;> exact ⟨by decide, rfl⟩
        · cases hb
      have hs : starEach [x, .Name (Str.ofString T) tp] env = [(false, eval x env), (false, eval (.Name (Str.ofString T) tp) env)] := by
        have := spliced_ok (es := [x]) (ms := [a]) (k := env.kindOf) (by simp [chkEs, hc]) env
        have hx : ∀ y p, x ≠ .Starred y p := by
          rintro y p rfl
          simp [starEach] at this
        cases x <;> first | rfl | exact absurd rfl (hx _ _)
      refine PyProof.Rows.Call_Name (trees := [(false, eval x env), (false, eval (.Name (Str.ofString T) tp) env)]) (by rw [hs]; rfl) (name_blt G (f := "isinstance") (by decide) R hw hk hd ?_)
      refine Calls.callWith_builtin rfl (Calls.evalArgs_plain (Calls.spliced_cons ?_))
      refine wpAny_mono (ha s env x H ρ m dx E hc R hw hn hdx) (fun v s₁ q₁ => Calls.spliced_cons ?_) fun _ _ e => e
      refine name_blt G hT.1 (R.keeps (Kp.heap q₁.1)) (hw.keeps (Kp.heap q₁.1)) hk2 hd2 (Calls.spliced_nil ?_)
      rw [hT.2]
      exact wpAny_mono (isi_snd q₁.2 hb) (fun v s₂ q₂ => ⟨Kp.trans q₁.1 q₂.1, q₂.2⟩) fun _ _ e => e
    · cases he
end
end Mine

namespace Mine
open PySem PySem.SeqAt

section
variable {prog : Program} {w : World} {A : Around} {s : Shared} {base : Heap} {mg mb : Str → Option Value} {cf : CF}

theorem st_plain {me : ME} (h : SE prog w A base cf me) (hp : ∀ e k env whole, chkE k e me = true → isTrue e env whole = (do let v ← whole; standAt e.pos; holding [v] (truthy v))) : ST prog w A base cf me := by
  intro s env e H ρ m d t E hc R hw hn he ht
  refine PyProof.Rows.isTrue_plain (wpAny_mono (h s env e H ρ m d E hc R hw hn he) (fun v s₁ q₁ => ?_) fun _ _ e => e) (hp e _ env _ hc)
  exact wpAny_mono (truth_snd q₁.2 ht) (fun b s₂ q₂ => ⟨Kp.trans q₁.1 q₂.1, q₂.2⟩) fun _ _ e => e

theorem sb_nil : SB prog w A base cf [] := by
  intro s env es op pos H ρ m d E hc R hw hn he
  simp only [evBop] at he; cases he

theorem sb_one {a : ME} (ha : SE prog w A base cf a) (ta : ST prog w A base cf a) : SB prog w A base cf [a] := by
  intro s env es op pos H ρ m d E hc R hw hn he
  cases es with
  | nil => simp [chkEs] at hc
  | cons e es' =>
    simp only [chkEs, Bool.and_eq_true, List.isEmpty_iff] at hc
    obtain ⟨hc, rfl⟩ := hc
    simp only [evBop] at he
    have hn' := hn.sub (ns' := a.names) fun _ hx => List.mem_append_left _ hx
    refine ⟨PyProof.Rows.BoolOp_one (ha s env e H ρ m d E hc R hw hn' he), fun t whole ht => ?_⟩
    cases op with
    | And =>
      refine PyProof.Rows.isTrue_and (wpAny_mono (ta s env e H ρ m d t E hc R hw hn' he ht) (fun b s₁ q₁ => ?_) fun _ _ e => e)
      cases b with
      | true => exact PyProof.Rows.isTrue_and_nil ⟨q₁.1, q₁.2⟩
      | false => exact ⟨q₁.1, q₁.2⟩
    | Or =>
      refine PyProof.Rows.isTrue_or (wpAny_mono (ta s env e H ρ m d t E hc R hw hn' he ht) (fun b s₁ q₁ => ?_) fun _ _ e => e)
      cases b with
      | true => exact ⟨q₁.1, q₁.2⟩
      | false => exact PyProof.Rows.isTrue_or_nil ⟨q₁.1, q₁.2⟩

theorem sb_cons {a b : ME} {r : List ME} (ha : SE prog w A base cf a) (ta : ST prog w A base cf a) (hr : SB prog w A base cf (b :: r)) : SB prog w A base cf (a :: b :: r) := by
  intro s env es op pos H ρ m d E hc R hw hn he
  cases es with
  | nil => simp [chkEs] at hc
  | cons e es' => cases es' with
    | nil => simp [chkEs] at hc
    | cons e2 es' =>
      have hc' : chkE env.kindOf e a = true ∧ chkEs env.kindOf (e2 :: es') (b :: r) = true := by
        rw [chkEs] at hc; simpa using hc
      simp only [evBop] at he
      have hn1 := hn.sub (ns' := a.names) fun _ hx => List.mem_append_left _ hx
      have hn2 := hn.sub (ns' := namesL (b :: r)) fun _ hx => List.mem_append_right _ hx
      split at he
      · rename_i x hx
        split at he
        · rename_i t1 ht1
          have rest : ∀ s₁, Keeps s s₁ → evBop cf ρ op (b :: r) = some d → _ := fun s₁ (k : Keeps s s₁) (h : evBop cf ρ op (b :: r) = some d) =>
            hr s₁ env (e2 :: es') op pos H ρ m d E hc'.2 (R.keeps (Kp.heap k)) (hw.keeps (Kp.heap k)) (hn2.keeps (Kp.heap k)) h
          refine ⟨?_, fun t whole ht => ?_⟩
          · cases op with
            | And =>
              refine PyProof.Rows.BoolOp_and (wpAny_mono (ha s env e H ρ m x E hc'.1 R hw hn1 hx) (fun v s₁ q₁ => ?_) fun _ _ e => e)
              refine wpAny_mono (truth_snd q₁.2 ht1) (fun c s₂ q₂ => ?_) fun _ _ e => e
              obtain ⟨k2, rfl⟩ := q₂
              cases c with
              | true =>
                simp only [Bool.true_eq_false, if_false] at he
                exact wpAny_mono (rest s₂ (Kp.trans q₁.1 k2) he).1 (fun _ _ q => ⟨Kp.trans (Kp.trans q₁.1 k2) q.1, q.2⟩) fun _ _ e => e
              | false =>
                simp only [if_true] at he; cases he
                exact ⟨Kp.trans q₁.1 k2, q₁.2.keeps (Kp.heap k2)⟩
            | Or =>
              refine PyProof.Rows.BoolOp_or (wpAny_mono (ha s env e H ρ m x E hc'.1 R hw hn1 hx) (fun v s₁ q₁ => ?_) fun _ _ e => e)
              refine wpAny_mono (truth_snd q₁.2 ht1) (fun c s₂ q₂ => ?_) fun _ _ e => e
              obtain ⟨k2, rfl⟩ := q₂
              cases c with
              | false =>
                simp only [Bool.false_eq_true, if_false] at he
                exact wpAny_mono (rest s₂ (Kp.trans q₁.1 k2) he).1 (fun _ _ q => ⟨Kp.trans (Kp.trans q₁.1 k2) q.1, q.2⟩) fun _ _ e => e
              | true =>
                simp only [if_true] at he; cases he
                exact ⟨Kp.trans q₁.1 k2, q₁.2.keeps (Kp.heap k2)⟩
          · cases op with
            | And =>
              refine PyProof.Rows.isTrue_and (wpAny_mono (ta s env e H ρ m x t1 E hc'.1 R hw hn1 hx ht1) (fun c s₁ q₁ => ?_) fun _ _ e => e)
              obtain ⟨k1, rfl⟩ := q₁
              cases c with
              | true =>
                simp only [Bool.true_eq_false, if_false] at he
                exact wpAny_mono ((rest s₁ k1 he).2 t whole ht) (fun _ _ q => ⟨Kp.trans k1 q.1, q.2⟩) fun _ _ e => e
              | false =>
                simp only [if_true] at he; cases he
                rw [ht1] at ht; cases ht
                exact ⟨k1, rfl⟩
            | Or =>
              refine PyProof.Rows.isTrue_or (wpAny_mono (ta s env e H ρ m x t1 E hc'.1 R hw hn1 hx ht1) (fun c s₁ q₁ => ?_) fun _ _ e => e)
              obtain ⟨k1, rfl⟩ := q₁
              cases c with
              | false =>
                simp only [Bool.false_eq_true, if_false] at he
                exact wpAny_mono ((rest s₁ k1 he).2 t whole ht) (fun _ _ q => ⟨Kp.trans k1 q.1, q.2⟩) fun _ _ e => e
              | true =>
                simp only [if_true] at he; cases he
                rw [ht1] at ht; cases ht
                exact ⟨k1, rfl⟩
        · cases he
      · cases he

theorem se_bop {op : BoolOp} {ms : List ME} (h : SB prog w A base cf ms) : SE prog w A base cf (.bop op ms) := by
  intro s env e H ρ m d E hc R hw hn he
  replace hc := inv_bop hc; obtain ⟨_, _, _, rfl, hc⟩ := hc
  · simp only [Bool.and_eq_true, beq_iff_eq] at hc
    obtain ⟨rfl, hc⟩ := hc
    simp only [evE] at he
    exact (h s env _ op _ H ρ m d E hc R hw hn he).1
theorem st_bop {op : BoolOp} {ms : List ME} (h : SB prog w A base cf ms) : ST prog w A base cf (.bop op ms) := by
  intro s env e H ρ m d t E hc R hw hn he ht
  replace hc := inv_bop hc; obtain ⟨_, _, _, rfl, hc⟩ := hc
  · simp only [Bool.and_eq_true, beq_iff_eq] at hc
    obtain ⟨rfl, hc⟩ := hc
    simp only [evE] at he
    exact (h s env _ op _ H ρ m d E hc R hw hn he).2 t _ ht

theorem forIn_false {env : Env} {E : Value → Shared → Prop} {Q : Bool → Shared → Prop} : ∀ (es : List Expr), Q false s →
    wpAny (model prog w) A (forIn es false fun c r => if r = true then do let ok ← isTrue c env (eval c env); pure (ForInStep.yield ok) else pure (ForInStep.yield r)) Q E s
  | [], h => by rw [List.forIn_nil]; exact wpAny_pure h
  | c :: es, h => by
    rw [List.forIn_cons]
    simp only [Bool.false_eq_true, if_false, pure_bind]
    exact forIn_false es h

theorem sc_nil : SC prog w A base cf [] := by
  intro s env es H ρ m t E hc R hw hn he
  cases es with
  | nil => simp only [evCs] at he; cases he; rw [List.forIn_nil]; exact wpAny_pure ⟨Kp.refl _, rfl⟩
  | cons _ _ => simp [chkEs] at hc
theorem sc_cons {a : ME} {r : List ME} (ta : ST prog w A base cf a) (hr : SC prog w A base cf r) : SC prog w A base cf (a :: r) := by
  intro s env es H ρ m t E hc R hw hn he
  cases es with
  | nil => simp [chkEs] at hc
  | cons e es' =>
    simp only [chkEs, Bool.and_eq_true] at hc
    simp only [evCs] at he
    split at he
    · rename_i x hx
      split at he
      · rename_i t1 ht1
        rw [List.forIn_cons]
        simp only [if_true, bind_assoc, pure_bind]
        refine wpAny_bind (wpAny_mono (ta s env e H ρ m x t1 E hc.1 R hw (hn.sub fun _ hx => List.mem_append_left _ hx) hx ht1) (fun b s₁ q₁ => ?_) fun _ _ e => e)
        obtain ⟨k1, rfl⟩ := q₁
        cases b with
        | true =>
          simp only [if_true] at he
          exact wpAny_mono (hr s₁ env es' H ρ m t E hc.2 (R.keeps (Kp.heap k1)) (hw.keeps (Kp.heap k1)) ((hn.sub fun _ hx => List.mem_append_right _ hx).keeps (Kp.heap k1)) he) (fun _ _ q => ⟨Kp.trans k1 q.1, q.2⟩) fun _ _ e => e
        | false =>
          simp only [Bool.false_eq_true, if_false] at he; cases he
          exact forIn_false es' ⟨k1, rfl⟩
      · cases he
    · cases he

/-- a comprehension's element, in its own block -/
theorem comp_inner {env cenv : Env} {m mC : Str → Option Value} {scope : Scope} {x : String} {ns : List String} {ρ : List (String × D)} {s₂ : Shared} {H H₂ : Addr → Prop} {v : Value} {dv : D} (hok : okScope env.kindOf scope (Str.ofString x) = true)
    (hk : cenv.kindOf = kindC env.kindOf scope) (hv : mC (Str.ofString x) = some v) (rv : Rep w.params s₂.heap H₂ v dv) (hfv : ∀ z, scope.names.lookup z = some .free → mC z = m z) (kp : Keeps s s₂) (hsub : ∀ a o, s.heap.get? a = some o → H₂ a → H a)
    (hn : NV w.params env.kindOf (ns.filter (· != x)) ρ m s.heap H) : NV w.params cenv.kindOf ns ((x, dv) :: ρ) mC s₂.heap H₂ := by
  intro z hz hvar d hd
  rw [List.lookup_cons] at hd
  by_cases hzx : z = x
  · subst hzx
    simp only [beq_self_eq_true] at hd
    cases hd
    exact ⟨v, hv, rv⟩
  · have hb : (z == x) = false := by simpa using hzx
    rw [hb] at hd
    unfold okScope at hok
    simp only [Bool.and_eq_true, decide_eq_true_eq, beq_iff_eq, List.all_eq_true, Bool.or_eq_true] at hok
    obtain ⟨⟨⟨⟨_, hnodup⟩, _⟩, hfree⟩, hall⟩ := hok
    have hvar' := hvar
    unfold isVar at hvar
    simp only [Bool.and_eq_true, Bool.or_eq_true, beq_iff_eq, bne_iff_ne] at hvar
    obtain ⟨⟨⟨hkz, hd1⟩, hd2⟩, hd3⟩ := hvar
    rw [hk, kindC_eq] at hkz
    have hfr : scope.names.lookup (Str.ofString z) = some .free := by
      cases hq : scope.names.lookup (Str.ofString z) with
      | none => rw [hq] at hkz; simp at hkz
      | some k =>
        have := hall _ (mem_of_lookup hq)
        simp only at this
        rcases this with ((e | e) | e) | e
        · rw [e]
        · rw [hq, e] at hkz; simp at hkz
        · exact absurd (ofString_inj e) hzx
        · exact absurd e hd3
    have hok2 := hfree _ (mem_of_lookup hfr)
    simp only [bne_self_eq_false, Bool.false_eq_true, false_or] at hok2
    obtain ⟨v', h1, h2⟩ := hn z (by simp [hz, hzx]) (by
      unfold isVar
      simp only [Bool.and_eq_true, Bool.or_eq_true, beq_iff_eq, bne_iff_ne]
      exact ⟨⟨⟨hok2.elim (fun e => .inl (.inr e)) .inr, hd1⟩, hd2⟩, hd3⟩) d hd
    exact ⟨v', (hfv _ hfr).trans h1, h2.mono (fun a o _ e => Kp.heap kp a o e) hsub⟩

theorem comp_snd {elt src : ME} {x : String} {cs : List ME} (hh : A.handled = none) (he : SE prog w A base cf elt) (hs : SE prog w A base cf src) (hcs : SC prog w A base cf cs)
    {s : Shared} {env : Env} {H : Addr → Prop} {ρ : List (String × D)} {m : Str → Option Value} {d : D} {E : Value → Shared → Prop} {t it : Expr} {y : Str} {py pos ppos : Pos} {ifs : List Expr} {scope : Scope} {use : Option (Value → Sem Unit)} {Q : Value → Shared → Prop}
    (hc : chkE env.kindOf (.ListComp t [⟨.Name y py, it, ifs, 0⟩] scope pos) (.comp elt x src cs) = true) (R : EnvRep s.heap env m) (hw : HOk base s.heap H) (hn : NV w.params env.kindOf (ME.comp elt x src cs).names ρ m s.heap H)
    (hev : evE cf ρ (.comp elt x src cs) = some d)
    (hQ : ∀ L C h' tk m' out, d = .list out → (∀ b o, s.heap.get? b = some o → @LT.lt Nat _ b L) → s.heap.get? C = none → L ≠ C → h'.Ns C m' → OwnL w.params h' (fun b => H b ∨ b = C) L out → (∀ b o, s.heap.get? b = some o → h'.get? b = some o) →
      compPost (model prog w) A E use Q (.ref L) C (.ok .next) { s with heap := h', toks := tk }) :
    wpAny (model prog w) A (comprehension (.ListComp t [⟨.Name y py, it, ifs, 0⟩] scope pos) scope env ppos (newList []) false (eval it env) use) Q E s := by
  simp only [chkE, cLC, c1, cName, beq_self_eq_true, Bool.true_and, Bool.and_eq_true, beq_iff_eq] at hc
  obtain ⟨⟨⟨⟨⟨rfl, hset⟩, hok⟩, hcsrc⟩, hcelt⟩, hcifs⟩ := hc
  simp only [evE] at hev
  split at hev
  · rename_i dsrc hdsrc
    split at hev
    · rename_i its hits
      split at hev
      · rename_i hlen
        simp only [Option.map_eq_some_iff] at hev
        obtain ⟨out, hout, rfl⟩ := hev
        refine comp_core R hok hset hh hw.ex (hs s env it H ρ m dsrc E hcsrc R hw (hn.sub fun _ hx => List.mem_append_left _ hx) hdsrc) hits hlen hout ?_ (fun L C h' tk m' h1 h2 h3 h4 h5 h6 => hQ L C h' tk m' out rfl h1 h2 h3 h4 h5 h6)
        intro s₂ cenv mC H₂ v dv r hm hf hk RC hv rv hfv hx kp hsub E'
        have hn' := hn.sub (ns' := (elt.names ++ namesL cs).filter (· != x)) fun _ hx => List.mem_append_right _ hx
        have nv := comp_inner hok hk hv rv hfv kp hsub hn'
        have hw₂ : HOk base s₂.heap H₂ := ⟨fun b o e => Kp.heap kp b o (hw.keep b o e), hx, fun b o e q => hw.off b o e (hsub b o (hw.keep b o e) q)⟩
        split at hf
        · rename_i hb
          split at hf
          · rename_i y' hy'
            cases hf
            refine wpAny_mono (hcs s₂ cenv ifs H₂ _ mC true E' (by rw [hk]; exact hcifs) RC hw₂ (nv.sub fun _ hx => List.mem_append_right _ hx) hb) (fun ok s₃ q => ⟨q.1, q.2, fun dr e => ?_⟩) fun _ _ e => e
            cases e
            exact wpAny_mono (he s₃ cenv t H₂ _ mC y' E' (by rw [hk]; exact hcelt) (RC.keeps (Kp.heap q.1)) (hw₂.keeps (Kp.heap q.1)) ((nv.sub fun _ hx => List.mem_append_left _ hx).keeps (Kp.heap q.1)) hy') (fun _ _ q => q) fun _ _ e => e
          · cases hf
        · rename_i hb
          cases hf
          exact wpAny_mono (hcs s₂ cenv ifs H₂ _ mC false E' (by rw [hk]; exact hcifs) RC hw₂ (nv.sub fun _ hx => List.mem_append_right _ hx) hb) (fun ok s₃ q => ⟨q.1, q.2, fun dr e => by cases e⟩) fun _ _ e => e
        · cases hf
      · cases hev
    · cases hev
  · cases hev
end
end Mine

namespace Mine
open PySem PySem.SeqAt

noncomputable def plainE : Expr → Bool
  | .UnaryOp .Not _ _ | .BoolOp .. | .IfExp .. | .Compare .. => false
  | _ => true
theorem isTrue_plainE {e : Expr} {env : Env} {whole : Sem Value} (h : plainE e = true) : isTrue e env whole = (do let v ← whole; standAt e.pos; holding [v] (truthy v)) := by
  cases e with
  | UnaryOp op x p => cases op <;> first | rfl | cases h
  | BoolOp => cases h
  | IfExp => cases h
  | Compare => cases h
  | _ => rfl
noncomputable def ME.plain : ME → Bool
  | .not _ | .bop _ _ | .cmp _ _ _ => false
  | _ => true
theorem chk_plain {k : KD} {e : Expr} {me : ME} (hp : me.plain = true) (hc : chkE k e me = true) : plainE e = true := by
  by_cases h6 : shapeM me = 6
  · cases me <;> first | (cases hp; done) | (obtain ⟨_, _, rfl, _⟩ := inv_neg hc; rfl) | (cases h6; done)
  · have h := chk_shape hc
    have h4 : (shapeM me != 0 && shapeM me != 4 && shapeM me != 5) = true := by cases me <;> first | (cases hp; done) | rfl
    rw [← h] at h4 h6
    cases e <;> first | rfl | exact absurd rfl h6 | exact absurd h4 Bool.false_ne_true

section
variable {prog : Program} {w : World} {A : Around} {s : Shared} {base : Heap} {mg mb : Str → Option Value} {cf : CF}

theorem sf_plain {me : ME} (h : SE prog w A base cf me) (hf : ∀ ρ, evF cf ρ me = (evE cf ρ me).map fun d => (d, false)) : SF prog w A base cf me := by
  intro s env e H ρ m d fr E hc R hw hn he
  rw [hf, Option.map_eq_some_iff] at he
  obtain ⟨d', h1, h2⟩ := he
  cases h2
  exact wpAny_mono (h s env e H ρ m d E hc R hw hn h1) (fun _ _ q => ⟨q.1, q.2, fun e => by cases e⟩) fun _ _ e => e

theorem sf_comp {elt src : ME} {x : String} {cs : List ME} (hh : A.handled = none) (he : SE prog w A base cf elt) (hs : SE prog w A base cf src) (hcs : SC prog w A base cf cs) : SF prog w A base cf (.comp elt x src cs) := by
  intro s env e H ρ m d fr E hc R hw hn hev
  simp only [evF, Option.map_eq_some_iff] at hev
  obtain ⟨d', hev, e'⟩ := hev
  cases e'
  obtain ⟨_, _, _, _, _, _, _, rfl, _⟩ := inv_comp hc
  · rw [eval_ListComp]
    refine comp_snd (use := none) hh he hs hcs hc R hw hn hev fun L C h' tk m' out hd hL hC hLC hns hown hk => ⟨m', hns, fun h'' hs'' => ?_⟩
    have kk : ∀ b o, s.heap.get? b = some o → h''.get? b = some o := fun b o e => (hs''.2 b (fun q => by rw [q, hC] at e; cases e)).trans (hk b o e)
    have own : OwnL w.params h'' H L out := by
      obtain ⟨vs, n, q1, q2, q3⟩ := hown
      refine ⟨vs, n, (hs''.2 L hLC).trans q1, q2, q3.mono (fun a o hn e => (hs''.2 a fun q => hn (.inl (.inr q))).trans e) fun a o _ q => q.elim (fun q => .inl (.inl q)) .inr⟩
    have hLn : s.heap.get? L = none := by
      cases e : s.heap.get? L with
      | none => rfl
      | some o => exact absurd (hL _ _ e) (Nat.lt_irrefl _)
    refine ⟨⟨h'', tk, rfl, kk⟩, ?_, fun _ => ⟨L, out, rfl, hd, hLn, own⟩⟩
    rw [hd]
    refine own.rep fun q => ?_
    obtain ⟨b, o, hb, ho⟩ := hw.ex L q
    exact Nat.lt_irrefl _ (Nat.lt_of_le_of_lt hb (hL b o ho))

theorem evF_call (f : String) (ms : List ME) (ρ : List (String × D)) (d : D) (h : evE cf ρ (.call f ms) = some d) : ∃ fr, evF cf ρ (.call f ms) = some (d, fr) := by
  simp only [evE] at h
  simp only [evF]
  split at h
  · rename_i ds hds
    rw [Option.map_eq_some_iff] at h
    obtain ⟨⟨d', fr⟩, h1, h2⟩ := h
    cases h2
    exact ⟨fr, h1⟩
  · cases h

mutual
theorem all_E (G : GOk mg mb base) (C : CSound prog w base mg cf A) (hh : A.handled = none) (hu : A.units < cLine) (me : ME) : SE prog w A base cf me ∧ ST prog w A base cf me ∧ SF prog w A base cf me := by
  have fin : SE prog w A base cf me → me.plain = true → (∀ ρ, evF cf ρ me = (evE cf ρ me).map fun d => (d, false)) → SE prog w A base cf me ∧ ST prog w A base cf me ∧ SF prog w A base cf me := fun h1 h2 h3 =>
    ⟨h1, st_plain h1 (fun e k env whole hc => isTrue_plainE (chk_plain h2 hc)), sf_plain h1 h3⟩
  have finF : SF prog w A base cf me → me.plain = true → (∀ ρ d, evE cf ρ me = some d → ∃ fr, evF cf ρ me = some (d, fr)) → SE prog w A base cf me ∧ ST prog w A base cf me ∧ SF prog w A base cf me := fun h1 h2 h3 =>
    have h4 := se_of_sf h1 h3
    ⟨h4, st_plain h4 (fun e k env whole hc => isTrue_plainE (chk_plain h2 hc)), h1⟩
  match me with
  | .var x => exact fin (se_var x) rfl fun _ => rfl
  | .glob x => exact fin (se_glob G C x) rfl fun _ => rfl
  | .int i => exact fin (se_int i) rfl fun _ => rfl
  | .str x => exact fin (se_str x) rfl fun _ => rfl
  | .bool b => exact fin (se_bool b) rfl fun _ => rfl
  | .none => exact fin se_none rfl fun _ => rfl
  | .bin op a b => exact fin (se_bin (all_E G C hh hu a).1 (all_E G C hh hu b).1) rfl fun _ => rfl
  | .cmp op a b =>
    have ha := (all_E G C hh hu a).1
    have hb := (all_E G C hh hu b).1
    exact ⟨se_cmp hu ha hb, st_cmp hu ha hb, sf_plain (se_cmp hu ha hb) fun _ => rfl⟩
  | .bop op ms =>
    have h := (all_Es G C hh hu ms).2.1
    exact ⟨se_bop h, st_bop h, sf_plain (se_bop h) fun _ => rfl⟩
  | .not a =>
    have h := all_E G C hh hu a
    exact ⟨se_not h.1, st_not h.2.1, sf_plain (se_not h.1) fun _ => rfl⟩
  | .neg a => exact fin (se_neg (all_E G C hh hu a).1) rfl fun _ => rfl
  | .tup ms => exact fin (se_tup (all_Es G C hh hu ms).1) rfl fun _ => rfl
  | .lst ms => exact finF (sf_lst (all_Es G C hh hu ms).1) rfl fun ρ d h => ⟨true, by simp only [evF, h]; rfl⟩
  | .sub a b => exact fin (se_sub (all_E G C hh hu a).1 (all_E G C hh hu b).1) rfl fun _ => rfl
  | .sl a b c => exact fin (se_sl (all_E G C hh hu a).1 (all_E G C hh hu b).1 (all_E G C hh hu c).1) rfl fun _ => rfl
  | .comp elt x src cs => exact finF (sf_comp hh (all_E G C hh hu elt).1 (all_E G C hh hu src).1 (all_Es G C hh hu cs).2.2) rfl fun ρ d h => ⟨true, by simp only [evF, h]; rfl⟩
  | .call f ms => exact finF (sf_call G C (all_Es G C hh hu ms).1) rfl (evF_call f ms)
  | .isi a T => exact fin (se_isi G (all_E G C hh hu a).1) rfl fun _ => rfl
  | .blt f ms =>
    refine fin ?_ rfl fun _ => rfl
    by_cases hf : f ∈ bltNames
    · exact se_blt G hf (all_Es G C hh hu ms).1
    · intro s env e H ρ m d E hc R hw hn he
      exfalso
      simp only [evE] at he
      split at he
      · apply hf
        unfold bltD at he
        split at he <;> first | decide | cases he
      · cases he
termination_by structural me
theorem all_Es (G : GOk mg mb base) (C : CSound prog w base mg cf A) (hh : A.handled = none) (hu : A.units < cLine) (ms : List ME) : SEs prog w A base cf ms ∧ SB prog w A base cf ms ∧ SC prog w A base cf ms := by
  match ms with
  | [] => exact ⟨ses_nil, sb_nil, sc_nil⟩
  | a :: r =>
    have ha := all_E G C hh hu a
    have hr := all_Es G C hh hu r
    refine ⟨ses_cons ha.1 hr.1, ?_, sc_cons ha.2.1 hr.2.2⟩
    cases r with
    | nil => exact sb_one ha.1 ha.2.1
    | cons b r => exact sb_cons ha.1 ha.2.1 hr.2.1
termination_by structural ms
end
end
end Mine

namespace Mine
open PySem PySem.SeqAt

noncomputable def isStore (k : KD) (x : Str) : Bool := (k x == some .local || k x == some .cell) && isVar k x
noncomputable def notComp : Expr → Bool
  | .ListComp .. | .SetComp .. | .DictComp .. => false
  | _ => true

noncomputable def cAssign (e : Stmt) (f : List Expr → Expr → Pos → Bool) : Bool := match e with | .Assign ts v p => f ts v p | _ => false
theorem cAssign_inv {e : Stmt} {f : List Expr → Expr → Pos → Bool} (h : cAssign e f = true) : ∃ (ts : List Expr) (v : Expr) (p : Pos), e = .Assign ts v p ∧ f ts v p = true := by
  cases e <;> first | exact ⟨_, _, _, rfl, h⟩ | exact absurd h Bool.false_ne_true
noncomputable def cExpr (e : Stmt) (f : Expr → Pos → Bool) : Bool := match e with | .Expr v p => f v p | _ => false
theorem cExpr_inv {e : Stmt} {f : Expr → Pos → Bool} (h : cExpr e f = true) : ∃ (v : Expr) (p : Pos), e = .Expr v p ∧ f v p = true := by
  cases e <;> first | exact ⟨_, _, rfl, h⟩ | exact absurd h Bool.false_ne_true
noncomputable def cIf (e : Stmt) (f : Expr → List Stmt → List Stmt → Pos → Bool) : Bool := match e with | .If v b o p => f v b o p | _ => false
theorem cIf_inv {e : Stmt} {f : Expr → List Stmt → List Stmt → Pos → Bool} (h : cIf e f = true) : ∃ (v : Expr) (b : List Stmt) (o : List Stmt) (p : Pos), e = .If v b o p ∧ f v b o p = true := by
  cases e <;> first | exact ⟨_, _, _, _, rfl, h⟩ | exact absurd h Bool.false_ne_true
noncomputable def cFor (e : Stmt) (f : Expr → Expr → List Stmt → List Stmt → Pos → Bool) : Bool := match e with | .For t i b o p => f t i b o p | _ => false
theorem cFor_inv {e : Stmt} {f : Expr → Expr → List Stmt → List Stmt → Pos → Bool} (h : cFor e f = true) : ∃ (t : Expr) (i : Expr) (b : List Stmt) (o : List Stmt) (p : Pos), e = .For t i b o p ∧ f t i b o p = true := by
  cases e <;> first | exact ⟨_, _, _, _, _, rfl, h⟩ | exact absurd h Bool.false_ne_true
noncomputable def cWhile (e : Stmt) (f : Expr → List Stmt → List Stmt → Pos → Bool) : Bool := match e with | .While v b o p => f v b o p | _ => false
theorem cWhile_inv {e : Stmt} {f : Expr → List Stmt → List Stmt → Pos → Bool} (h : cWhile e f = true) : ∃ (v : Expr) (b : List Stmt) (o : List Stmt) (p : Pos), e = .While v b o p ∧ f v b o p = true := by
  cases e <;> first | exact ⟨_, _, _, _, rfl, h⟩ | exact absurd h Bool.false_ne_true
noncomputable def cRet (e : Stmt) (f : Option Expr → Pos → Bool) : Bool := match e with | .Return v p => f v p | _ => false
theorem cRet_inv {e : Stmt} {f : Option Expr → Pos → Bool} (h : cRet e f = true) : ∃ (v : Option Expr) (p : Pos), e = .Return v p ∧ f v p = true := by
  cases e <;> first | exact ⟨_, _, rfl, h⟩ | exact absurd h Bool.false_ne_true
noncomputable def cCont (e : Stmt) (f : Pos → Bool) : Bool := match e with | .Continue p => f p | _ => false
theorem cCont_inv {e : Stmt} {f : Pos → Bool} (h : cCont e f = true) : ∃ (p : Pos), e = .Continue p ∧ f p = true := by
  cases e <;> first | exact ⟨_, rfl, h⟩ | exact absurd h Bool.false_ne_true
mutual
noncomputable def chkS (k : KD) (st : Stmt) (ms : MS) : Bool := match ms with
  | .assign x e => cAssign st fun ts v _ => c1 ts fun t => cName t fun y _ => y == Str.ofString x && isStore k y && chkE k v e
  | .append x e => cExpr st fun v _ => cCall v fun g as ks p => ks.isEmpty && c1 as fun a => cAttr g fun n at_ ap => cName n fun y _ => y == Str.ofString x && isStore k y && at_ == Str.ofString "append" && ap.endLine == p.line && chkE k a e
  | .setk _ _ _ => false
  | .expr e => cExpr st fun v _ => notComp v && chkE k v e
  | .ite c t f => cIf st fun v b o _ => chkE k v c && chkSs k b t && chkSs k o f
  | .for_ x src body => cFor st fun t it b o _ => o.isEmpty && cName t fun y _ => y == Str.ofString x && isStore k y && notSet it && chkE k it src && chkSs k b body
  | .while_ c body => cWhile st fun v b o _ => o.isEmpty && chkE k v c && chkSs k b body
  | .ret e => cRet st fun v _ => cOpt v fun v => chkE k v e
  | .cont => cCont st fun _ => true
termination_by structural ms
noncomputable def chkSs (k : KD) (ss : List Stmt) (ms : List MS) : Bool := match ms with
  | [] => ss.isEmpty
  | a :: r => (match ss with | s :: ss' => chkS k s a && chkSs k ss' r | [] => false)
termination_by structural ms
end

section
variable {k : KD} {st : Stmt}
theorem inv_assign {x : String} {e : ME} (h : chkS k st (.assign x e) = true) : ∃ y p v pos, st = .Assign [.Name y p] v pos ∧ (y == Str.ofString x && isStore k y && chkE k v e) = true := by
  rw [chkS] at h; replace h := cAssign_inv h; obtain ⟨ts, v, p, rfl, h⟩ := h
  replace h := c1_inv h; obtain ⟨t, rfl, h⟩ := h
  replace h := cName_inv h; obtain ⟨y, py, rfl, h⟩ := h
  exact ⟨y, py, v, p, rfl, h⟩
theorem inv_append {x : String} {e : ME} (h : chkS k st (.append x e) = true) : ∃ y yp at_ ap a p pos, st = .Expr (.Call (.Attribute (.Name y yp) at_ ap) [a] [] p) pos ∧ (y == Str.ofString x && isStore k y && at_ == Str.ofString "append" && ap.endLine == p.line && chkE k a e) = true := by
  rw [chkS] at h; replace h := cExpr_inv h; obtain ⟨v, pos, rfl, h⟩ := h
  replace h := cCall_inv h; obtain ⟨g, as, ks, p, rfl, h⟩ := h
  rw [Bool.and_eq_true] at h
  obtain ⟨h1, h⟩ := h
  replace h := c1_inv h; obtain ⟨a, rfl, h⟩ := h
  replace h := cAttr_inv h; obtain ⟨n, at_, ap, rfl, h⟩ := h
  replace h := cName_inv h; obtain ⟨y, yp, rfl, h⟩ := h
  exact ⟨y, yp, at_, ap, a, p, pos, by rw [List.isEmpty_iff.mp h1], h⟩
theorem inv_expr {e : ME} (h : chkS k st (.expr e) = true) : ∃ v p, st = .Expr v p ∧ (notComp v && chkE k v e) = true := by
  rw [chkS] at h; exact cExpr_inv h
theorem inv_ite {c : ME} {t f : List MS} (h : chkS k st (.ite c t f) = true) : ∃ v b o p, st = .If v b o p ∧ (chkE k v c && chkSs k b t && chkSs k o f) = true := by
  rw [chkS] at h; exact cIf_inv h
theorem inv_for {x : String} {src : ME} {body : List MS} (h : chkS k st (.for_ x src body) = true) : ∃ y yp it b p, st = .For (.Name y yp) it b [] p ∧ (y == Str.ofString x && isStore k y && notSet it && chkE k it src && chkSs k b body) = true := by
  rw [chkS] at h; replace h := cFor_inv h; obtain ⟨t, it, b, o, p, rfl, h⟩ := h
  rw [Bool.and_eq_true] at h
  obtain ⟨h1, h⟩ := h
  replace h := cName_inv h; obtain ⟨y, yp, rfl, h⟩ := h
  exact ⟨y, yp, it, b, p, by rw [List.isEmpty_iff.mp h1], h⟩
theorem inv_while {c : ME} {body : List MS} (h : chkS k st (.while_ c body) = true) : ∃ v b p, st = .While v b [] p ∧ (chkE k v c && chkSs k b body) = true := by
  rw [chkS] at h; replace h := cWhile_inv h; obtain ⟨v, b, o, p, rfl, h⟩ := h
  rw [Bool.and_assoc, Bool.and_eq_true] at h
  exact ⟨v, b, p, by rw [List.isEmpty_iff.mp h.1], h.2⟩
theorem inv_ret {e : ME} (h : chkS k st (.ret e) = true) : ∃ v p, st = .Return (some v) p ∧ chkE k v e = true := by
  rw [chkS] at h; replace h := cRet_inv h; obtain ⟨v, p, rfl, h⟩ := h
  replace h := cOpt_inv h; obtain ⟨v, rfl, h⟩ := h
  exact ⟨v, p, rfl, h⟩
theorem inv_cont (h : chkS k st .cont = true) : ∃ p, st = .Continue p := by
  rw [chkS] at h; replace h := cCont_inv h; obtain ⟨p, rfl, h⟩ := h; exact ⟨p, rfl⟩
end

abbrev Own := String → Option Addr
noncomputable def Hot (env : Env) (H₀ : Addr → Prop) (own : Own) (b : Addr) : Prop := H₀ b ∨ b = env.locals ∨ (∃ x, env.cells.lookup x = some b) ∨ ∃ x, own x = some b
noncomputable def Own.less (own : Own) (ns : List String) : Own := fun x => if x ∈ ns then none else own x
theorem Hot.less {env : Env} {H₀ : Addr → Prop} {own : Own} {ns : List String} {b : Addr} (h : Hot env H₀ (own.less ns) b) : Hot env H₀ own b := by
  rcases h with h | h | h | ⟨x, h⟩
  · exact .inl h
  · exact .inr (.inl h)
  · exact .inr (.inr (.inl h))
  · unfold Own.less at h
    split at h
    · cases h
    · exact .inr (.inr (.inr ⟨x, h⟩))

structure StOk (w : World) (base ent h : Heap) (env : Env) (H₀ : Addr → Prop) (own : Own) (m : Str → Option Value) (σ : St) : Prop where
  rep : EnvRep h env m
  plain : ∀ x d, σ.lookup x = some (false, d) → ∃ v, m (Str.ofString x) = some v ∧ Rep w.params h (Hot env H₀ own) v d
  owned : ∀ x d, σ.lookup x = some (true, d) → ∃ a ds, own x = some a ∧ m (Str.ofString x) = some (.ref a) ∧ d = .list ds ∧ OwnL w.params h (Hot env H₀ own) a ds
  hot : HOk base h (Hot env H₀ own)
  keep : ∀ b o, ent.get? b = some o → h.get? b = some o
  frE : ent.get? env.locals = none ∧ ∀ x c, env.cells.lookup x = some c → ent.get? c = none
  own1 : ∀ x a, own x = some a → ent.get? a = none ∧ ¬ H₀ a ∧ a ≠ env.locals ∧ ∀ y, env.cells.lookup y ≠ some a
  inj : ∀ x y a, own x = some a → own y = some a → x = y
  ownx : ∀ x a, own x = some a → ∃ o, h.get? a = some o

theorem OwnL.mono {P : Params} {h h' : Heap} {H H' : Addr → Prop} {a : Addr} {ds : List D} (o : OwnL P h H a ds) (ha : ∀ o, h.get? a = some o → h'.get? a = some o) (hk : ∀ b o, ¬ H b → h.get? b = some o → h'.get? b = some o) (hH : ∀ b o, h.get? b = some o → H' b → H b ∨ b = a) : OwnL P h' H' a ds := by
  obtain ⟨vs, n, h1, h2, h3⟩ := o
  refine ⟨vs, n, ha _ h1, h2, h3.mono (fun b o hn e => hk b o (fun q => hn (.inl q)) e) fun b o e q => q.elim (hH b o e) .inr⟩

theorem StOk.keeps {w : World} {base ent h h' : Heap} {env : Env} {H₀ : Addr → Prop} {own : Own} {m : Str → Option Value} {σ : St} (S : StOk w base ent h env H₀ own m σ) (hk : ∀ a o, h.get? a = some o → h'.get? a = some o) :
    StOk w base ent h' env H₀ own m σ where
  rep := S.rep.keeps hk
  plain := fun x d e => let ⟨v, h1, h2⟩ := S.plain x d e; ⟨v, h1, h2.keeps hk⟩
  owned := fun x d e => let ⟨a, ds, h1, h2, h3, h4⟩ := S.owned x d e; ⟨a, ds, h1, h2, h3, h4.mono (fun o e => hk _ o e) (fun b o _ e => hk b o e) fun _ _ _ q => .inl q⟩
  hot := S.hot.keeps hk
  keep := fun b o e => hk b o (S.keep b o e)
  frE := S.frE
  own1 := S.own1
  inj := S.inj
  ownx := fun x a e => let ⟨o, ho⟩ := S.ownx x a e; ⟨o, hk _ _ ho⟩

theorem lookup_vis (x : String) : ∀ (σ : St), (vis σ).lookup x = (σ.lookup x).map (·.2)
  | [] => rfl
  | (y, v) :: r => by
    have ih := lookup_vis x r
    unfold vis at ih ⊢
    rw [List.map_cons, List.lookup_cons, List.lookup_cons]
    by_cases h : x = y
    · subst h; simp
    · have : (x == y) = false := by simpa using h
      simp only [this]
      exact ih
theorem lookup_setv (x y : String) (v : Bool × D) : ∀ (σ : St), (setv σ x v).lookup y = if y = x then some v else σ.lookup y
  | [] => by
    unfold setv
    rw [List.lookup_cons]
    by_cases h : y = x
    · simp [h]
    · have : (y == x) = false := by simpa using h
      simp [h, this]
  | (z, u) :: r => by
    unfold setv
    split
    · rename_i h; subst h
      rw [List.lookup_cons, List.lookup_cons]
      by_cases h : y = z
      · simp [h]
      · have : (y == z) = false := by simpa using h
        simp [h, this]
    · rename_i hz
      rw [List.lookup_cons, List.lookup_cons, lookup_setv x y v r]
      by_cases h : y = x
      · subst h
        have : (y == z) = false := by simpa using Ne.symm hz
        simp [this]
      · simp [h]
theorem lookup_freeze (ns : List String) (x : String) : ∀ (σ : St), (freeze ns σ).lookup x = (σ.lookup x).map fun p => (p.1 && !ns.contains x, p.2)
  | [] => rfl
  | (y, v) :: r => by
    have ih := lookup_freeze ns x r
    unfold freeze at ih ⊢
    rw [List.map_cons, List.lookup_cons, List.lookup_cons]
    by_cases h : x = y
    · subst h; simp
    · have : (x == y) = false := by simpa using h
      simp only [this]
      exact ih

theorem StOk.freeze {w : World} {base ent h : Heap} {env : Env} {H₀ : Addr → Prop} {own : Own} {m : Str → Option Value} {σ : St} (S : StOk w base ent h env H₀ own m σ) (ns : List String) :
    StOk w base ent h env H₀ (own.less ns) m (Mine.freeze ns σ) where
  rep := S.rep
  plain := fun x d e => by
    rw [lookup_freeze] at e
    simp only [Option.map_eq_some_iff, Prod.mk.injEq] at e
    obtain ⟨⟨o, d'⟩, h1, h2, h3⟩ := e
    simp only at h2 h3
    subst h3
    cases o with
    | false =>
      obtain ⟨v, q1, q2⟩ := S.plain x d' h1
      exact ⟨v, q1, q2.sub fun _ q => q.less⟩
    | true =>
      simp only [Bool.true_and, Bool.not_eq_false', List.contains_iff_mem] at h2
      obtain ⟨a, ds, q1, q2, q3, q4⟩ := S.owned x d' h1
      subst q3
      refine ⟨_, q2, (q4.mono (H' := Hot env H₀ (own.less ns)) (fun _ e => e) (fun _ _ _ e => e) fun _ _ _ q => .inl q.less).rep ?_⟩
      obtain ⟨_, g1, g2, g3⟩ := S.own1 x a q1
      rintro (e | e | ⟨y, e⟩ | ⟨y, e⟩)
      · exact g1 e
      · exact g2 e
      · exact g3 y e
      · unfold Own.less at e
        split at e
        · cases e
        · rename_i hy
          exact hy (S.inj x y a q1 e ▸ h2)
  owned := fun x d e => by
    rw [lookup_freeze] at e
    simp only [Option.map_eq_some_iff, Prod.mk.injEq] at e
    obtain ⟨⟨o, d'⟩, h1, h2, h3⟩ := e
    simp only at h2 h3
    subst h3
    simp only [Bool.and_eq_true, Bool.not_eq_true', List.contains_eq_mem, decide_eq_false_iff_not] at h2
    obtain ⟨rfl, h2⟩ := h2
    obtain ⟨a, ds, q1, q2, q3, q4⟩ := S.owned x d' h1
    exact ⟨a, ds, by unfold Own.less; rw [if_neg h2]; exact q1, q2, q3, q4.mono (fun _ e => e) (fun _ _ _ e => e) fun _ _ _ q => .inl q.less⟩
  hot := ⟨S.hot.keep, fun a q => S.hot.ex a q.less, fun b o e q => S.hot.off b o e q.less⟩
  keep := S.keep
  frE := S.frE
  own1 := fun x a e => S.own1 x a (by unfold Own.less at e; split at e <;> first | cases e | exact e)
  inj := fun x y a e1 e2 => S.inj x y a (by unfold Own.less at e1; split at e1 <;> first | cases e1 | exact e1) (by unfold Own.less at e2; split at e2 <;> first | cases e2 | exact e2)
  ownx := fun x a e => S.ownx x a (by unfold Own.less at e; split at e <;> first | cases e | exact e)

/-- what is known of the variables, all those of ns let go -/
theorem StOk.nv {w : World} {base ent h : Heap} {env : Env} {H₀ : Addr → Prop} {own : Own} {m : Str → Option Value} {σ : St} (S : StOk w base ent h env H₀ own m σ) (ns : List String) :
    NV w.params env.kindOf ns (vis σ) m h (Hot env H₀ (own.less ns)) := by
  intro x hx _ d hd
  rw [lookup_vis] at hd
  simp only [Option.map_eq_some_iff] at hd
  obtain ⟨⟨o, d'⟩, h1, h2⟩ := hd
  simp only at h2
  subst h2
  have : (Mine.freeze ns σ).lookup x = some (false, d') := by
    rw [lookup_freeze, h1]
    simp [List.contains_iff_mem, hx]
  exact (S.freeze ns).plain x d' this
end Mine

namespace Mine
open PySem PySem.SeqAt

section
variable {w : World} {base ent h h₁ h₂ : Heap} {env : Env} {H₀ : Addr → Prop} {own : Own} {m : Str → Option Value} {σ : St}

theorem frame_ex {a : Addr} (R : EnvRep h env m) (ha : a = env.locals ∨ ∃ y, env.cells.lookup y = some a) : ∃ o, h.get? a = some o := by
  rcases ha with rfl | ⟨y, e⟩
  · obtain ⟨_, ⟨o, _, _, e, _⟩, _⟩ := R.loc; exact ⟨o, e⟩
  · exact R.ex y a e

theorem StOk.assign (S : StOk w base ent h env H₀ own m σ) (hk : ∀ b o, h.get? b = some o → h₁.get? b = some o) {x : String} {v : Value} {a : Addr} {fr : Bool} {d : D} {nw : Option Addr}
    (R₂ : EnvRep h₂ env (upd m (Str.ofString x) v)) (ha : a = env.locals ∨ ∃ y, env.cells.lookup y = some a) {X : Addr → Prop} (hX : ∀ b, X b → h.get? b = none) (hs : ∀ b, b ≠ a → ¬ X b → h₂.get? b = h₁.get? b)
    (hv : (fr = false ∧ nw = none ∧ Rep w.params h₁ (fun b => Hot env H₀ own b ∨ X b) v d) ∨ (fr = true ∧ ∃ c ds, nw = some c ∧ v = .ref c ∧ d = .list ds ∧ h.get? c = none ∧ ¬ H₀ c ∧ ¬ X c ∧ OwnL w.params h₁ (fun b => Hot env H₀ own b ∨ X b) c ds)) :
    StOk w base ent h₂ env H₀ (fun y => if y = x then nw else own y) (upd m (Str.ofString x) v) (setv σ x (fr, d)) := by
  have aHot : ∀ own', Hot env H₀ own' a := fun own' => .inr (ha.elim .inl fun e => .inr (.inl e))
  have aEx : ∃ o, h.get? a = some o := frame_ex S.rep ha
  have nX : ∀ b o, h.get? b = some o → ¬ X b := fun b o e q => by have := hX b q; rw [e] at this; cases this
  have newc : ∀ c, nw = some c → h.get? c = none ∧ ¬ H₀ c ∧ ∃ o, h₂.get? c = some o := by
    intro c hc
    rcases hv with ⟨_, e, _⟩ | ⟨_, c', ds, e, _, _, h1, h2, hXc, vs, n, h3, _⟩
    · rw [e] at hc; cases hc
    · rw [e] at hc; cases hc
      refine ⟨h1, h2, _, (hs c (fun q => ?_) hXc).trans h3⟩
      obtain ⟨o, ho⟩ := aEx
      rw [← q, h1] at ho; cases ho
  have hotEq : ∀ b o, h.get? b = some o → Hot env H₀ (fun y => if y = x then nw else own y) b → Hot env H₀ own b := by
    intro b o e q
    rcases q with q | q | q | ⟨y, q⟩
    · exact .inl q
    · exact .inr (.inl q)
    · exact .inr (.inr (.inl q))
    · dsimp only at q
      split at q
      · have := (newc b q).1; rw [e] at this; cases this
      · exact .inr (.inr (.inr ⟨y, q⟩))
  have k2 : ∀ b o, ¬ Hot env H₀ own b → h.get? b = some o → h₂.get? b = some o := fun b o hn e => (hs b (fun q => hn (q ▸ aHot own)) (nX b o e)).trans (hk b o e)
  have k2' : ∀ b o, h.get? b = some o → ∃ o', h₂.get? b = some o' := fun b o e => by
    by_cases q : b = a
    · exact q ▸ frame_ex R₂ ha
    · exact ⟨o, (hs b q (nX b o e)).trans (hk b o e)⟩
  refine ⟨R₂, ?_, ?_, ⟨?_, ?_, ?_⟩, ?_, S.frE, ?_, ?_, ?_⟩
  · intro y d' e
    rw [lookup_setv] at e
    split at e
    · rename_i q; subst q
      cases e
      rcases hv with ⟨_, rfl, r⟩ | ⟨e, _⟩
      · refine ⟨v, by simp [upd], r.mono (fun b o hn e => (hs b (fun q => hn (.inl (q ▸ aHot own))) (fun q => hn (.inr q))).trans e) fun b o _ q => .inl ?_⟩
        rcases q with q | q | q | ⟨z, q⟩
        · exact .inl q
        · exact .inr (.inl q)
        · exact .inr (.inr (.inl q))
        · dsimp only at q
          split at q
          · cases q
          · exact .inr (.inr (.inr ⟨z, q⟩))
      · cases e
    · rename_i q
      obtain ⟨u, h1, h2⟩ := S.plain y d' e
      refine ⟨u, ?_, h2.mono k2 hotEq⟩
      have : Str.ofString y ≠ Str.ofString x := fun e => q (ofString_inj e)
      simp [upd, this, h1]
  · intro y d' e
    rw [lookup_setv] at e
    split at e
    · rename_i q; subst q
      cases e
      rcases hv with ⟨e, _⟩ | ⟨_, c, ds, rfl, rfl, rfl, h1, h2, hXc, h3⟩
      · cases e
      · have hca : c ≠ a := fun q => by obtain ⟨o, ho⟩ := aEx; rw [← q, h1] at ho; cases ho
        refine ⟨c, ds, by simp, by simp [upd], rfl, h3.mono (fun o e => (hs c hca hXc).trans e) (fun b o hn e => (hs b (fun q => hn (.inl (q ▸ aHot own))) (fun q => hn (.inr q))).trans e) fun b o _ q => ?_⟩
        rcases q with q | q | q | ⟨z, q⟩
        · exact .inl (.inl (.inl q))
        · exact .inl (.inl (.inr (.inl q)))
        · exact .inl (.inl (.inr (.inr (.inl q))))
        · dsimp only at q
          split at q
          · cases q; exact .inr rfl
          · exact .inl (.inl (.inr (.inr (.inr ⟨z, q⟩))))
    · rename_i q
      obtain ⟨c, ds, h1, h2, h3, h4⟩ := S.owned y d' e
      have hca : c ≠ a := by
        obtain ⟨_, _, g2, g3⟩ := S.own1 y c h1
        rcases ha with rfl | ⟨z, e⟩
        · exact g2
        · rintro rfl; exact g3 z e
      have : Str.ofString y ≠ Str.ofString x := fun e => q (ofString_inj e)
      exact ⟨c, ds, by simp [q, h1], by simp [upd, this, h2], h3, h4.mono (fun o e => (hs c hca (nX _ _ e)).trans (hk _ _ e)) k2 fun b o e q => .inl (hotEq b o e q)⟩
  · intro b o e
    exact k2 b o (S.hot.off b o e) (S.hot.keep b o e)
  · intro b q
    rcases q with q | q | q | ⟨y, q⟩
    · obtain ⟨b', o, hb, ho⟩ := S.hot.ex b (.inl q)
      obtain ⟨o', ho'⟩ := k2' b' o ho
      exact ⟨b', o', hb, ho'⟩
    · obtain ⟨o', ho'⟩ := frame_ex R₂ (.inl q)
      exact ⟨b, o', Nat.le_refl _, ho'⟩
    · obtain ⟨o', ho'⟩ := frame_ex R₂ (.inr q)
      exact ⟨b, o', Nat.le_refl _, ho'⟩
    · dsimp only at q
      split at q
      · obtain ⟨_, _, o', ho'⟩ := newc b q
        exact ⟨b, o', Nat.le_refl _, ho'⟩
      · obtain ⟨b', o, hb, ho⟩ := S.hot.ex b (.inr (.inr (.inr ⟨y, q⟩)))
        obtain ⟨o', ho'⟩ := k2' b' o ho
        exact ⟨b', o', hb, ho'⟩
  · intro b o e q
    exact S.hot.off b o e (hotEq b o (S.hot.keep b o e) q)
  · intro b o e
    refine (hs b (fun q => ?_) (nX b o (S.keep b o e))).trans (hk b o (S.keep b o e))
    rcases ha with rfl | ⟨z, ez⟩
    · rw [q, S.frE.1] at e; cases e
    · rw [q, S.frE.2 z a ez] at e; cases e
  · intro y c hc
    split at hc
    · obtain ⟨g1, g2, _⟩ := newc c hc
      refine ⟨?_, g2, ?_, ?_⟩
      · cases e : ent.get? c with
        | none => rfl
        | some o => rw [S.keep c o e] at g1; cases g1
      · rintro rfl
        obtain ⟨o, ho⟩ := frame_ex S.rep (.inl rfl)
        rw [g1] at ho; cases ho
      · intro z ez
        obtain ⟨o, ho⟩ := frame_ex S.rep (.inr ⟨z, ez⟩)
        rw [g1] at ho; cases ho
    · exact S.own1 y c hc
  · intro y z c h1 h2
    split at h1 <;> split at h2
    · rename_i e1 e2; rw [e1, e2]
    · obtain ⟨o, ho⟩ := S.ownx z c h2
      rw [(newc c h1).1] at ho; cases ho
    · obtain ⟨o, ho⟩ := S.ownx y c h1
      rw [(newc c h2).1] at ho; cases ho
    · exact S.inj y z c h1 h2
  · intro y c hc
    split at hc
    · exact (newc c hc).2.2
    · obtain ⟨o, ho⟩ := S.ownx y c hc
      exact k2' c o ho

theorem StOk.append (S : StOk w base ent h env H₀ own m σ) {x : String} {a : Addr} {ds : List D} {vs : Array Value} {n : Nat} {v : Value} {d : D} (hx : σ.lookup x = some (true, .list ds)) (hown : own x = some a)
    (hl : h.get? a = some (lstO vs n)) (hr : RepAll w.params h (fun b => Hot env H₀ own b ∨ b = a) vs.toList ds) (hv : Rep w.params h (Hot env H₀ own) v d) (hsz : (ds ++ [d]).length ≤ big) (hs : Heap.SameBut a h h₂) (hl₂ : ∃ n', h₂.get? a = some (lstO (vs.push v) n')) :
    StOk w base ent h₂ env H₀ own m (setv σ x (true, .list (ds ++ [d]))) := by
  have aHot : Hot env H₀ own a := .inr (.inr (.inr ⟨x, hown⟩))
  obtain ⟨g0, g1, g2, g3⟩ := S.own1 x a hown
  have k2 : ∀ b o, ¬ Hot env H₀ own b → h.get? b = some o → h₂.get? b = some o := fun b o hn e => (hs.2 b fun q => hn (q ▸ aHot)).trans e
  have k2' : ∀ b o, h.get? b = some o → ∃ o', h₂.get? b = some o' := fun b o e => by
    by_cases q : b = a
    · obtain ⟨n', e'⟩ := hl₂; exact ⟨_, q ▸ e'⟩
    · exact ⟨o, (hs.2 b q).trans e⟩
  have R₂ : EnvRep h₂ env m := S.rep.keepsAt fun b o hb e => (hs.2 b (by
    rcases hb with rfl | ⟨z, ez⟩
    · exact Ne.symm g2
    · rintro rfl; exact g3 z ez)).trans e
  refine ⟨R₂, ?_, ?_, ⟨?_, ?_, S.hot.off⟩, ?_, S.frE, S.own1, S.inj, ?_⟩
  · intro y d' e
    rw [lookup_setv] at e
    split at e
    · cases e
    · obtain ⟨u, h1, h2⟩ := S.plain y d' e
      exact ⟨u, h1, h2.mono k2 fun _ _ _ q => q⟩
  · intro y d' e
    rw [lookup_setv] at e
    split at e
    · rename_i q; subst q
      cases e
      obtain ⟨a', _, q1, q2, _, _⟩ := S.owned y _ hx
      rw [hown] at q1; cases q1
      obtain ⟨n', e'⟩ := hl₂
      refine ⟨a, ds ++ [d], hown, q2, rfl, vs.push v, n', e', hsz, ?_⟩
      have r : RepAll w.params h (fun b => Hot env H₀ own b ∨ b = a) (vs.toList ++ [v]) (ds ++ [d]) := hr.append (.cons (hv.mono (fun _ _ _ e => e) fun b o _ q => q.elim id fun q => q ▸ aHot) .nil)
      have r' := r.mono (h' := h₂) (H' := fun b => Hot env H₀ own b ∨ b = a) (fun b o hn e => k2 b o (fun q => hn (.inl q)) e) fun _ _ _ q => q
      simpa using r'
    · rename_i q
      obtain ⟨c, ds', h1, h2, h3, h4⟩ := S.owned y d' e
      have hca : c ≠ a := fun e => q (S.inj y x a (e ▸ h1) hown)
      exact ⟨c, ds', h1, h2, h3, h4.mono (fun o e => (hs.2 c hca).trans e) k2 fun b o e q => .inl q⟩
  · intro b o e
    exact k2 b o (S.hot.off b o e) (S.hot.keep b o e)
  · intro b q
    obtain ⟨b', o, hb, ho⟩ := S.hot.ex b q
    obtain ⟨o', ho'⟩ := k2' b' o ho
    exact ⟨b', o', hb, ho'⟩
  · intro b o e
    exact (hs.2 b fun q => by rw [q, g0] at e; cases e).trans (S.keep b o e)
  · intro y c hc
    obtain ⟨o, ho⟩ := S.ownx y c hc
    exact k2' c o ho
end
end Mine

namespace Mine
open PySem PySem.SeqAt

noncomputable def frm (env : Env) (b : Addr) : Prop := b = env.locals ∨ ∃ x, env.cells.lookup x = some b

noncomputable def SPost (w : World) (base ent : Heap) (env : Env) (H₀ : Addr → Prop) (s : Shared) (own : Own) (r : Fl × St) (f : Flow) (s' : Shared) : Prop :=
  ∃ h' tk, s' = { s with heap := h', toks := tk } ∧ (∀ b o, s.heap.get? b = some o → ¬ frm env b → (∀ x, own x ≠ some b) → h'.get? b = some o) ∧ (∀ b o, s.heap.get? b = some o → ∃ o', h'.get? b = some o') ∧
  match r.1 with
  | .next => f = .next ∧ ∃ own' m', StOk w base ent h' env H₀ own' m' r.2 ∧ ∀ x a, own' x = some a → own x = some a ∨ s.heap.get? a = none
  | .cont => f = .cont ∧ ∃ own' m', StOk w base ent h' env H₀ own' m' r.2 ∧ ∀ x a, own' x = some a → own x = some a ∨ s.heap.get? a = none
  | .ret fr d => ∃ v, f = .ret v ∧ Rep w.params h' H₀ v d ∧ (∀ b o, ent.get? b = some o → h'.get? b = some o) ∧ (fr = true → ∃ a ds, v = .ref a ∧ d = .list ds ∧ ent.get? a = none ∧ OwnL w.params h' H₀ a ds)

section
variable {prog : Program} {w : World} {A : Around} {base : Heap} {mg mb : Str → Option Value} {cf : CF}

noncomputable def SS (prog : Program) (w : World) (A : Around) (base : Heap) (cf : CF) (ms : MS) : Prop :=
  ∀ (s : Shared) (env : Env) (st : Stmt) (H₀ : Addr → Prop) (ent : Heap) (own : Own) (m : Str → Option Value) (σ : St) (r : Fl × St) (E : Value → Shared → Prop), chkS env.kindOf st ms = true → StOk w base ent s.heap env H₀ own m σ →
    exS cf ms σ = some r → wpAny (model prog w) A (exec st env) (SPost w base ent env H₀ s own r) E s
noncomputable def SSs (prog : Program) (w : World) (A : Around) (base : Heap) (cf : CF) (ms : List MS) : Prop :=
  ∀ (s : Shared) (env : Env) (ss : List Stmt) (H₀ : Addr → Prop) (ent : Heap) (own : Own) (m : Str → Option Value) (σ : St) (r : Fl × St) (E : Value → Shared → Prop), chkSs env.kindOf ss ms = true → StOk w base ent s.heap env H₀ own m σ →
    exSs cf ms σ = some r → wpAny (model prog w) A (execs ss env) (SPost w base ent env H₀ s own r) E s

theorem own_sub {s : Shared} {own own' : Own} (hh : ∀ x a, own' x = some a → own x = some a ∨ s.heap.get? a = none) {b : Addr} {o : Obj} (e : s.heap.get? b = some o) (hn : ∀ x, own x ≠ some b) : ∀ x, own' x ≠ some b := by
  intro x q
  rcases hh x b q with q | q
  · exact hn x q
  · rw [e] at q; cases q

theorem SPost.trans {ent : Heap} {env : Env} {H₀ : Addr → Prop} {s s₁ : Shared} {own own₁ : Own} {r : Fl × St} {f : Flow} {s' : Shared} (h₁ : Heap) (tk₁ : Nat) (e₁ : s₁ = { s with heap := h₁, toks := tk₁ })
    (k₁ : ∀ b o, s.heap.get? b = some o → ¬ frm env b → (∀ x, own x ≠ some b) → h₁.get? b = some o) (x₁ : ∀ b o, s.heap.get? b = some o → ∃ o', h₁.get? b = some o') (o₁ : ∀ x a, own₁ x = some a → own x = some a ∨ s.heap.get? a = none)
    (q : SPost w base ent env H₀ s₁ own₁ r f s') : SPost w base ent env H₀ s own r f s' := by
  subst e₁
  obtain ⟨h', tk, rfl, k, x, q⟩ := q
  have newn : ∀ a, h₁.get? a = none → s.heap.get? a = none := by
    intro a e
    cases q : s.heap.get? a with
    | none => rfl
    | some o =>
      obtain ⟨o', e'⟩ := x₁ a o q
      rw [e] at e'; cases e'
  refine ⟨h', tk, rfl, fun b o e hf ho => k b o (k₁ b o e hf ho) hf (own_sub o₁ e ho), fun b o e => (fun ⟨o', e'⟩ => x b o' e') (x₁ b o e), ?_⟩
  cases hr : r.1 with
  | next =>
    rw [hr] at q
    obtain ⟨q1, own', m', q2, q3⟩ := q
    refine ⟨q1, own', m', q2, fun x a e => ?_⟩
    rcases q3 x a e with e | e
    · exact o₁ x a e
    · exact .inr (newn a e)
  | cont =>
    rw [hr] at q
    obtain ⟨q1, own', m', q2, q3⟩ := q
    refine ⟨q1, own', m', q2, fun x a e => ?_⟩
    rcases q3 x a e with e | e
    · exact o₁ x a e
    · exact .inr (newn a e)
  | ret fr d => rw [hr] at q; exact q

/-- a state after a run of an expression -/
theorem StOk.settle {ent h : Heap} {env : Env} {H₀ : Addr → Prop} {own : Own} {m : Str → Option Value} {σ : St} (S : StOk w base ent h env H₀ own m σ) (d : D) (ns : List String) :
    ∃ own', StOk w base ent h env H₀ own' m (Mine.settle d ns σ) ∧ (∀ x a, own' x = some a → own x = some a) ∧ ((d.scalar = true ∧ own' = own) ∨ (d.scalar = false ∧ own' = own.less ns)) := by
  unfold Mine.settle
  cases hd : d.scalar with
  | true => exact ⟨own, S, fun _ _ e => e, .inl ⟨rfl, rfl⟩⟩
  | false => exact ⟨own.less ns, S.freeze ns, fun x a e => by unfold Own.less at e; split at e <;> first | cases e | exact e, .inr ⟨rfl, rfl⟩⟩

theorem nofrm {s : Shared} {env : Env} {h₁ h₂ : Heap} {a : Addr} (hk : ∀ b o, s.heap.get? b = some o → h₁.get? b = some o) (ha : frm env a) (hs : Heap.SameBut a h₁ h₂) (hx : ∃ o, h₂.get? a = some o) :
    (∀ b o, s.heap.get? b = some o → ¬ frm env b → h₂.get? b = some o) ∧ (∀ b o, s.heap.get? b = some o → ∃ o', h₂.get? b = some o') := by
  refine ⟨fun b o e hf => (hs.2 b fun q => hf (q ▸ ha)).trans (hk b o e), fun b o e => ?_⟩
  by_cases q : b = a
  · exact q ▸ hx
  · exact ⟨o, (hs.2 b q).trans (hk b o e)⟩

theorem store_core {s : Shared} {env : Env} {H₀ : Addr → Prop} {ent : Heap} {own : Own} {m : Str → Option Value} {σ : St} {x : String} {ns : List String} {d : D} {fr : Bool} {v : Value} {h₁ h₂ : Heap} {a : Addr} {X : Addr → Prop} {tk : Nat}
    (S : StOk w base ent s.heap env H₀ own m σ) (hk : ∀ b o, s.heap.get? b = some o → h₁.get? b = some o) (rv : Rep w.params h₁ (fun b => Hot env H₀ (own.less ns) b ∨ X b) v d)
    (hfr : fr = true → ∃ c ds, v = .ref c ∧ d = .list ds ∧ s.heap.get? c = none ∧ OwnL w.params h₁ (fun b => Hot env H₀ (own.less ns) b ∨ X b) c ds)
    (R₂ : EnvRep h₂ env (upd m (Str.ofString x) v)) (ha : frm env a) (hX : ∀ b, X b → s.heap.get? b = none) (hs : ∀ b, b ≠ a → ¬ X b → h₂.get? b = h₁.get? b) :
    SPost w base ent env H₀ s own (.next, setv (Mine.settle d ns σ) x (fr, d)) .next { s with heap := h₂, toks := tk } := by
  obtain ⟨own', S', hsub, hcase⟩ := S.settle d ns
  have hv : (fr = false ∧ (if fr then (match v with | .ref c => some c | _ => none) else none) = none ∧ Rep w.params h₁ (fun b => Hot env H₀ own' b ∨ X b) v d) ∨
      (fr = true ∧ ∃ c ds, (if fr then (match v with | .ref c => some c | _ => none) else none) = some c ∧ v = .ref c ∧ d = .list ds ∧ s.heap.get? c = none ∧ ¬ H₀ c ∧ ¬ X c ∧ OwnL w.params h₁ (fun b => Hot env H₀ own' b ∨ X b) c ds) := by
    cases fr with
    | false =>
      refine .inl ⟨rfl, rfl, ?_⟩
      rcases hcase with ⟨e1, _⟩ | ⟨_, e2⟩
      · exact rv.scalar e1
      · rw [e2]; exact rv
    | true =>
      obtain ⟨c, ds, e1, e2, e3, e4⟩ := hfr rfl
      subst e1 e2
      rcases hcase with ⟨e5, _⟩ | ⟨_, e6⟩
      · cases e5
      · rw [e6]
        cases rv with
        | list _ hn _ _ => exact .inr ⟨rfl, c, ds, rfl, rfl, rfl, e3, fun q => hn (.inl (.inl q)), fun q => hn (.inr q), e4⟩
  have S₂ := S'.assign (x := x) (v := v) (fr := fr) (d := d) hk R₂ ha hX hs hv
  have nX : ∀ b o, s.heap.get? b = some o → ¬ X b := fun b o e q => by have := hX b q; rw [e] at this; cases this
  refine ⟨h₂, tk, rfl, fun b o e hf _ => (hs b (fun q => hf (q ▸ ha)) (nX b o e)).trans (hk b o e), fun b o e => ?_, rfl, _, _, S₂, fun y c hc => ?_⟩
  · by_cases q : b = a
    · exact q ▸ frame_ex R₂ ha
    · exact ⟨o, (hs b q (nX b o e)).trans (hk b o e)⟩
  · split at hc
    · rcases hv with ⟨_, e, _⟩ | ⟨_, c', ds, e, _, _, h1, _⟩
      · rw [e] at hc; cases hc
      · rw [e] at hc; cases hc; exact .inr h1
    · exact .inl (hsub y c hc)

theorem isStore_kind {k : KD} {x : Str} (hx : isStore k x = true) : k x = some .local ∨ k x = some .cell := by
  unfold isStore at hx
  simp only [Bool.and_eq_true, Bool.or_eq_true, beq_iff_eq] at hx
  exact hx.1

/-- a store of an expression's value into a name -/
theorem store_value {s s₁ : Shared} {env : Env} {H₀ : Addr → Prop} {ent : Heap} {own : Own} {m : Str → Option Value} {σ : St} {x : String} {e : ME} {d : D} {fr : Bool} {v : Value} {E : Value → Shared → Prop} {Q : Unit → Shared → Prop}
    (S : StOk w base ent s.heap env H₀ own m σ) (hx : isStore env.kindOf (Str.ofString x) = true) (q : PostF w s (Hot env H₀ (own.less e.names)) d fr v s₁)
    (hQ : ∀ s₂, SPost w base ent env H₀ s own (.next, setv (Mine.settle d e.names σ) x (fr, d)) .next s₂ → Q () s₂) :
    wpAny (model prog w) A (storeName env (Str.ofString x) v) Q E s₁ := by
  obtain ⟨kp, rv, hfr⟩ := q
  obtain ⟨h₁, tk₁, rfl, hk⟩ := kp
  refine store_snd (s := { s with heap := h₁, toks := tk₁ }) (S.rep.keeps hk) (isStore_kind hx) fun h₂ tk₂ a R₂ ha hs => hQ _ ?_
  refine store_core (X := fun _ => False) S hk (rv.sub fun _ q => q.elim id False.elim) (fun hf => ?_) R₂ (ha.imp id fun e => ⟨_, e⟩) (fun _ q => q.elim) fun b hb _ => hs.2 b hb
  obtain ⟨c, ds, e1, e2, e3, e4⟩ := hfr hf
  exact ⟨c, ds, e1, e2, e3, e4.mono (fun _ e => e) (fun _ _ _ e => e) fun _ _ _ q => q.elim .inl False.elim⟩

theorem ss_assign (G : GOk mg mb base) (C : CSound prog w base mg cf A) (hh : A.handled = none) (hu : A.units < cLine) (x : String) (e : ME) : SS prog w A base cf (.assign x e) := by
  intro s env st H₀ ent own m σ r E hc S hev
  replace hc := inv_assign hc; obtain ⟨_, _, _, _, rfl, hc⟩ := hc
  · rename_i y p v pos
    simp only [Bool.and_eq_true, beq_iff_eq] at hc
    obtain ⟨⟨rfl, hst⟩, hc⟩ := hc
    simp only [exS] at hev
    split at hev
    · rename_i d fr hd
      cases hev
      have Sf := (all_E G C hh hu e).2.2
      have nv := S.nv e.names
      have hw : HOk base s.heap (Hot env H₀ (own.less e.names)) := (S.freeze e.names).hot
      have plain : swapsWith v (some (.Name (Str.ofString x) p)) pos.line env = pure false → wpAny (model prog w) A (exec (.Assign [.Name (Str.ofString x) p] v pos) env) (SPost w base ent env H₀ s own (.next, setv (Mine.settle d e.names σ) x (fr, d))) E s := fun hsw => by
        refine wpAny_Assign_Name (wpAny_mono (Sf s env v _ (vis σ) m d fr E hc S.rep hw nv hd) (fun u s₁ q => ?_) fun _ _ e => e) hsw
        exact store_value S hst q fun s₂ q => q
      by_cases hcomp : notComp v = true
      · refine plain ?_
        cases v <;> first | rfl | cases hcomp
      · have hl : ∃ t gens scope lp, v = .ListComp t gens scope lp := by
          cases v with
          | ListComp t g sc lp => exact ⟨t, g, sc, lp, rfl⟩
          | SetComp => have hs := chk_shape hc; cases e <;> cases hs
          | DictComp => have hs := chk_shape hc; cases e <;> cases hs
          | _ => exact absurd rfl hcomp
        obtain ⟨t, gens, scope, lp, rfl⟩ := hl
        have hsw : ∃ b, swapsWith (.ListComp t gens scope lp) (some (.Name (Str.ofString x) p)) pos.line env = pure b := ⟨_, rfl⟩
        obtain ⟨b, hsw⟩ := hsw
        cases b with
        | false => exact plain hsw
        | true =>
          have he : ∃ elt z src cs, e = .comp elt z src cs := by have hs := chk_shape hc; cases e <;> first | exact ⟨_, _, _, _, rfl⟩ | cases hs
          obtain ⟨elt, z, src, cs, rfl⟩ := he
          simp only [evF, Option.map_eq_some_iff] at hd
          obtain ⟨d', hd, e'⟩ := hd
          cases e'
          obtain ⟨t', y', py', it', ifs', scope', lp', heq, _⟩ := inv_comp hc
          · cases heq
            rw [exec_Assign_Name_used _ _ _ _ hsw]
            refine wpAny_bind (wpAny_standAt (wpAny_bind ?_))
            show wpAny _ A (do let _ ← comprehension (.ListComp t [⟨.Name y' py', it', ifs', 0⟩] scope lp) scope env _ (newList []) false (eval it' env) (some (assign (.Name (Str.ofString x) p) env))) _ _ s
            refine wpAny_bind (wpAny_mono (comp_snd (use := some (assign (.Name (Str.ofString x) p) env)) (Q := fun _ s' => SPost w base ent env H₀ s own (.next, setv (Mine.settle d (ME.comp elt z src cs).names σ) x (true, d)) .next s') hh (all_E G C hh hu elt).1 (all_E G C hh hu src).1 (all_Es G C hh hu cs).2.2 hc S.rep hw nv hd ?_)
              (fun _ s' hq => wpAny_pure (wpAny_pure hq)) fun _ _ e => e)
            intro L Cc h' tk m' out hdl hL hC hLC hns hown hk
            subst hdl
            show wpAny _ A (assign (.Name (Str.ofString x) p) env (.ref L)) _ _ _
            refine wpAny_assign_Name (store_snd (s := { s with heap := h', toks := tk }) (S.rep.keeps hk) (isStore_kind hst) fun h₂ tk₂ a R₂ ha hs => ?_)
            have ha' : frm env a := ha.imp id fun e => ⟨_, e⟩
            obtain ⟨oa, hoa⟩ := frame_ex S.rep ha'
            have haC : a ≠ Cc := fun q => by rw [q, hC] at hoa; cases hoa
            refine ⟨m', hns.sameBut hs (Ne.symm haC), fun h₃ hs₃ => ?_⟩
            have hLn : s.heap.get? L = none := by
              cases e : s.heap.get? L with
              | none => rfl
              | some o => exact absurd (hL _ _ e) (Nat.lt_irrefl _)
            have hLo : ¬ Hot env H₀ (own.less (ME.comp elt z src cs).names) L := fun q => by
              obtain ⟨b, o, hb, ho⟩ := hw.ex L q
              exact Nat.lt_irrefl _ (Nat.lt_of_le_of_lt hb (hL b o ho))
            refine store_core (X := fun b => b = Cc) (h₁ := h') S hk (hown.rep fun q => q.elim hLo hLC) (fun _ => ⟨L, out, rfl, rfl, hLn, hown⟩) (R₂.keepsAt fun b o hb e => (hs₃.2 b fun q => ?_).trans e) ha' (fun b q => q ▸ hC) fun b hb1 hb2 => (hs₃.2 b hb2).trans (hs.2 b hb1)
            obtain ⟨ob, hob⟩ := frame_ex S.rep hb
            rw [q, hC] at hob; cases hob
    · cases hev
end
end Mine

namespace Mine
open PySem PySem.SeqAt

theorem freeze_nil : ∀ (σ : St), freeze [] σ = σ
  | [] => rfl
  | (x, (o, d)) :: r => by
    have := freeze_nil r
    unfold freeze at this ⊢
    rw [List.map_cons, this]
    simp
theorem settle_nil (d : D) (σ : St) : settle d [] σ = σ := by
  unfold settle
  split
  · rfl
  · exact freeze_nil σ
theorem less_nil (own : Own) : own.less [] = own := by
  funext x
  simp [Own.less]

section
variable {prog : Program} {w : World} {A : Around} {base : Heap} {mg mb : Str → Option Value} {cf : CF}
variable {ent h h' : Heap} {env : Env} {H₀ : Addr → Prop} {own : Own} {m : Str → Option Value} {σ : St} {I : Addr}

theorem hot_add {b : Addr} (q : Hot env (fun b => H₀ b ∨ b = I) own b) : Hot env H₀ own b ∨ b = I := by
  rcases q with (q | q) | q | q | q
  · exact .inl (.inl q)
  · exact .inr q
  · exact .inl (.inr (.inl q))
  · exact .inl (.inr (.inr (.inl q)))
  · exact .inl (.inr (.inr (.inr q)))
theorem hot_sub {b : Addr} (q : Hot env H₀ own b) : Hot env (fun b => H₀ b ∨ b = I) own b := by
  rcases q with q | q | q | q
  · exact .inl (.inl q)
  · exact .inr (.inl q)
  · exact .inr (.inr (.inl q))
  · exact .inr (.inr (.inr q))

theorem StOk.addH (S : StOk w base ent h env H₀ own m σ) (hk : ∀ b o, h.get? b = some o → h'.get? b = some o) (hI : h.get? I = none) (hIx : ∃ o, h'.get? I = some o) :
    StOk w base ent h' env (fun b => H₀ b ∨ b = I) own m σ := by
  have S' := S.keeps hk
  have hH : ∀ b o, h.get? b = some o → Hot env (fun b => H₀ b ∨ b = I) own b → Hot env H₀ own b := fun b o e q => (hot_add q).elim id fun q => by rw [q, hI] at e; cases e
  refine ⟨S'.rep, fun x d e => ?_, fun x d e => ?_, ⟨S'.hot.keep, fun b q => ?_, fun b o e q => S.hot.off b o e (hH b o (S.hot.keep b o e) q)⟩, S'.keep, S.frE, fun x a e => ?_, S.inj, S'.ownx⟩
  · obtain ⟨v, h1, h2⟩ := S.plain x d e
    exact ⟨v, h1, h2.mono (fun b o _ e => hk b o e) hH⟩
  · obtain ⟨a, ds, h1, h2, h3, h4⟩ := S.owned x d e
    exact ⟨a, ds, h1, h2, h3, h4.mono (fun o e => hk _ o e) (fun b o _ e => hk b o e) fun b o e q => .inl (hH b o e q)⟩
  · rcases hot_add q with q | q
    · exact S'.hot.ex b q
    · obtain ⟨o, ho⟩ := hIx
      exact ⟨I, o, q ▸ Nat.le_refl _, ho⟩
  · obtain ⟨g1, g2, g3⟩ := S.own1 x a e
    refine ⟨g1, fun q => q.elim g2 fun q => ?_, g3⟩
    obtain ⟨o, ho⟩ := S.ownx x a e
    rw [q, hI] at ho; cases ho

/-- only I has turned -/
theorem StOk.turnI (S : StOk w base ent h env (fun b => H₀ b ∨ b = I) own m σ) (hk : ∀ b o, b ≠ I → h.get? b = some o → h'.get? b = some o) (hIx : ∃ o, h'.get? I = some o) (hf : ¬ frm env I) (hE : ent.get? I = none) :
    StOk w base ent h' env (fun b => H₀ b ∨ b = I) own m σ := by
  have IH : Hot env (fun b => H₀ b ∨ b = I) own I := .inl (.inr rfl)
  have k2 : ∀ b o, ¬ Hot env (fun b => H₀ b ∨ b = I) own b → h.get? b = some o → h'.get? b = some o := fun b o hn e => hk b o (fun q => hn (q ▸ IH)) e
  have k3 : ∀ b o, h.get? b = some o → ∃ o', h'.get? b = some o' := fun b o e => by
    by_cases q : b = I
    · exact q ▸ hIx
    · exact ⟨o, hk b o q e⟩
  refine ⟨S.rep.keepsAt fun b o hb e => hk b o (fun q => hf (q ▸ hb)) e, fun x d e => ?_, fun x d e => ?_, ⟨fun b o e => k2 b o (S.hot.off b o e) (S.hot.keep b o e), fun b q => ?_, S.hot.off⟩, fun b o e => hk b o (fun q => by rw [q, hE] at e; cases e) (S.keep b o e), S.frE, S.own1, S.inj, fun x a e => (fun ⟨o, ho⟩ => k3 a o ho) (S.ownx x a e)⟩
  · obtain ⟨v, h1, h2⟩ := S.plain x d e
    exact ⟨v, h1, h2.mono k2 fun _ _ _ q => q⟩
  · obtain ⟨a, ds, h1, h2, h3, h4⟩ := S.owned x d e
    exact ⟨a, ds, h1, h2, h3, h4.mono (fun o e => hk _ o (fun q => (S.own1 x a h1).2.1 (.inr q)) e) k2 fun b o e q => .inl q⟩
  · obtain ⟨b', o, hb, ho⟩ := S.hot.ex b q
    obtain ⟨o', ho'⟩ := k3 b' o ho
    exact ⟨b', o', hb, ho'⟩

/-- the loop is left: I is nobody's -/
theorem StOk.leave (S : StOk w base ent h env (fun b => H₀ b ∨ b = I) own m σ) (hk : ∀ b o, b ≠ I → h.get? b = some o → h'.get? b = some o) (hx : Ex h' H₀) (hf : ¬ frm env I) (hE : ent.get? I = none) :
    StOk w base ent h' env H₀ own m σ := by
  have IH : Hot env (fun b => H₀ b ∨ b = I) own I := .inl (.inr rfl)
  have k2 : ∀ b o, ¬ Hot env (fun b => H₀ b ∨ b = I) own b → h.get? b = some o → h'.get? b = some o := fun b o hn e => hk b o (fun q => hn (q ▸ IH)) e
  have ownk : ∀ x a, own x = some a → ∃ o, h'.get? a = some o := fun x a e => by
    obtain ⟨o, ho⟩ := S.ownx x a e
    exact ⟨o, hk a o (fun q => (S.own1 x a e).2.1 (.inr q)) ho⟩
  have R : EnvRep h' env m := S.rep.keepsAt fun b o hb e => hk b o (fun q => hf (q ▸ hb)) e
  refine ⟨R, fun x d e => ?_, fun x d e => ?_, ⟨fun b o e => k2 b o (S.hot.off b o e) (S.hot.keep b o e), fun b q => ?_, fun b o e q => S.hot.off b o e (hot_sub q)⟩, fun b o e => hk b o (fun q => by rw [q, hE] at e; cases e) (S.keep b o e), S.frE, fun x a e => ?_, S.inj, ownk⟩
  · obtain ⟨v, h1, h2⟩ := S.plain x d e
    exact ⟨v, h1, h2.mono k2 fun _ _ _ q => hot_sub q⟩
  · obtain ⟨a, ds, h1, h2, h3, h4⟩ := S.owned x d e
    exact ⟨a, ds, h1, h2, h3, h4.mono (fun o e => hk _ o (fun q => (S.own1 x a h1).2.1 (.inr q)) e) k2 fun b o e q => .inl (hot_sub q)⟩
  · rcases q with q | q | q | ⟨y, q⟩
    · exact hx b q
    · obtain ⟨o, ho⟩ := frame_ex R (.inl q); exact ⟨b, o, Nat.le_refl _, ho⟩
    · obtain ⟨o, ho⟩ := frame_ex R (.inr q); exact ⟨b, o, Nat.le_refl _, ho⟩
    · obtain ⟨o, ho⟩ := ownk y b q; exact ⟨b, o, Nat.le_refl _, ho⟩
  · obtain ⟨g1, g2, g3⟩ := S.own1 x a e
    exact ⟨g1, fun q => g2 (.inl q), g3⟩

theorem ss_cont : SS prog w A base cf .cont := by
  intro s env st H₀ ent own m σ r E hc S hev
  replace hc := inv_cont hc; obtain ⟨_, rfl⟩ := hc
  · simp only [exS] at hev; cases hev
    exact fun Γ p hΓ => ⟨s.heap, s.toks, rfl, fun b o e _ _ => e, fun b o e => ⟨o, e⟩, rfl, own, m, S, fun x a e => .inl e⟩

theorem ss_ret (G : GOk mg mb base) (C : CSound prog w base mg cf A) (hh : A.handled = none) (hu : A.units < cLine) (e : ME) : SS prog w A base cf (.ret e) := by
  intro s env st H₀ ent own m σ r E hc S hev
  replace hc := inv_ret hc; obtain ⟨_, _, rfl, hc⟩ := hc
  · rename_i v pos
    have gen : ∀ d fr, evF cf (vis σ) e = some (d, fr) → wpAny (model prog w) A (exec (.Return (some v) pos) env) (SPost w base ent env H₀ s own (.ret fr d, σ)) E s := by
      intro d fr hd
      refine wpAny_Return_some (wpAny_mono ((all_E G C hh hu e).2.2 s env v _ (vis σ) m d fr E hc S.rep (S.freeze e.names).hot (S.nv e.names) hd) (fun u s₁ q => ?_) fun _ _ e => e)
      obtain ⟨⟨h₁, tk₁, rfl, hk⟩, rv, hfr⟩ := q
      refine ⟨h₁, tk₁, rfl, fun b o e _ _ => hk b o e, fun b o e => ⟨o, hk b o e⟩, u, rfl, rv.sub fun _ q => .inl q, fun b o e => hk b o (S.keep b o e), fun hf => ?_⟩
      obtain ⟨a, ds, e1, e2, e3, e4⟩ := hfr hf
      refine ⟨a, ds, e1, e2, ?_, e4.mono (fun _ e => e) (fun _ _ _ e => e) fun _ _ _ q => .inl (.inl q)⟩
      cases q : ent.get? a with
      | none => rfl
      | some o => rw [S.keep a o q] at e3; cases e3
    simp only [exS] at hev
    split at hev
    · rename_i x
      split at hev
      · rename_i fr d hd
        cases hev
        have hv : (vis σ).lookup x = some d := by rw [lookup_vis, hd]; rfl
        cases fr with
        | false => exact gen d false (by simp only [evF, evE, hv]; rfl)
        | true =>
          obtain ⟨a, ds, q1, q2, q3, q4⟩ := S.owned x d hd
          subst q3
          replace hc := inv_var hc; obtain ⟨_, _, rfl, hc⟩ := hc
          · simp only [Bool.and_eq_true, beq_iff_eq] at hc
            obtain ⟨rfl, hvar⟩ := hc
            obtain ⟨g1, g2, g3⟩ := S.own1 x a q1
            have q5 : OwnL w.params s.heap H₀ a ds := q4.mono (fun _ e => e) (fun _ _ _ e => e) fun _ _ _ q => .inl (.inl q)
            refine wpAny_Return_some (load_snd S.rep hvar q2 ?_)
            exact ⟨s.heap, s.toks, rfl, fun b o e _ _ => e, fun b o e => ⟨o, e⟩, _, rfl, q5.rep g2, S.keep, fun _ => ⟨a, ds, rfl, rfl, g1, q5⟩⟩
      · cases hev
    · split at hev
      · rename_i d fr hd
        cases hev
        exact gen d fr hd
      · cases hev

theorem ss_expr (G : GOk mg mb base) (C : CSound prog w base mg cf A) (hh : A.handled = none) (hu : A.units < cLine) (e : ME) : SS prog w A base cf (.expr e) := by
  intro s env st H₀ ent own m σ r E hc S hev
  replace hc := inv_expr hc; obtain ⟨_, _, rfl, hc⟩ := hc
  · rename_i v pos
    simp only [Bool.and_eq_true] at hc
    simp only [exS] at hev
    split at hev
    · rename_i d hd
      split at hev
      · rename_i hsc
        cases hev
        refine wpAny_Expr (wpAny_mono ((all_E G C hh hu e).1 s env v _ (vis σ) m d E hc.2 S.rep (S.freeze e.names).hot (S.nv e.names) hd) (fun u s₁ q => ?_) fun _ _ e => e) (by unfold interactive; rw [S.rep.kind]; rfl) ?_
        · obtain ⟨⟨h₁, tk₁, rfl, hk⟩, rv⟩ := q
          have fin : SPost w base ent env H₀ s own (.next, σ) .next { s with heap := h₁, toks := tk₁ } := ⟨h₁, tk₁, rfl, fun b o e _ _ => hk b o e, fun b o e => ⟨o, hk b o e⟩, rfl, own, m, S.keeps hk, fun x a e => .inl e⟩
          cases rv <;> first | exact fin | cases hsc
        · have := hc.1
          cases v <;> first | rfl | cases this
      · cases hev
    · cases hev

theorem ss_append (G : GOk mg mb base) (C : CSound prog w base mg cf A) (hh : A.handled = none) (hu : A.units < cLine) (x : String) (e : ME) : SS prog w A base cf (.append x e) := by
  intro s env st H₀ ent own m σ r E hc S hev
  replace hc := inv_append hc; obtain ⟨_, _, _, _, _, _, _, rfl, hc⟩ := hc
  · rename_i y yp at_ ap a p pos
    simp only [Bool.and_eq_true, beq_iff_eq] at hc
    obtain ⟨⟨⟨⟨rfl, hst⟩, rfl⟩, hline⟩, hc⟩ := hc
    simp only [exS] at hev
    split at hev
    · rename_i d hd
      obtain ⟨own', S', hsub, hcase⟩ := S.settle d e.names
      split at hev
      · rename_i ds hds
        split at hev
        · rename_i hlen
          cases hev
          obtain ⟨L, _, q1, q2, q3, vs, n, q4, q5, q6⟩ := S'.owned x _ hds
          cases q3
          have hvar : isVar env.kindOf (Str.ofString x) = true := by unfold isStore at hst; simp only [Bool.and_eq_true] at hst; exact hst.2
          have hstar : starEach [a] env = [(false, eval a env)] := spliced_ok (es := [a]) (ms := [e]) (k := env.kindOf) (by simp [chkEs, hc]) env
          refine wpAny_Expr (wpAny_Call_append rfl (by rw [hstar]; rfl) (by simpa using hline) (by rw [hstar]; rfl) (load_snd S.rep hvar q2 ⟨L, vs, rfl, ⟨_, n, q4, rfl, rfl, rfl⟩, ?_⟩)) (by unfold interactive; rw [S.rep.kind]; rfl) rfl
          refine wpAny_mono ((all_E G C hh hu e).1 s env a _ (vis σ) m d E hc S.rep (S.freeze e.names).hot (S.nv e.names) hd) (fun u s₁ q => ?_) fun _ _ e => e
          obtain ⟨⟨h₁, tk₁, rfl, hk⟩, rv⟩ := q
          have rv' : Rep w.params h₁ (Hot env H₀ own') u d := by
            rcases hcase with ⟨e1, _⟩ | ⟨_, e2⟩
            · exact rv.scalar e1
            · rw [e2]; exact rv
          have e1 := q6.length
          simp only [Array.length_toList] at e1
          refine wpAny_list_append_plain (items := vs) ⟨n, hk _ _ q4⟩ (fun h₂ hl₂ hs₂ => ?_) (by rw [e1]; exact q5)
          have hl₂' : ∃ n', h₂.get? L = some (lstO (vs.push u) n') := hl₂
          have S₂ := (S'.keeps hk).append (x := x) (d := d) (v := u) hds q1 (hk _ _ q4) (q6.keeps hk) rv' (by simp; omega) hs₂ hl₂'
          refine ⟨h₂, tk₁, rfl, fun b o e hf ho => ?_, fun b o e => ?_, rfl, own', m, S₂, fun y a e => .inl (hsub y a e)⟩
          · exact (hs₂.2 b fun q => ho x (hsub x b (q ▸ q1))).trans (hk b o e)
          · by_cases q : b = L
            · obtain ⟨n', e'⟩ := hl₂'; exact ⟨_, q ▸ e'⟩
            · exact ⟨o, (hs₂.2 b q).trans (hk b o e)⟩
        · cases hev
      · cases hev
    · cases hev

theorem sss_nil : SSs prog w A base cf [] := by
  intro s env ss H₀ ent own m σ r E hc S hev
  cases ss with
  | nil =>
    simp only [exSs] at hev; cases hev
    exact wpAny_execs_nil ⟨s.heap, s.toks, rfl, fun b o e _ _ => e, fun b o e => ⟨o, e⟩, rfl, own, m, S, fun x a e => .inl e⟩
  | cons _ _ => simp [chkSs] at hc
theorem sss_cons {a : MS} {l : List MS} (ha : SS prog w A base cf a) (hl : SSs prog w A base cf l) : SSs prog w A base cf (a :: l) := by
  intro s env ss H₀ ent own m σ r E hc S hev
  cases ss with
  | nil => simp [chkSs] at hc
  | cons st ss' =>
    simp only [chkSs, Bool.and_eq_true] at hc
    simp only [exSs] at hev
    split at hev
    · rename_i σ₁ h1
      refine wpAny_execs_cons (wpAny_mono (ha s env st H₀ ent own m σ _ E hc.1 S h1) (fun f s₁ q => ?_) fun _ _ e => e)
      obtain ⟨h₁, tk₁, rfl, k, x, rfl, own', m', S', hsub⟩ := q
      exact wpAny_mono (hl _ env ss' H₀ ent own' m' σ₁ r E hc.2 S' hev) (fun f s₂ q => q.trans h₁ tk₁ rfl k x hsub) fun _ _ e => e
    · rename_i hne
      refine wpAny_execs_cons (wpAny_mono (ha s env st H₀ ent own m σ r E hc.1 S hev) (fun f s₁ q => ?_) fun _ _ e => e)
      obtain ⟨fl, σ₁⟩ := r
      cases fl with
      | next => exact absurd hev (hne σ₁)
      | cont =>
        have q' := q
        obtain ⟨h₁, tk₁, rfl, k, x, rfl, _⟩ := q
        exact q'
      | ret fr d =>
        have q' := q
        obtain ⟨h₁, tk₁, rfl, k, x, v, rfl, _⟩ := q
        exact q'

theorem ss_ite (G : GOk mg mb base) (C : CSound prog w base mg cf A) (hh : A.handled = none) (hu : A.units < cLine) {c : ME} {t f : List MS} (ht : SSs prog w A base cf t) (hf : SSs prog w A base cf f) : SS prog w A base cf (.ite c t f) := by
  intro s env st H₀ ent own m σ r E hc S hev
  replace hc := inv_ite hc; obtain ⟨_, _, _, _, rfl, hc⟩ := hc
  · rename_i v b o pos
    simp only [Bool.and_eq_true] at hc
    obtain ⟨⟨h1, h2⟩, h3⟩ := hc
    simp only [exS] at hev
    split at hev
    · rename_i d hd
      have run : ∀ tt, truth d = some tt → wpAny (model prog w) A (isTrue v env (eval v env)) (fun b s' => Keeps s s' ∧ b = tt) E s := fun tt htt =>
        (all_E G C hh hu c).2.1 s env v _ (vis σ) m d tt E h1 S.rep (S.freeze c.names).hot (S.nv c.names) hd htt
      split at hev
      · rename_i htt
        refine wpAny_If (wpAny_mono (run true htt) (fun b s₁ q => ?_) fun _ _ e => e)
        obtain ⟨⟨h₁, tk₁, rfl, hk⟩, rfl⟩ := q
        simp only [if_true]
        exact wpAny_mono (ht _ env _ H₀ ent own m σ r E h2 (S.keeps hk) hev) (fun f s₂ q => q.trans h₁ tk₁ rfl (fun b o e _ _ => hk b o e) (fun b o e => ⟨o, hk b o e⟩) fun x a e => .inl e) fun _ _ e => e
      · rename_i htt
        refine wpAny_If (wpAny_mono (run false htt) (fun b s₁ q => ?_) fun _ _ e => e)
        obtain ⟨⟨h₁, tk₁, rfl, hk⟩, rfl⟩ := q
        simp only [Bool.false_eq_true, if_false]
        exact wpAny_mono (hf _ env _ H₀ ent own m σ r E h3 (S.keeps hk) hev) (fun f s₂ q => q.trans h₁ tk₁ rfl (fun b o e _ _ => hk b o e) (fun b o e => ⟨o, hk b o e⟩) fun x a e => .inl e) fun _ _ e => e
      · cases hev
    · cases hev

theorem ss_while (G : GOk mg mb base) (C : CSound prog w base mg cf A) (hh : A.handled = none) (hu : A.units < cLine) {c : ME} {body : List MS} (hb : SSs prog w A base cf body) : SS prog w A base cf (.while_ c body) := by
  intro s env st H₀ ent own m σ r E hc S hev
  replace hc := inv_while hc; obtain ⟨_, _, _, rfl, hc⟩ := hc
  · rename_i v b pos
    simp only [Bool.and_eq_true] at hc
    simp only [exS] at hev
    refine wpAny_While (codeAny_whileLoop (fun k s' => ∃ h₁ tk₁ own' m' σ', s' = { s with heap := h₁, toks := tk₁ } ∧ (∀ b o, s.heap.get? b = some o → ¬ frm env b → (∀ x, own x ≠ some b) → h₁.get? b = some o) ∧ (∀ b o, s.heap.get? b = some o → ∃ o', h₁.get? b = some o') ∧
      StOk w base ent h₁ env H₀ own' m' σ' ∧ (∀ x a, own' x = some a → own x = some a ∨ s.heap.get? a = none) ∧ whileD (fun σ => match evE cf (vis σ) c with | some d => truth d | Option.none => Option.none) (fun σ => exSs cf body σ) k σ' = some r) ?_ wlim
      ⟨s.heap, s.toks, own, m, σ, rfl, fun b o e _ _ => e, fun b o e => ⟨o, e⟩, S, fun x a e => .inl e, hev⟩)
    rintro k s' ⟨h₁, tk₁, own', m', σ', rfl, k1, x1, S', o1, hw⟩
    cases k with
    | zero => simp only [whileD] at hw; cases hw
    | succ k =>
      simp only [whileD] at hw
      cases hd : evE cf (vis σ') c with
      | none => rw [hd] at hw; cases hw
      | some d =>
        rw [hd] at hw
        cases ht : truth d with
        | none => simp only [ht] at hw; cases hw
        | some tt =>
          simp only [ht] at hw
          refine wpAny_mono ((all_E G C hh hu c).2.1 { s with heap := h₁, toks := tk₁ } env v _ (vis σ') m' d tt _ hc.1 S'.rep (S'.freeze c.names).hot (S'.nv c.names) hd ht) (fun b s₁ q => ?_) fun _ _ e => e
          obtain ⟨⟨h₂, tk₂, rfl, hk⟩, rfl⟩ := q
          have S₂ := S'.keeps hk
          cases b with
          | true =>
            simp only [if_true]
            have go : ∀ (E' : Value → Shared → Prop) rb, exSs cf body σ' = some rb → wpAny (model prog w) A (execs _ env) (SPost w base ent env H₀ { s with heap := h₂, toks := tk₂ } own' rb) E' { s with heap := h₂, toks := tk₂ } := fun E' rb hrb => hb { s with heap := h₂, toks := tk₂ } env _ H₀ ent own' m' σ' rb _ hc.2 S₂ hrb
            have kk : ∀ b o, s.heap.get? b = some o → ¬ frm env b → (∀ x, own x ≠ some b) → h₂.get? b = some o := fun b o e hf ho => hk b o (k1 b o e hf ho)
            have xx : ∀ b o, s.heap.get? b = some o → ∃ o', h₂.get? b = some o' := fun b o e => (fun ⟨o', e'⟩ => ⟨o', hk _ _ e'⟩) (x1 b o e)
            simp only at hw
            cases hbody : exSs cf body σ' with
            | none => rw [hbody] at hw; cases hw
            | some rb =>
              obtain ⟨fl, σ₂⟩ := rb
              rw [hbody] at hw
              refine wpAny_mono (go _ _ hbody) (fun f s₃ q => ?_) fun _ _ e => e
              have q' := q.trans (s := s) (own := own) h₂ tk₂ rfl kk xx o1
              cases fl with
              | next =>
                obtain ⟨h₃, tk₃, rfl, k3, x3, rfl, own₃, m₃, S₃, o3⟩ := q'
                exact ⟨k, Nat.lt_succ_self _, h₃, tk₃, own₃, m₃, σ₂, rfl, k3, x3, S₃, o3, hw⟩
              | cont =>
                obtain ⟨h₃, tk₃, rfl, k3, x3, rfl, own₃, m₃, S₃, o3⟩ := q'
                exact ⟨k, Nat.lt_succ_self _, h₃, tk₃, own₃, m₃, σ₂, rfl, k3, x3, S₃, o3, hw⟩
              | ret fr d' =>
                cases hw
                have q'' := q'
                obtain ⟨h₃, tk₃, rfl, k3, x3, u, rfl, _⟩ := q'
                exact q''
          | false =>
            simp only [Bool.false_eq_true, if_false]
            cases hw
            exact wpAny_execs_nil ⟨h₂, tk₂, rfl, fun b o e hf ho => hk b o (k1 b o e hf ho), fun b o e => (fun ⟨o', e'⟩ => ⟨o', hk _ _ e'⟩) (x1 b o e), rfl, own', m', S₂, o1⟩

theorem ss_for (G : GOk mg mb base) (C : CSound prog w base mg cf A) (hh : A.handled = none) (hu : A.units < cLine) {x : String} {src : ME} {body : List MS} (hb : SSs prog w A base cf body) : SS prog w A base cf (.for_ x src body) := by
  intro s env st H₀ ent own m σ r E hc S hev
  replace hc := inv_for hc; obtain ⟨_, _, _, _, _, rfl, hc⟩ := hc
  · rename_i y yp it b pos
    simp only [Bool.and_eq_true, beq_iff_eq] at hc
    obtain ⟨⟨⟨⟨rfl, hst⟩, hset⟩, hcs⟩, hcb⟩ := hc
    simp only [exS] at hev
    split at hev
    · rename_i d hd
      split at hev
      · rename_i its hits
        have S0 := S.freeze src.names
        refine wpAny_For (wpAny_mono ((all_E G C hh hu src).1 s env it _ (vis σ) m d E hcs S.rep S0.hot (S.nv src.names) hd) (fun xv s₁ q₁ => ?_) fun _ _ e => e) (notSet_folded hset)
        obtain ⟨k01, rep1⟩ := q₁
        refine wpAny_mono (iter_snd rep1 hh hits) (fun itv s₂ q₂ => ?_) fun _ _ e => e
        obtain ⟨I, rfl, IA⟩ := q₂
        obtain ⟨fp, P, Stt, W, hst0, hfp, hP, hlive⟩ := IA.walk
        obtain ⟨h2, tk2, rfl, k12⟩ := IA.keeps
        obtain ⟨h1, tk1, rfl, k01⟩ := k01
        dsimp only at k12 k01 rep1 hfp hP hst0
        have hIf : h1.get? I = none := IA.fresh
        have hIx : ∃ o, h2.get? I = some o := IA.ex
        have S1 := S0.keeps k01
        have S2 := S1.addH (I := I) k12 hIf hIx
        have fex : ∀ c, frm env c → ∃ o, h1.get? c = some o := fun c hc => frame_ex S1.rep hc
        have nIf : ¬ frm env I := fun q => by obtain ⟨o, e⟩ := fex I q; rw [hIf] at e; cases e
        have nIe : ent.get? I = none := by
          cases q : ent.get? I with
          | none => rfl
          | some o => rw [k01 I o (S.keep I o q)] at hIf; cases hIf
        have sub0 : ∀ z a, (own.less src.names) z = some a → own z = some a := fun z a e => by unfold Own.less at e; split at e <;> first | cases e | exact e
        have e02 : ∀ b o, s.heap.get? b = some o → h2.get? b = some o := fun b o e => k12 b o (k01 b o e)
        have nIs : ∀ b o, h1.get? b = some o → b ≠ I := fun b o e q => by rw [q, hIf] at e; cases e
        have body1 : ∀ dv σ', (fun it σ => exSs cf body (setv σ x (false, it))) dv σ' = exSs cf body (setv σ' x (false, dv)) := fun _ _ => rfl
        refine codeAny_forLoop (fun k s' => ∃ h tk done rest own' m' σ', s' = { s with heap := h, toks := tk } ∧ its = done ++ rest ∧ Stt done.length h ∧ StOk w base ent h env (fun b => H₀ b ∨ b = I) own' m' σ' ∧
          (∀ z a, own' z = some a → (own.less src.names) z = some a ∨ h2.get? a = none) ∧ (∀ b o, h2.get? b = some o → ¬ frm env b → (∀ z, (own.less src.names) z ≠ some b) → b ≠ I → h.get? b = some o) ∧ (∀ b o, h2.get? b = some o → b ≠ I → ∃ o', h.get? b = some o') ∧
          forD (fun it σ => exSs cf body (setv σ x (false, it))) rest σ' = some r ∧ k = rest.length + 1) ?_ (its.length + 1)
          ⟨h2, tk2, [], its, _, m, _, rfl, rfl, hst0, S2, fun z a e => .inl e, fun b o e _ _ _ => e, fun b o e _ => ⟨o, e⟩, hev, rfl⟩
        rintro k s' ⟨h, tk, done, rest, own', m', σ', rfl, hdr, hstt, S', o1, k1, x1, hfor, rfl⟩
        cases rest with
        | nil =>
          simp only [List.append_nil] at hdr
          subst hdr
          refine W.done _ _ _ hstt fun h' tk' hk' => ?_
          simp only [forD] at hfor; cases hfor
          have hk'' : ∀ b o, b ≠ I → h.get? b = some o → h'.get? b = some o := fun b o hb e => hk' b o (by simpa using hb) e
          have hE' : Ex h' H₀ := fun c hc => by
            obtain ⟨b', o, hb, ho⟩ := S.hot.ex c (.inl hc)
            obtain ⟨o', ho'⟩ := x1 b' o (e02 b' o ho) (nIs b' o (k01 b' o ho))
            exact ⟨b', o', hb, hk'' b' o' (nIs b' o (k01 b' o ho)) ho'⟩
          have S3 := S'.leave hk'' hE' nIf nIe
          refine wpAny_execs_nil ⟨h', tk', rfl, fun b o e hf ho => ?_, fun b o e => ?_, rfl, own', m', S3, fun z a e => ?_⟩
          · exact hk'' b o (nIs b o (k01 b o e)) (k1 b o (e02 b o e) hf (fun z q => ho z (sub0 z b q)) (nIs b o (k01 b o e)))
          · obtain ⟨o', ho'⟩ := x1 b o (e02 b o e) (nIs b o (k01 b o e))
            exact ⟨o', hk'' b o' (nIs b o (k01 b o e)) ho'⟩
          · rcases o1 z a e with q | q
            · exact .inl (sub0 z a q)
            · right
              cases q' : s.heap.get? a with
              | none => rfl
              | some o => rw [e02 a o q'] at q; cases q
        | cons dv rest' =>
          have hlt : done.length < its.length := by rw [hdr]; simp
          refine W.item done.length _ _ _ hlt hstt fun v h₁ tk₁ hPv hst₁ hk₁ => ?_
          obtain ⟨dv', e1, rv⟩ := hP _ v hlt hPv
          have : dv' = dv := by
            rw [hdr] at e1
            simpa using e1.symm
          subst this
          have hk₁' : ∀ b o, b ≠ I → h.get? b = some o → h₁.get? b = some o := fun b o hb e => hk₁ b o (by simpa using hb) e
          have SI := S'.turnI hk₁' (hlive _ _ hst₁) nIf nIe
          have hot0 : ∀ b o, h1.get? b = some o → Hot env (fun b => H₀ b ∨ b = I) own' b → Hot env H₀ (own.less src.names) b := by
            intro b o e q
            rcases hot_add q with q | q
            · rcases q with q | q | q | ⟨z, q⟩
              · exact .inl q
              · exact .inr (.inl q)
              · exact .inr (.inr (.inl q))
              · rcases o1 z b q with q | q
                · exact .inr (.inr (.inr ⟨z, q⟩))
                · rw [k12 b o e] at q; cases q
            · exact absurd q (nIs b o e)
          have kk1 : ∀ b o, ¬ Hot env H₀ (own.less src.names) b → h1.get? b = some o → h₁.get? b = some o := fun b o hn e =>
            hk₁' b o (nIs b o e) (k1 b o (k12 b o e) (fun q => hn (.inr (q.elim .inl fun q => .inr (.inl q)))) (fun z q => hn (.inr (.inr (.inr ⟨z, q⟩)))) (nIs b o e))
          have rv' : Rep w.params h₁ (Hot env (fun b => H₀ b ∨ b = I) own') v dv' := rv.mono kk1 hot0
          refine wpAny_assign_Name (store_snd (s := { s with heap := h₁, toks := tk₁ }) SI.rep (isStore_kind hst) fun h₂ tk₂ a R₂ ha hs => ?_)
          have ha' : frm env a := ha.imp id fun e => ⟨_, e⟩
          have q3 := store_core (s := { s with heap := h₁, toks := tk₁ }) (x := x) (ns := []) (d := dv') (fr := false) (v := v) (h₁ := h₁) (h₂ := h₂) (a := a) (X := fun _ => False) (tk := tk₂) SI (fun _ _ e => e)
            (by rw [less_nil]; exact rv'.sub fun _ q => q.elim id False.elim) (fun e => by cases e) R₂ ha' (fun _ q => q.elim) fun b hb _ => hs.2 b hb
          rw [settle_nil] at q3
          obtain ⟨h₂', tk₂', e₂, k3, x3, _, own₂, m₂, S₂, o2⟩ := q3
          have e4 : h₂ = h₂' := congrArg Shared.heap e₂
          subst e4
          have e5 : tk₂ = tk₂' := congrArg Shared.toks e₂
          subst e5
          have aI : a ≠ I := fun q => nIf (q ▸ ha')
          have hst₂ : Stt (done.length + 1) h₂ := W.frame _ _ _ hst₁ fun b hb o' e => by
            refine (hs.2 b fun q => ?_).trans e
            rcases hfp b hb with e2 | ⟨hn2, o2', e2⟩
            · exact aI (q ▸ e2)
            · exact hn2 (.inr (((q ▸ ha') : frm env b).elim .inl fun q => .inr (.inl q)))
          -- what the body finds
          have keep2 : ∀ b o, h2.get? b = some o → ¬ frm env b → (∀ z, (own.less src.names) z ≠ some b) → b ≠ I → h₂.get? b = some o := fun b o e hf ho hI => (hs.2 b fun q => hf (q ▸ ha')).trans (hk₁' b o hI (k1 b o e hf ho hI))
          have ex2 : ∀ b o, h2.get? b = some o → b ≠ I → ∃ o', h₂.get? b = some o' := fun b o e hI => by
            obtain ⟨o', e'⟩ := x1 b o e hI
            obtain ⟨o'', e''⟩ := x3 b o' (hk₁' b o' hI e')
            exact ⟨o'', e''⟩
          have own2 : ∀ z c, own₂ z = some c → (own.less src.names) z = some c ∨ h2.get? c = none := fun z c e => by
            rcases o2 z c e with q | q
            · exact o1 z c q
            · refine .inr ?_
              cases q' : h2.get? c with
              | none => rfl
              | some o =>
                by_cases hcI : c = I
                · obtain ⟨o', e'⟩ := hlive _ _ hst₁
                  rw [hcI] at q
                  have q : h₁.get? I = none := q
                  rw [e'] at q; cases q
                · obtain ⟨o', e'⟩ := x1 c o q' hcI
                  have q : h₁.get? c = none := q
                  rw [hk₁' c o' hcI e'] at q; cases q
          simp only [forD] at hfor
          have go : ∀ (E' : Value → Shared → Prop) rb, exSs cf body (setv σ' x (false, dv')) = some rb → wpAny (model prog w) A (execs _ env) (SPost w base ent env (fun b => H₀ b ∨ b = I) { s with heap := h₂, toks := tk₂ } own₂ rb) E' { s with heap := h₂, toks := tk₂ } :=
            fun E' rb hrb => hb { s with heap := h₂, toks := tk₂ } env _ _ ent own₂ m₂ _ rb E' hcb S₂ hrb
          cases hbody : exSs cf body (setv σ' x (false, dv')) with
          | none => rw [hbody] at hfor; cases hfor
          | some rb =>
            obtain ⟨fl, σ₂⟩ := rb
            rw [hbody] at hfor
            refine wpAny_mono (go _ _ hbody) (fun f s₃ q => ?_) fun _ _ e => e
            obtain ⟨h₃, tk₃, rfl, k5, x5, q⟩ := q
            have hIx2 : ∃ o, h₂.get? I = some o := hlive _ _ hst₂
            have nIo : ∀ z, own₂ z ≠ some I := fun z q => (S₂.own1 z I q).2.1 (.inr rfl)
            have hst₃ : Stt (done.length + 1) h₃ := W.frame _ _ _ hst₂ fun b hb o' e => by
              rcases hfp b hb with e2 | ⟨hn2, o2', e2⟩
              · subst e2; exact k5 b o' e nIf nIo
              · refine k5 b o' e (fun q => hn2 (.inr (q.elim .inl fun q => .inr (.inl q)))) fun z q => ?_
                rcases own2 z b q with q | q
                · exact hn2 (.inr (.inr (.inr ⟨z, q⟩)))
                · rw [k12 b o2' e2] at q; cases q
            have keep3 : ∀ b o, h2.get? b = some o → ¬ frm env b → (∀ z, (own.less src.names) z ≠ some b) → b ≠ I → h₃.get? b = some o := fun b o e hf ho hI => k5 b o (keep2 b o e hf ho hI) hf fun z q => by
              rcases own2 z b q with q | q
              · exact ho z q
              · rw [e] at q; cases q
            have ex3 : ∀ b o, h2.get? b = some o → b ≠ I → ∃ o', h₃.get? b = some o' := fun b o e hI => by
              obtain ⟨o', e'⟩ := ex2 b o e hI
              exact x5 b o' e'
            have nxt : (∃ own₃ m₃, StOk w base ent h₃ env (fun b => H₀ b ∨ b = I) own₃ m₃ σ₂ ∧ ∀ z c, own₃ z = some c → own₂ z = some c ∨ h₂.get? c = none) → forD (fun it σ => exSs cf body (setv σ x (false, it))) rest' σ₂ = some r →
                ∃ k, k < (dv' :: rest').length + 1 ∧ ∃ h tk done rest own' m' σ', ({ s with heap := h₃, toks := tk₃ } : Shared) = { s with heap := h, toks := tk } ∧ its = done ++ rest ∧ Stt done.length h ∧ StOk w base ent h env (fun b => H₀ b ∨ b = I) own' m' σ' ∧
                (∀ z a, own' z = some a → (own.less src.names) z = some a ∨ h2.get? a = none) ∧ (∀ b o, h2.get? b = some o → ¬ frm env b → (∀ z, (own.less src.names) z ≠ some b) → b ≠ I → h.get? b = some o) ∧ (∀ b o, h2.get? b = some o → b ≠ I → ∃ o', h.get? b = some o') ∧
                forD (fun it σ => exSs cf body (setv σ x (false, it))) rest σ' = some r ∧ k = rest.length + 1 := by
              rintro ⟨own₃, m₃, S₃, o3⟩ hf
              refine ⟨rest'.length + 1, by simp, h₃, tk₃, done ++ [dv'], rest', own₃, m₃, σ₂, rfl, by rw [hdr]; simp, by simpa using hst₃, S₃, fun z c e => ?_, keep3, ex3, hf, rfl⟩
              rcases o3 z c e with q | q
              · exact own2 z c q
              · refine .inr ?_
                cases q' : h2.get? c with
                | none => rfl
                | some o =>
                  by_cases hcI : c = I
                  · obtain ⟨o', e'⟩ := hIx2
                    rw [hcI, e'] at q; cases q
                  · obtain ⟨o', e'⟩ := ex2 c o q' hcI
                    rw [e'] at q; cases q
            cases fl with
            | next =>
              obtain ⟨rfl, q⟩ := q
              exact nxt q hfor
            | cont =>
              obtain ⟨rfl, q⟩ := q
              exact nxt q hfor
            | ret fr dr =>
              cases hfor
              obtain ⟨u, rfl, q1, q2, q3⟩ := q
              refine ⟨h₃, tk₃, rfl, fun b o e hf ho => keep3 b o (e02 b o e) hf (fun z q => ho z (sub0 z b q)) (nIs b o (k01 b o e)), fun b o e => ex3 b o (e02 b o e) (nIs b o (k01 b o e)), u, rfl, q1.sub fun _ q => .inl q, q2, fun hf => ?_⟩
              obtain ⟨c, ds, g1, g2, g3, g4⟩ := q3 hf
              exact ⟨c, ds, g1, g2, g3, g4.mono (fun _ e => e) (fun _ _ _ e => e) fun _ _ _ q => .inl (.inl q)⟩
      · cases hev
    · cases hev

mutual
theorem all_S (G : GOk mg mb base) (C : CSound prog w base mg cf A) (hh : A.handled = none) (hu : A.units < cLine) (ms : MS) : SS prog w A base cf ms := by
  match ms with
  | .assign x e => exact ss_assign G C hh hu x e
  | .append x e => exact ss_append G C hh hu x e
  | .setk _ _ _ => intro s env st H₀ ent own m σ r E hc S hev; simp only [exS] at hev; cases hev
  | .expr e => exact ss_expr G C hh hu e
  | .ite c t f => exact ss_ite G C hh hu (all_Ss G C hh hu t) (all_Ss G C hh hu f)
  | .for_ x src body => exact ss_for G C hh hu (all_Ss G C hh hu body)
  | .while_ c body => exact ss_while G C hh hu (all_Ss G C hh hu body)
  | .ret e => exact ss_ret G C hh hu e
  | .cont => exact ss_cont
termination_by structural ms
theorem all_Ss (G : GOk mg mb base) (C : CSound prog w base mg cf A) (hh : A.handled = none) (hu : A.units < cLine) (ms : List MS) : SSs prog w A base cf ms := by
  match ms with
  | [] => exact sss_nil
  | a :: r => exact sss_cons (all_S G C hh hu a) (all_Ss G C hh hu r)
termination_by structural ms
end
end
end Mine

namespace Mine
open PySem

theorem lookup_zip_mem {α : Type} : ∀ (ns : List Str) (vs : List α), ns.length = vs.length → ∀ x ∈ ns, ((ns.zip vs).lookup x).isSome = true
  | [], _, _, x, h => nomatch h
  | n :: ns, [], h, _, _ => by simp at h
  | n :: ns, v :: vs, h, x, hx => by
    rw [List.zip_cons_cons, lookup_cons']
    split
    · rfl
    · rename_i hne
      rcases List.mem_cons.mp hx with e | e
      · exact absurd e hne
      · exact lookup_zip_mem ns vs (by simpa using h) x e
theorem filterMap_zip {α : Type} : ∀ (ns : List Str) (vs : List α), ns.Nodup → ns.length = vs.length → ns.filterMap (fun n => ((ns.zip vs).lookup n).map (n, ·)) = ns.zip vs
  | [], [], _, _ => rfl
  | [], _ :: _, _, h => by simp at h
  | _ :: _, [], _, h => by simp at h
  | n :: ns, v :: vs, hn, h => by
    rw [List.zip_cons_cons, List.filterMap_cons, lookup_cons', if_pos rfl]
    simp only [Option.map_some]
    congr 1
    rw [List.nodup_cons] at hn
    have ih := filterMap_zip ns vs hn.2 (by simpa using h)
    have cg : ∀ (l : List Str), (∀ x ∈ l, x ∈ ns) → l.filterMap (fun m => (((n, v) :: ns.zip vs).lookup m).map (m, ·)) = l.filterMap (fun m => ((ns.zip vs).lookup m).map (m, ·)) := by
      intro l
      induction l with
      | nil => intro _; rfl
      | cons x l il =>
        intro hl
        rw [List.filterMap_cons, List.filterMap_cons, lookup_cons', if_neg (show x ≠ n from fun e => hn.1 (e ▸ hl x (.head _))), il fun y hy => hl y (.tail _ hy)]
    rw [cg ns fun _ h => h]; exact ih

theorem bindArgs_plain {fd : FuncData} {vals : List Value} (h1 : fd.params.posonlyargs = []) (h2 : fd.params.kwonlyargs = []) (h3 : fd.params.vararg = none) (h4 : fd.params.kwarg = none) (h5 : fd.defaults = .none)
    (hnd : (fd.params.args.map (·.arg)).Nodup) (hl : (fd.params.args.map (·.arg)).length = vals.length) : bindArgs fd ⟨vals, []⟩ = pure ((fd.params.args.map (·.arg)).zip vals) := by
  unfold bindArgs
  simp only [h1, h2, h3, h4, h5, List.map_nil, List.nil_append, List.append_nil]
  have hm : List.filter (fun n => (List.lookup n (((fd.params.args.map (·.arg)).zip vals))).isNone) (fd.params.args.map (·.arg)) = [] := by
    rw [List.filter_eq_nil_iff]
    intro x hx
    have := lookup_zip_mem _ vals hl x hx
    simp only [Option.isNone_iff_eq_none]
    intro e
    rw [e] at this
    cases this
  have hs : seqItems? Value.none = (pure none : Sem (Option (Array Value))) := rfl
  simp only [List.forIn_nil, pure_bind, hs, Option.getD_none, List.drop_nil, List.length_nil, Nat.sub_zero, List.take_length]
  have hg : decide (vals.length > (List.map (fun x => x.arg) fd.params.args).length) = false := by simp; rw [← hl]; simp
  rw [hm, hg]
  simp only [Bool.false_and, Bool.false_eq_true, if_false, List.isEmpty_nil, Bool.not_true, List.zip_nil_right, List.forIn_nil, pure_bind]
  rw [filterMap_zip _ _ hnd hl]
end Mine

namespace Mine
open PySem PySem.SeqAt

/-- a def of the text, and its mini form -/
structure FnOk (base : Heap) (mg : Str → Option Value) (f : String) (fn : Fn) : Prop where
  ok : ∃ a o fd body, mg (Str.ofString f) = some (.ref a) ∧ base.get? a = some o ∧ o.data = .func fd ∧ fd.body = .stmts body ∧ fd.closure = [] ∧ fd.globals = mainGlobals ∧ fd.builtins = builtinsNs ∧ base.CodeRec fd.code fd.qualname ∧
    fd.params.posonlyargs = [] ∧ fd.params.kwonlyargs = [] ∧ fd.params.vararg = none ∧ fd.params.kwarg = none ∧ fd.defaults = .none ∧ fd.params.args.map (·.arg) = fn.params.map Str.ofString ∧ fn.params.Nodup ∧
    fd.scope.kind = .function ∧ fd.scope.isCoroutine = false ∧ fd.scope.isGenerator = false ∧ (fd.scope.names.map (·.1)).Nodup ∧ (∀ p ∈ fd.scope.names, p.2 ≠ .free) ∧
    (∀ x ∈ fn.params, fd.scope.names.lookup (Str.ofString x) = some .local ∨ fd.scope.names.lookup (Str.ofString x) = some .cell) ∧ chkSs (fun x => fd.scope.names.lookup x) body fn.body = true

theorem bindL_eq {k : KD} : ∀ (binds : List (Str × Value)) (m : Str → Option Value) (x : Str), (binds.map (·.1)).Nodup → k x = some .local → bindL k binds m x = (binds.lookup x).or (m x)
  | [], m, x, _, _ => by simp [bindL]
  | (n, v) :: r, m, x, hn, hk => by
    unfold bindL
    simp only [List.map_cons, List.nodup_cons] at hn
    rw [bindL_eq r _ x hn.2 hk, lookup_cons']
    by_cases h : x = n
    · subst h
      have : r.lookup x = none := by
        cases q : r.lookup x with
        | none => rfl
        | some c => exact absurd (List.mem_map_of_mem (f := (·.1)) (mem_of_lookup q)) hn.1
      rw [this, if_pos rfl, if_pos hk]
      simp
    · rw [if_neg h]
      split
      · simp [h]
      · rfl
theorem bindC_eq {k : KD} : ∀ (binds : List (Str × Value)) (m : Str → Option Value) (x : Str), (binds.map (·.1)).Nodup → k x ≠ some .local → bindC k binds m x = (binds.lookup x).or (m x)
  | [], m, x, _, _ => by simp [bindC]
  | (n, v) :: r, m, x, hn, hk => by
    unfold bindC
    simp only [List.map_cons, List.nodup_cons] at hn
    rw [bindC_eq r _ x hn.2 hk, lookup_cons']
    by_cases h : x = n
    · subst h
      have : r.lookup x = none := by
        cases q : r.lookup x with
        | none => rfl
        | some c => exact absurd (List.mem_map_of_mem (f := (·.1)) (mem_of_lookup q)) hn.1
      rw [this, if_pos rfl, if_neg hk]
      simp
    · rw [if_neg h]
      split
      · rfl
      · simp [h]

theorem lookup_zip_map {h : Heap} {P : Params} {H : Addr → Prop} : ∀ (ns : List String) (vs : List Value) (ds : List D) (x : String) (d : D), RepAll P h H vs ds → (ns.zip ds).lookup x = some d → ∃ v, ((ns.map Str.ofString).zip vs).lookup (Str.ofString x) = some v ∧ Rep P h H v d
  | [], _, _, x, d, _, e => by simp at e
  | n :: ns, _, _, x, d, .nil, e => by simp at e
  | n :: ns, _, _, x, d, .cons hv hr, e => by
    rw [List.zip_cons_cons, List.lookup_cons] at e
    rw [List.map_cons, List.zip_cons_cons, lookup_cons']
    by_cases h : x = n
    · subst h
      simp only [beq_self_eq_true] at e
      cases e
      exact ⟨_, if_pos rfl, hv⟩
    · have hb : (x == n) = false := by simpa using h
      rw [hb] at e
      rw [if_neg (fun q => h (ofString_inj q))]
      exact lookup_zip_map ns _ _ x d hr e

theorem lookup_start (x : String) : ∀ (ns : List String) (ds : List D), ((ns.zip ds).map fun p => (p.1, (false, p.2))).lookup x = ((ns.zip ds).lookup x).map fun d => (false, d)
  | [], _ => rfl
  | _ :: _, [] => rfl
  | n :: ns, d :: ds => by
    have ih := lookup_start x ns ds
    rw [List.zip_cons_cons, List.map_cons, List.lookup_cons, List.lookup_cons]
    by_cases h : x = n
    · subst h; simp
    · have hb : (x == n) = false := by simpa using h
      simp only [hb]
      exact ih

section
variable {prog : Program} {w : World} {base : Heap} {mg mb : Str → Option Value} {P : List (String × Fn)} {X : CF}

theorem call_fn (G : GOk mg mb base) {A : Around} {cf : CF} (hh : A.handled = none) (hd : A.depth < recursionLimit) (hu : A.units + 3 < cLine) (C : ∀ env, CSound prog w base mg cf (A.deeper env)) {f : String} {fn : Fn} (F : FnOk base mg f fn) {ds : List D} (hl : ds.length = fn.params.length)
    {r : Fl × St} (hev : exSs cf fn.body ((fn.params.zip ds).map fun p => (p.1, (false, p.2))) = some r) {d : D} {fr : Bool} (hr : (∃ σ, r = (.ret fr d, σ)) ∨ (∃ σ, r = (.next, σ) ∧ d = .none ∧ fr = false)) :
    ∃ a o fd, mg (Str.ofString f) = some (.ref a) ∧ base.get? a = some o ∧ o.data = .func fd ∧
    ∀ (s : Shared) (H : Addr → Prop) (vs : List Value) (E : Value → Shared → Prop), HOk base s.heap H → RepAll w.params s.heap H vs ds → wpAny (model prog w) A (PySem.call (.ref a) vs) (PostF w s H d fr) E s := by
  obtain ⟨a, o, fd, body, f1, f2, f3, f4, f5, f6, f7, f8, f9, f10, f11, f12, f13, f14, f15, f16, f17, f18, f19, f20, f21, f22⟩ := F.ok
  refine ⟨a, o, fd, f1, f2, f3, fun s H vs E hw hvs => ?_⟩
  have hnames : (fd.params.args.map (·.arg)).Nodup := by
    rw [f14]
    exact List.pairwise_map.mpr (f15.imp fun hne e => hne (ofString_inj e))
  have hlen : (fd.params.args.map (·.arg)).length = vs.length := by rw [f14, List.length_map, hvs.length, hl]
  have hb := bindArgs_plain (vals := vs) f9 f10 f11 f12 f13 hnames hlen
  have hbn : ((((fd.params.args.map (·.arg)).zip vs)).map (·.1)) = fd.params.args.map (·.arg) := by
    rw [List.map_fst_zip (by omega)]
  refine wpAny_call (codeAny_call_cells (binds := (fd.params.args.map (·.arg)).zip vs) hd (hw.keep _ _ f2) f3 (G.lim.keeps hw.keep) (f8.keeps hw.keep) f4 hb f5 ?_ ?_ f17 f18 f16)
  · intro x hx
    have hx' : x.1 ∈ fn.params.map Str.ofString := by rw [← f14, ← hbn]; exact List.mem_map_of_mem hx
    obtain ⟨z, hz, e⟩ := List.mem_map.mp hx'
    rcases f21 z hz with q | q
    · exact .inl (by rw [← e]; exact q)
    · refine .inr ⟨by rw [← e]; exact q, ?_⟩
      obtain ⟨c, hc⟩ := cellsFrom_has fd.scope.names (s.heap.objs.size + 1) (Str.ofString z) (mem_of_lookup q)
      obtain ⟨c', hc'⟩ := lookup_some_of_mem hc
      rw [← e, hc']; rfl
  · intro s₁ ic
    obtain ⟨h₁, tk₁, rfl, hk⟩ := ic.toInCall.done
    have Lsz : @Eq Nat (callEnvC fd s.heap.objs.size a).locals s.heap.objs.size := rfl
    have cge : ∀ x c, (callEnvC fd s.heap.objs.size a).cells.lookup x = some c → @LT.lt Nat _ s.heap.objs.size c := fun x c hc => ic.above x c (mem_of_lookup hc)
    have newN : ∀ c, @LE.le Nat _ s.heap.objs.size c → s.heap.get? c = none := fun c hc => Heap.get?_none_of_le hc
    have kindEq : ∀ x, (callEnvC fd s.heap.objs.size a).kindOf x = fd.scope.names.lookup x := fun _ => rfl
    have R : EnvRep h₁ (callEnvC fd s.heap.objs.size a) (fun x => ((fd.params.args.map (·.arg)).zip vs).lookup x) := by
      refine ⟨f16, f6, f7, ⟨_, ic.toInCall.ns, fun x hx => ?_⟩, fun x hx => ?_, fun x y c h1 h2 => ?_, fun x c hc e => ?_, fun x c hc => ?_⟩
      · rw [bindL_eq _ _ x (by rw [hbn]; exact hnames) hx]; simp
      · have hcell : fd.scope.names.lookup x = some .cell := by
          rcases hx with q | q
          · exact q
          · exact absurd rfl (f20 _ (mem_of_lookup q))
        obtain ⟨c, hc⟩ := cellsFrom_has fd.scope.names (s.heap.objs.size + 1) x (mem_of_lookup hcell)
        obtain ⟨c', hc'⟩ := lookup_some_of_mem hc
        refine ⟨c', hc', ?_⟩
        have := ic.cell x c' hc'
        rw [bindC_eq _ _ x (by rw [hbn]; exact hnames) (by rw [kindEq, hcell]; simp)] at this
        simpa using this
      · exact name_of_addr ic.apart (mem_of_lookup h1) (mem_of_lookup h2)
      · have := cge x c hc
        have e' : @Eq Nat c s.heap.objs.size := e
        omega
      · obtain ⟨o', e', _⟩ := ic.cell x c hc
        exact ⟨o', e'⟩
    have hot : ∀ b, Hot (callEnvC fd s.heap.objs.size a) H (fun _ => none) b → H b ∨ frm (callEnvC fd s.heap.objs.size a) b := by
      rintro b (q | q | q | ⟨x, q⟩)
      · exact .inl q
      · exact .inr (.inl q)
      · exact .inr (.inr q)
      · cases q
    have frn : ∀ b, frm (callEnvC fd s.heap.objs.size a) b → s.heap.get? b = none := by
      rintro b (q | ⟨x, q⟩)
      · exact newN b (by rw [q]; exact Nat.le_refl _)
      · exact newN b (Nat.le_of_lt (cge x b q))
    have S : StOk w base s.heap h₁ (callEnvC fd s.heap.objs.size a) H (fun _ => none) (fun x => ((fd.params.args.map (·.arg)).zip vs).lookup x) ((fn.params.zip ds).map fun p => (p.1, (false, p.2))) := by
      refine ⟨R, fun x d' e => ?_, fun x d' e => ?_, ⟨fun b o' e => hk b o' (hw.keep b o' e), fun b q => ?_, fun b o' e q => ?_⟩, hk, ⟨frn _ (.inl rfl), fun x c hc => frn c (.inr ⟨x, hc⟩)⟩, fun x c e => (by cases e), fun x y c e => (by cases e), fun x c e => (by cases e)⟩
      · rw [lookup_start] at e
        simp only [Option.map_eq_some_iff, Prod.mk.injEq] at e
        obtain ⟨d'', e1, _, e2⟩ := e
        subst e2
        obtain ⟨v, e3, e4⟩ := lookup_zip_map fn.params vs ds x d'' hvs e1
        refine ⟨v, by rw [f14]; exact e3, e4.mono (fun b o' _ e => hk b o' e) fun b o' e q => ?_⟩
        rcases hot b q with q | q
        · exact q
        · rw [frn b q] at e; cases e
      · rw [lookup_start] at e
        simp only [Option.map_eq_some_iff, Prod.mk.injEq] at e
        obtain ⟨_, _, e1, _⟩ := e
        cases e1
      · rcases hot b q with q | q
        · obtain ⟨b', o', h1, h2⟩ := hw.ex b q
          exact ⟨b', o', h1, hk _ _ h2⟩
        · obtain ⟨o', ho'⟩ := frame_ex R q
          exact ⟨b, o', Nat.le_refl _, ho'⟩
      · rcases hot b q with q | q
        · exact hw.off b o' e q
        · have := frn b q
          rw [hw.keep b o' e] at this; cases this
    refine wpAny_mono (all_Ss G (C (callEnvC fd s.heap.objs.size a)) (A := A.deeper (callEnvC fd s.heap.objs.size a)) hh (by show A.units + 3 < cLine; exact hu) fn.body { s with heap := h₁, toks := tk₁ } (callEnvC fd s.heap.objs.size a) body H s.heap (fun _ => none) _ _ r _ f22 S hev) (fun fl s' q => ?_) fun _ _ e => e
    obtain ⟨h', tk', rfl, k, x, q⟩ := q
    rcases hr with ⟨σ, rfl⟩ | ⟨σ, rfl, rfl, rfl⟩
    · obtain ⟨v, rfl, q1, q2, q3⟩ := q
      refine ⟨⟨h', tk', rfl, q2⟩, q1, fun hf => ?_⟩
      obtain ⟨c, ds', e1, e2, e3, e4⟩ := q3 hf
      exact ⟨c, ds', e1, e2, e3, e4⟩
    · obtain ⟨rfl, own', m', S', _⟩ := q
      exact ⟨⟨h', tk', rfl, S'.keep⟩, .none, fun e => by cases e⟩

/-- all calls, to the depth n -/
theorem callN_sound (G : GOk mg mb base) (HF : ∀ f fn, P.lookup f = some fn → FnOk base mg f fn) (HX : ∀ A, AOk A 0 → CSound prog w base mg X A) : ∀ (n : Nat) (A : Around), AOk A n → CSound prog w base mg (callN P X n) A
  | 0, A, hA => ⟨fun f ds d fr h => (by simp only [callN] at h; exact nomatch h), (HX A hA).glob⟩
  | n + 1, A, hA => by
    have hA0 : AOk A 0 := ⟨hA.handled, by have := hA.depth; omega, by have := hA.units; omega⟩
    refine ⟨fun f ds d fr h => ?_, (HX A hA0).glob⟩
    simp only [callN] at h
    split at h
    · exact (HX A hA0).call f ds d fr h
    · rename_i fn hfn
      split at h
      · rename_i hl
        have C : ∀ env, CSound prog w base mg (callN P X n) (A.deeper env) := fun env => callN_sound G HF HX n (A.deeper env) ⟨hA.handled, by
          have := hA.depth
          show A.depth + 1 + n + 20 < recursionLimit
          omega, by
          have := hA.units
          show A.units + 3 + 3 * n + 100 < cLine
          omega⟩
        have hd : A.depth < recursionLimit := by have := hA.depth; omega
        have hu : A.units + 3 < cLine := by have := hA.units; omega
        split at h
        · rename_i fr' d' σ hev
          cases h
          exact call_fn G hA.handled hd hu C (HF f fn hfn) hl hev (.inl ⟨σ, rfl⟩)
        · rename_i σ hev
          cases h
          exact call_fn G hA.handled hd hu C (HF f fn hfn) hl hev (.inr ⟨σ, rfl, rfl, rfl⟩)
        · cases h
      · cases h
end
end Mine

namespace Mine
open PySem PySem.SeqAt PySem.W PyProof.Rows

noncomputable def chkFn (d : DefRec) (fn : Fn) : Bool :=
  d.params.posonlyargs.isEmpty && d.params.kwonlyargs.isEmpty && d.params.vararg.isNone && d.params.kwarg.isNone && d.params.args.map (·.arg) == fn.params.map Str.ofString && decide fn.params.Nodup &&
  d.scope.kind == .function && !d.scope.isCoroutine && !d.scope.isGenerator && decide (d.scope.names.map (·.1)).Nodup && d.scope.names.all (fun p => p.2 != .free) &&
  fn.params.all (fun x => d.scope.names.lookup (Str.ofString x) == some .local || d.scope.names.lookup (Str.ofString x) == some .cell) && chkSs (fun x => d.scope.names.lookup x) d.body fn.body
noncomputable def chkProg (recs : List DefRec) (P : List (String × Fn)) : Bool := P.all fun q => match recs.find? (fun d => d.name == Str.ofString q.1) with
  | some d => chkFn d q.2
  | none => false
noncomputable def bltFree (p : Program) (loose : List Str) : Bool := bltNames.all fun f => !startupNames.contains (Str.ofString f) && !loose.contains (Str.ofString f) && !((recsOf p).map (·.name)).contains (Str.ofString f) && !((litsOf p).map (·.1)).contains (Str.ofString f) && !((clssOf p loose).map (·.name)).contains (Str.ofString f)

theorem mem_of_lookupS {α : Type} : ∀ {l : List (String × α)} {x : String} {c : α}, l.lookup x = some c → (x, c) ∈ l
  | (y, d) :: r, x, c, h => by
    rw [List.lookup_cons] at h
    by_cases e : x = y
    · subst e
      simp only [beq_self_eq_true] at h
      cases h
      exact .head _
    · have hb : (x == y) = false := by simpa using e
      rw [hb] at h
      exact .tail _ (mem_of_lookupS h)

theorem fnOk_of {p : Program} {loose : List Str} {mean : ExcName → Option Value} {mg mb : Str → Option Value} {h : Heap} (T : Top p loose mean mg mb h) {P : List (String × Fn)} (hP : chkProg (recsOf p) P = true) {f : String} {fn : Fn} (hf : P.lookup f = some fn) : FnOk h mg f fn := by
  unfold chkProg at hP
  have := List.all_eq_true.mp hP _ (mem_of_lookupS hf)
  dsimp only at this
  cases hd : (recsOf p).find? (fun d => d.name == Str.ofString f) with
  | none => rw [hd] at this; cases this
  | some d =>
    rw [hd] at this
    have hn : d.name = Str.ofString f := by simpa using List.find?_some hd
    obtain ⟨a, o, pm, code, doc, h1, h2, h3, h4⟩ := T.fn d (List.mem_of_find?_eq_some hd)
    simp only [chkFn, Bool.and_eq_true, decide_eq_true_eq, beq_iff_eq, List.isEmpty_iff, Option.isNone_iff_eq_none, Bool.not_eq_true', List.all_eq_true, bne_iff_ne, Bool.or_eq_true] at this
    obtain ⟨⟨⟨⟨⟨⟨⟨⟨⟨⟨⟨⟨c1, c2⟩, c3⟩, c4⟩, c5⟩, c6⟩, c7⟩, c8⟩, c9⟩, c10⟩, c11⟩, c12⟩, c13⟩ := this
    exact ⟨a, o, _, d.body, hn ▸ h1, h2, h3, rfl, rfl, rfl, rfl, h4, c1, c2, c3, c4, rfl, c5, c6, c7, c8, c9, c10, c11, c12, c13⟩

theorem gOk_of {p : Program} {loose : List Str} {mean : ExcName → Option Value} {mg mb : Str → Option Value} {h : Heap} (T : Top p loose mean mg mb h) (hB : bltFree p loose = true) : GOk mg mb h := by
  refine ⟨T.g, T.b, T.nolimit, fun f hf => ⟨?_, ?_⟩⟩
  · have := List.all_eq_true.mp hB f hf
    simp only [Bool.and_eq_true, Bool.not_eq_true', List.contains_eq_mem, decide_eq_false_iff_not] at this
    obtain ⟨⟨⟨⟨c1, c2⟩, c3⟩, c4⟩, c5⟩ := this
    exact T.free _ c1 c2 c3 c4 c5
  · rw [T.builtins]
    · have : (bltNames.all fun f => bootBuiltins (Str.ofString f) == some (bltVal f)) = true := by decide +kernel
      simpa using List.all_eq_true.mp this f hf
    · have : (bltNames.all fun f => Str.ofString f != Str.ofString "__name__") = true := by decide +kernel
      simpa using List.all_eq_true.mp this f hf

theorem wellInts {P : Params} {h : Heap} {H : Addr → Prop} : ∀ {vs : List Value} {ns : List Int}, WellAll P h vs (ofPys (ns.map PyData.int)) → RepAll P h H vs (ns.map .int)
  | vs, [], hw => by cases hw; exact .nil
  | vs, n :: ns, hw => by
    cases hw with
    | cons h1 h2 =>
      cases h1
      exact .cons (.int _ _) (wellInts h2)

theorem law_fin {l : OpenLaw} {w : World} {s₀ s₁ : Shared} {mg mb : Str → Option Value} {p : Program} {loose : List Str} {mean mean' : ExcName → Option Value} {P : List (String × Fn)} {X : CF} (N : Nat) (T : Top p loose mean mg mb s₁.heap)
    (hP : chkProg (recsOf p) P = true) (hB : bltFree p loose = true) (hN : N ≤ 600) (HX : ∀ A, AOk A 0 → CSound l.prog w s₁.heap mg X A)
    {fa a : Addr} {ns : List Int} (hmg : mg (Str.ofString "law") = some (.ref fa)) (hg : s₁.gens = #[]) (hw : Well w.params s₁.heap (.ref a) (ofPy (PyData.list (ns.map PyData.int)))) (hlen : ¬ ((63 : Nat) : Int) < (ns.length : Int))
    (hpure : ∃ fr, (callN P X N).call "law" [.list (ns.map .int)] = some (.bool true, fr)) :
    wpAny (model l.row.toRowW.prog w) callerA (call (.ref fa) [.ref a]) (fun v s' => GoodWG l.row.toRowW.claim (classAt s₀.heap) mean' [ofPy (PyData.list (ns.map PyData.int))] s₁ (.ok (.ret v)) s')
      (fun e s' => GoodWG l.row.toRowW.claim (classAt s₀.heap) mean' [ofPy (PyData.list (ns.map PyData.int))] s₁ (.error e) s') s₁ := by
  obtain ⟨fr, hp⟩ := hpure
  have G := gOk_of T hB
  have hA : AOk callerA N := ⟨rfl, by
    show 1 + claimMargin + N + 20 < recursionLimit
    have e1 : claimMargin = 300 := rfl
    have e2 : recursionLimit = 1000 := rfl
    omega, by
    show 4 + 3 * N + 100 < cLine
    have e2 : cLine = 9900 := rfl
    omega⟩
  have C := callN_sound (prog := l.prog) (w := w) G (fun f fn hf => fnOk_of T hP hf) HX N callerA hA
  obtain ⟨a', o, fd, h1, h2, h3, h4⟩ := C.call "law" _ _ fr hp
  rw [hmg] at h1
  cases h1
  have hrep : Rep w.params s₁.heap (fun _ => False) (.ref a) (.list (ns.map .int)) := by
    cases hw with
    | list ho hr =>
      refine .list ho (fun q => q) ?_ (wellInts (by simpa using hr))
      simp only [List.length_map]
      have : ns.length ≤ 63 := by omega
      exact Nat.le_trans this (by decide)
  refine wpAny_mono (h4 s₁ (fun _ => False) [.ref a] _ ⟨fun _ _ e => e, fun _ q => q.elim, fun _ _ _ q => q⟩ (.cons hrep .nil)) (fun v s' q => ?_) fun _ _ e => e
  obtain ⟨⟨h', tk, rfl, hk⟩, rv, _⟩ := q
  cases rv
  exact GoodW.toG ⟨.inl ⟨.bool true, .bool true, [], rfl, fun _ => rfl, .bool true, postW_of (r := l.row.toRowW) rfl (w_eq_bool (w_res rfl) w_lit) rfl, fun _ => ⟨.nil, fun _ h => nomatch h⟩⟩, hk, rfl, hg⟩
end Mine

namespace Mine
open PySem
noncomputable def fin (r : Option (Fl × St)) : Option (D × Bool) := match r with
  | some (.ret fr d, _) => some (d, fr)
  | some (.next, _) => some (.none, false)
  | _ => none
theorem call_eq {P : List (String × Fn)} {X : CF} {f : String} {fn : Fn} (n : Nat) (args : List D) (h : P.lookup f = some fn) (hl : args.length = fn.params.length) :
    (callN P X (n + 1)).call f args = fin (exSs (callN P X n) fn.body ((fn.params.zip args).map fun p => (p.1, (false, p.2)))) := by
  simp only [callN, h, hl, if_true, fin]
  all_goals (split <;> rename_i q <;> simp [q])
theorem call_x {P : List (String × Fn)} {X : CF} {f : String} (n : Nat) (args : List D) (h : P.lookup f = none) :
    (callN P X (n + 1)).call f args = X.call f args := by simp only [callN, h]
theorem glob_x (P : List (String × Fn)) (X : CF) (n : Nat) (x : String) : (callN P X n).glob x = X.glob x := by cases n <;> rfl

noncomputable def thenS (r : Option (Fl × St)) (k : St → Option (Fl × St)) : Option (Fl × St) := match r with
  | some (.next, σ) => k σ
  | x => x
theorem thenS_next (σ : St) (k) : thenS (some (.next, σ)) k = k σ := rfl
theorem thenS_ret (fr d) (σ : St) (k) : thenS (some (.ret fr d, σ)) k = some (.ret fr d, σ) := rfl
theorem thenS_cont (σ : St) (k) : thenS (some (.cont, σ)) k = some (.cont, σ) := rfl
theorem x_nil (cf : CF) (σ : St) : exSs cf [] σ = some (.next, σ) := by simp [exSs]
theorem x_cons (cf : CF) (s : MS) (r : List MS) (σ : St) : exSs cf (s :: r) σ = thenS (exS cf s σ) (exSs cf r) := by
  simp only [exSs, thenS]
  all_goals (split <;> rename_i q <;> simp_all)
theorem x_app (cf : CF) (a b : List MS) (σ : St) : exSs cf (a ++ b) σ = thenS (exSs cf a σ) (exSs cf b) := by
  induction a generalizing σ with
  | nil => simp [x_nil, thenS]
  | cons s a ih =>
    rw [List.cons_append, x_cons, x_cons]
    generalize exS cf s σ = z
    unfold thenS
    cases z with
    | none => rfl
    | some p =>
      obtain ⟨fl, σ'⟩ := p
      cases fl <;> simp [ih, thenS]
theorem x_assign (cf : CF) (x : String) (e : ME) (r : List MS) (σ : St) : exSs cf (.assign x e :: r) σ = (match evF cf (vis σ) e with
    | some (d, fr) => exSs cf r (setv (settle d e.names σ) x (fr, d))
    | none => none) := by
  rw [x_cons]
  simp only [exS]
  split <;> simp_all [thenS]
theorem x_append (cf : CF) (x : String) (e : ME) (r : List MS) (σ : St) : exSs cf (.append x e :: r) σ = (match evE cf (vis σ) e with
    | some d => (match (settle d e.names σ).lookup x with
      | some (true, .list ds) => if ds.length < big then exSs cf r (setv (settle d e.names σ) x (true, .list (ds ++ [d]))) else none
      | _ => none)
    | none => none) := by
  rw [x_cons]
  simp only [exS]
  split
  · rename_i q
    try simp only [q]
    split
    · rename_i q2
      try simp only [q2]
      split <;> rename_i q3
      · simp [thenS]
      · first | rfl | simp [thenS] | simp [thenS, q3]
    · rename_i q2
      first
      | rfl
      | (split
         · rename_i q3; exact absurd q3 (q2 _)
         · rfl)
  · rename_i q
    first | rfl | simp only [q, thenS]
theorem x_expr (cf : CF) (e : ME) (r : List MS) (σ : St) : exSs cf (.expr e :: r) σ = (match evE cf (vis σ) e with
    | some d => if d.scalar then exSs cf r σ else none
    | none => none) := by
  rw [x_cons]
  simp only [exS]
  split
  · split <;> simp_all [thenS]
  · simp_all [thenS]
theorem x_ite (cf : CF) (c : ME) (t f : List MS) (r : List MS) (σ : St) : exSs cf (.ite c t f :: r) σ = (match evE cf (vis σ) c with
    | some d => (match truth d with
      | some true => exSs cf (t ++ r) σ
      | some false => exSs cf (f ++ r) σ
      | none => none)
    | none => none) := by
  rw [x_cons]
  simp only [exS]
  split
  · split <;> simp_all [thenS, x_app]
  · simp_all [thenS]
noncomputable def bodyF (cf : CF) (body : List MS) (x : String) : D → St → Option (Fl × St) := fun it σ => exSs cf body (setv σ x (false, it))
noncomputable def loopS (r : Option (Fl × St)) (k : St → Option (Fl × St)) : Option (Fl × St) := match r with
  | some (.next, σ) | some (.cont, σ) => k σ
  | x => x
theorem loopS_next (σ : St) (k) : loopS (some (.next, σ)) k = k σ := rfl
theorem loopS_ret (fr d) (σ : St) (k) : loopS (some (.ret fr d, σ)) k = some (.ret fr d, σ) := rfl
theorem loopS_cont (σ : St) (k) : loopS (some (.cont, σ)) k = k σ := rfl
theorem forB_nil (cf : CF) (body : List MS) (x : String) (σ : St) : forD (bodyF cf body x) [] σ = some (.next, σ) := rfl
theorem forB_cons (cf : CF) (body : List MS) (x : String) (it : D) (r : List D) (σ : St) : forD (bodyF cf body x) (it :: r) σ = loopS (exSs cf body (setv σ x (false, it))) (forD (bodyF cf body x) r) := by
  show (match exSs cf body (setv σ x (false, it)) with
    | some (.next, σ') | some (.cont, σ') => forD (bodyF cf body x) r σ'
    | x => x) = _
  generalize exSs cf body (setv σ x (false, it)) = z
  unfold loopS
  split <;> rfl
theorem x_for (cf : CF) (x : String) (src : ME) (body : List MS) (r : List MS) (σ : St) : exSs cf (.for_ x src body :: r) σ = (match evE cf (vis σ) src with
    | some d => (match d.items with
      | some its => thenS (forD (bodyF cf body x) its (freeze src.names σ)) (exSs cf r)
      | none => none)
    | none => none) := by
  rw [x_cons]
  simp only [exS]
  split
  · split
    · rename_i q1 _ _ q2
      try simp only [q1, q2]
      rfl
    · rename_i q1 _ q2
      try simp only [q1, q2]
      rfl
  · first | rfl | simp_all [thenS]
theorem x_while (cf : CF) (c : ME) (body : List MS) (r : List MS) (σ : St) : exSs cf (.while_ c body :: r) σ = thenS (whileD (fun σ => match evE cf (vis σ) c with | some d => truth d | none => none) (fun σ => exSs cf body σ) wlim σ) (exSs cf r) := by
  rw [x_cons]
  simp only [exS]
  all_goals rfl
theorem x_cont (cf : CF) (r : List MS) (σ : St) : exSs cf (.cont :: r) σ = some (.cont, σ) := by
  rw [x_cons]; simp [exS, thenS]
theorem x_ret (cf : CF) (e : ME) (r : List MS) (σ : St) : exSs cf (.ret e :: r) σ = (match (match e with
    | .var x => (match σ.lookup x with | some (fr, d) => some (d, fr) | none => none)
    | e => evF cf (vis σ) e) with
    | some (d, fr) => some (.ret fr d, σ)
    | none => none) := by
  rw [x_cons]
  cases e <;> simp only [exS]
  all_goals (split <;> rename_i q <;> first | rfl | simp only [q, thenS])
/-- a loop that keeps a state of one kind -/
theorem forD_inv (f : D → St → Option (Fl × St)) (I : List D → List D → St → Prop) : ∀ (its pre : List D) (σ : St), I pre its σ →
    (∀ pre it r σ, I pre (it :: r) σ → ∃ σ', (f it σ = some (.next, σ') ∨ f it σ = some (.cont, σ')) ∧ I (pre ++ [it]) r σ') →
    ∃ σ', forD f its σ = some (.next, σ') ∧ I (pre ++ its) [] σ'
  | [], pre, σ, h, _ => ⟨σ, rfl, by simpa using h⟩
  | it :: r, pre, σ, h, hs => by
    obtain ⟨σ', q, h'⟩ := hs pre it r σ h
    obtain ⟨σ'', q', h''⟩ := forD_inv f I r (pre ++ [it]) σ' h' hs
    refine ⟨σ'', ?_, by simpa using h''⟩
    rcases q with q | q <;> simp [forD, q, q']
end Mine

namespace Mine
open PySem
section
variable (cf : CF) (ρ : List (String × D))
theorem e_var (x : String) : evE cf ρ (.var x) = ρ.lookup x := by rw [evE]
theorem e_glob (x : String) : evE cf ρ (.glob x) = cf.glob x := by rw [evE]
theorem e_int (i : Int) : evE cf ρ (.int i) = some (.int i) := by rw [evE]
theorem e_str (i : String) : evE cf ρ (.str i) = some (.str (Str.ofString i)) := by rw [evE]
theorem e_bool (i : Bool) : evE cf ρ (.bool i) = some (.bool i) := by rw [evE]
theorem e_none : evE cf ρ .none = some .none := by rw [evE]
noncomputable def o2 (f : D → D → Option D) (a b : Option D) : Option D := match a with
  | some x => (match b with | some y => f x y | none => none)
  | none => none
theorem o2_some (f : D → D → Option D) (a b : D) : o2 f (some a) (some b) = f a b := rfl
theorem e_bin (op : Operator) (a b : ME) : evE cf ρ (.bin op a b) = o2 (binD op) (evE cf ρ a) (evE cf ρ b) := by rw [evE]; rfl
theorem e_cmp (op : CmpOp) (a b : ME) : evE cf ρ (.cmp op a b) = o2 (cmpD op) (evE cf ρ a) (evE cf ρ b) := by rw [evE]; rfl
theorem e_sub (a b : ME) : evE cf ρ (.sub a b) = o2 subD (evE cf ρ a) (evE cf ρ b) := by rw [evE]; rfl
theorem e_bop (op : BoolOp) (es : List ME) : evE cf ρ (.bop op es) = evBop cf ρ op es := by rw [evE]
noncomputable def o1 (f : D → Option D) (a : Option D) : Option D := match a with
  | some x => f x
  | none => none
theorem o1_some (f : D → Option D) (a : D) : o1 f (some a) = f a := rfl
theorem e_not (a : ME) : evE cf ρ (.not a) = o1 (fun x => (truth x).map fun t => .bool (!t)) (evE cf ρ a) := by rw [evE]; rfl
noncomputable def negD : D → Option D
  | .int i => some (.int (-i))
  | _ => none
theorem e_neg (a : ME) : evE cf ρ (.neg a) = o1 negD (evE cf ρ a) := by
  rw [evE]
  generalize evE cf ρ a = z
  cases z with
  | none => rfl
  | some d => cases d <;> rfl
noncomputable def oL (f : List D → Option D) (a : Option (List D)) : Option D := match a with
  | some x => f x
  | none => none
theorem oL_some (f : List D → Option D) (a : List D) : oL f (some a) = f a := rfl
theorem e_tup (es : List ME) : evE cf ρ (.tup es) = oL (fun ds => if ds.length ≤ big then some (.tup ds) else none) (evEs cf ρ es) := by rw [evE]; rfl
theorem e_lst (es : List ME) : evE cf ρ (.lst es) = oL (fun ds => if ds.length ≤ big then some (.list ds) else none) (evEs cf ρ es) := by rw [evE]; rfl
theorem e_blt (f : String) (es : List ME) : evE cf ρ (.blt f es) = oL (bltD f) (evEs cf ρ es) := by rw [evE]; rfl
theorem e_call (f : String) (es : List ME) : evE cf ρ (.call f es) = oL (fun ds => (cf.call f ds).map (·.1)) (evEs cf ρ es) := by rw [evE]; rfl
theorem e_isi (a : ME) (T : String) : evE cf ρ (.isi a T) = o1 (fun x => (isiD x T).map .bool) (evE cf ρ a) := by rw [evE]; rfl
theorem e_sl (a l h : ME) : evE cf ρ (.sl a l h) = o1 (fun x => o2 (slD x) (evE cf ρ l) (evE cf ρ h)) (evE cf ρ a) := by rw [evE]; rfl
noncomputable def compF (elt : ME) (x : String) (cs : List ME) : D → Option (Option D) := fun it => match evCs cf ((x, it) :: ρ) cs with
  | some true => (match evE cf ((x, it) :: ρ) elt with | some y => some (some y) | none => none)
  | some false => some none
  | none => none
theorem e_comp (elt : ME) (x : String) (src : ME) (cs : List ME) : evE cf ρ (.comp elt x src cs) = o1 (fun d => (match d.items with
      | some its => if its.length ≤ big then (compM (compF cf ρ elt x cs) its).map .list else none
      | none => none)) (evE cf ρ src) := by rw [evE]; rfl
theorem es_nil : evEs cf ρ [] = some [] := by rw [evEs]
noncomputable def oC (a : Option D) (b : Option (List D)) : Option (List D) := match a with
  | some d => (match b with | some ds => some (d :: ds) | none => none)
  | none => none
theorem oC_some (a : D) (b : List D) : oC (some a) (some b) = some (a :: b) := rfl
theorem es_cons (e : ME) (r : List ME) : evEs cf ρ (e :: r) = oC (evE cf ρ e) (evEs cf ρ r) := by rw [evEs]; rfl
theorem b_one (op : BoolOp) (e : ME) : evBop cf ρ op [e] = evE cf ρ e := by rw [evBop]
noncomputable def oB (s : Bool) (r : Option D) (a : Option D) : Option D := match a with
  | some d => (match truth d with
    | some t => if t = s then some d else r
    | none => none)
  | none => none
theorem oB_bool (s : Bool) (r : Option D) (t : Bool) : oB s r (some (.bool t)) = if t = s then some (.bool s) else r := by
  unfold oB truth
  by_cases h : t = s
  · subst h; rfl
  · simp [h]
theorem b_and (e e2 : ME) (r : List ME) : evBop cf ρ .And (e :: e2 :: r) = oB false (evBop cf ρ .And (e2 :: r)) (evE cf ρ e) := by rw [evBop]; rfl; simp
theorem b_or (e e2 : ME) (r : List ME) : evBop cf ρ .Or (e :: e2 :: r) = oB true (evBop cf ρ .Or (e2 :: r)) (evE cf ρ e) := by rw [evBop]; rfl; simp
theorem c_nil : evCs cf ρ [] = some true := by rw [evCs]
noncomputable def oI (k k' : Option (Fl × St)) (a : Option D) : Option (Fl × St) := match a with
  | some d => (match truth d with
    | some t => if t = true then k else k'
    | none => none)
  | none => none
theorem oI_bool (k k' : Option (Fl × St)) (t : Bool) : oI k k' (some (.bool t)) = if t = true then k else k' := rfl
theorem x_if (c : ME) (t f r : List MS) (σ : St) : exSs cf (.ite c t f :: r) σ = oI (exSs cf (t ++ r) σ) (exSs cf (f ++ r) σ) (evE cf (vis σ) c) := by
  rw [x_ite]
  unfold oI
  cases evE cf (vis σ) c with
  | none => rfl
  | some d =>
    show (match truth d with | some true => _ | some false => _ | none => _) = _
    cases h : truth d with
    | none => simp [h]
    | some b => cases b <;> simp [h]
end
theorem compM_ok (f : D → Option (Option D)) (Q : D → D → Prop) : ∀ (its : List D), (∀ it ∈ its, ∃ d, Q it d ∧ f it = some (some d)) → ∃ ds, compM f its = some ds ∧ ds.length = its.length ∧ ∀ d ∈ ds, ∃ it ∈ its, Q it d
  | [], _ => ⟨[], rfl, rfl, fun _ h => nomatch h⟩
  | it :: r, h => by
    obtain ⟨d, q, e⟩ := h it (by simp)
    obtain ⟨ds, e2, hl, hq⟩ := compM_ok f Q r fun i hi => h i (by simp [hi])
    refine ⟨d :: ds, by simp [compM, e, e2], by simp [hl], ?_⟩
    intro d' hd
    rcases List.mem_cons.mp hd with rfl | hd
    · exact ⟨it, by simp, q⟩
    · obtain ⟨i, hi, q'⟩ := hq d' hd
      exact ⟨i, by simp [hi], q'⟩
theorem compM_map (f : D → Option (Option D)) (g : D → D) : ∀ (its : List D), (∀ it ∈ its, f it = some (some (g it))) → compM f its = some (its.map g)
  | [], _ => rfl
  | it :: r, h => by simp [compM, h it (by simp), compM_map f g r fun i hi => h i (by simp [hi])]
theorem compF_nil {cf : CF} {ρ : List (String × D)} {elt : ME} {x : String} {it d : D} (h : evE cf ((x, it) :: ρ) elt = some d) : compF cf ρ elt x [] it = some (some d) := by
  unfold compF; simp [c_nil, h]
theorem items_rng (n : Nat) : D.items (.rng 0 n) = some ((List.range n).map fun (i : Nat) => D.int (i : Int)) := by
  simp [D.items]
end Mine

namespace Mine
open PySem
set_option maxRecDepth 100000
set_option maxHeartbeats 4000000
noncomputable def X0 : CF := ⟨fun _ _ => none, fun _ => none⟩
noncomputable def fn_before : Fn := ⟨["one", "other"], [
    .ite (.cmp .NotEq (.isi (.var "one") "str") (.isi (.var "other") "str")) [.ret (.isi (.var "other") "str")] [],
    .ret (.cmp .Lt (.var "one") (.var "other"))]⟩
noncomputable def fn_alike : Fn := ⟨["one", "other"], [
    .ret (.bop .And [.cmp .Eq (.isi (.var "one") "str") (.isi (.var "other") "str"), .cmp .Eq (.var "one") (.var "other")])]⟩
noncomputable def fn_law_before : Fn := ⟨["_law_one", "_law_other"], [
    .ite (.bop .And [.isi (.var "_law_one") "str", .isi (.var "_law_other") "str"]) [.ret (.cmp .Lt (.var "_law_one") (.var "_law_other"))] [],
    .ite (.bop .Or [.isi (.var "_law_one") "str", .isi (.var "_law_other") "str"]) [.ret (.isi (.var "_law_other") "str")] [],
    .ret (.cmp .Lt (.var "_law_one") (.var "_law_other"))]⟩
noncomputable def fn_law_alike : Fn := ⟨["_law_one", "_law_other"], [
    .ite (.bop .Or [.isi (.var "_law_one") "str", .isi (.var "_law_other") "str"]) [.ret (.bop .And [.isi (.var "_law_one") "str", .isi (.var "_law_other") "str", .cmp .Eq (.var "_law_one") (.var "_law_other")])] [],
    .ret (.cmp .Eq (.var "_law_one") (.var "_law_other"))]⟩
noncomputable def fn_law_sign_by : Fn := ⟨["_law_cell"], [
    .assign "_law_some" (.str " !\"#$&'()*+,-./0123456789:;<=>?@ABCDEFGHIJKLMNOPQRSTUVWXYZ[\\]^_`"),
    .assign "_law_some" (.bin .Add (.var "_law_some") (.str "abcdefghijklmnopqrstuvwxyz{|}~")),
    .ret (.sub (.var "_law_some") (.bin .Mod (.var "_law_cell") (.int 94)))]⟩
noncomputable def fn_law_cell_at : Fn := ⟨["_law_script", "_law_k"], [
    .ite (.cmp .Lt (.var "_law_k") (.blt "len" [.var "_law_script"])) [.ret (.sub (.var "_law_script") (.var "_law_k"))] [],
    .ret (.int 0)]⟩
noncomputable def fn_law_thing_by : Fn := ⟨["_law_cell"], [
    .assign "_law_way" (.bin .Mod (.var "_law_cell") (.int 9)),
    .assign "_law_rest" (.bin .FloorDiv (.var "_law_cell") (.int 9)),
    .ite (.cmp .Lt (.var "_law_way") (.int 4)) [.ret (.bin .Sub (.bin .Mod (.var "_law_rest") (.int 4)) (.int 1))] [],
    .ite (.cmp .Eq (.var "_law_way") (.int 4)) [.ret (.bin .Sub (.bin .Mod (.var "_law_rest") (.int 2000001)) (.int 1000000))] [],
    .ite (.cmp .Eq (.var "_law_way") (.int 5)) [.ret (.sub (.lst [.str "a", .str "b", .str "1", .str "0", .str "-1", .str "col", .str "is", .str "count"]) (.bin .Mod (.var "_law_rest") (.int 8)))] [],
    .ite (.cmp .Eq (.var "_law_way") (.int 6)) [.ret (.bin .Mult (.call "_law_sign_by" [.var "_law_rest"]) (.bin .Mod (.bin .FloorDiv (.var "_law_rest") (.int 94)) (.int 100)))] [],
    .ite (.cmp .Eq (.var "_law_way") (.int 7)) [.ret (.bin .Add (.bin .Sub (.bin .Mod (.bin .Pow (.bin .Add (.bin .Mod (.var "_law_rest") (.bin .Pow (.int 10) (.int 60))) (.int 3)) (.int 9)) (.bin .Sub (.bin .Mult (.int 2) (.bin .Pow (.int 10) (.int 60))) (.int 1))) (.bin .Pow (.int 10) (.int 60))) (.int 1))] [],
    .assign "_law_word" (.sl (.str "any word") .none (.bin .Mod (.var "_law_rest") (.int 9))),
    .assign "_law_at" (.bin .Mod (.bin .FloorDiv (.var "_law_rest") (.int 9)) (.bin .Add (.blt "len" [.var "_law_word"]) (.int 1))),
    .ret (.bin .Add (.bin .Add (.sl (.var "_law_word") .none (.var "_law_at")) (.call "_law_sign_by" [.bin .FloorDiv (.var "_law_rest") (.int 81)])) (.sl (.var "_law_word") (.var "_law_at") .none))]⟩
noncomputable def fn_law_mixed : Fn := ⟨["_law_cell", "_law_k"], [
    .ret (.bin .Mod (.bin .Pow (.bin .Mod (.bin .Add (.bin .Mult (.var "_law_cell") (.int 48271)) (.bin .Mult (.bin .Add (.var "_law_k") (.int 1)) (.int 1299721))) (.int 2147483647)) (.int 5)) (.int 2147483647))]⟩
noncomputable def fn_law_one_by : Fn := ⟨["_law_cell", "_law_many_here"], [
    .assign "_law_word" (.sub (.lst [.str "same", .str "unlike", .str "before", .str "upto", .str "behind", .str "from", .str "unlike", .str "upto", .str "from"]) (.bin .Mod (.var "_law_cell") (.int 9))),
    .assign "_law_place" (.bin .Mod (.bin .FloorDiv (.var "_law_cell") (.int 9)) (.var "_law_many_here")),
    .assign "_law_rest" (.bin .FloorDiv (.bin .FloorDiv (.var "_law_cell") (.int 9)) (.var "_law_many_here")),
    .ite (.cmp .Eq (.bin .Mod (.var "_law_rest") (.int 2)) (.int 0)) [.ret (.tup [.var "_law_word", .var "_law_place", .str "col", .bin .Mod (.bin .FloorDiv (.var "_law_rest") (.int 2)) (.var "_law_many_here")])] [],
    .ret (.tup [.var "_law_word", .var "_law_place", .str "is", .call "_law_thing_by" [.bin .FloorDiv (.var "_law_rest") (.int 2)]])]⟩
noncomputable def fn_law_clause_by : Fn := ⟨["_law_cell", "_law_many_here"], [
    .ite (.bop .Or [.cmp .Eq (.var "_law_many_here") (.int 0), .cmp .Eq (.bin .Mod (.var "_law_cell") (.int 32)) (.int 15)]) [.ret (.tup [])] [],
    .ite (.cmp .Eq (.bin .Mod (.var "_law_cell") (.int 16)) (.int 14)) [.ret (.tup [.tup [.str "same", .bin .Sub (.var "_law_many_here") (.int 1), .str "col", .int 0]])] [],
    .ite (.cmp .Eq (.bin .Mod (.var "_law_cell") (.int 16)) (.int 13)) [.ret (.tup [.tup [.str "same", .int 0, .str "col", .bin .Sub (.var "_law_many_here") (.int 1)]])] [],
    .assign "_law_count" (.bin .Add (.int 1) (.bin .Mod (.bin .FloorDiv (.var "_law_cell") (.int 16)) (.int 2))),
    .ite (.cmp .Eq (.bin .Mod (.bin .FloorDiv (.var "_law_cell") (.int 32)) (.int 11)) (.int 1)) [.assign "_law_count" (.bin .Mod (.bin .FloorDiv (.var "_law_cell") (.int 352)) (.int 13))] [],
    .ret (.blt "tuple" [.comp (.call "_law_one_by" [.call "_law_mixed" [.var "_law_cell", .bin .Add (.int 40) (.var "_law_k")], .var "_law_many_here"]) "_law_k" (.blt "range" [.var "_law_count"]) []])]⟩
noncomputable def fn_does : Fn := ⟨["test", "row"], [
    .assign "one" (.sub (.var "row") (.sub (.var "test") (.int 1))),
    .assign "other" (.sub (.var "test") (.int 3)),
    .ite (.cmp .Eq (.sub (.var "test") (.int 2)) (.str "col")) [.assign "other" (.sub (.var "row") (.sub (.var "test") (.int 3)))] [],
    .assign "word" (.sub (.var "test") (.int 0)),
    .ite (.cmp .Eq (.var "word") (.str "same")) [.ret (.call "alike" [.var "one", .var "other"])] [],
    .ite (.cmp .Eq (.var "word") (.str "unlike")) [.ret (.not (.call "alike" [.var "one", .var "other"]))] [],
    .ite (.cmp .Eq (.var "word") (.str "before")) [.ret (.call "before" [.var "one", .var "other"])] [],
    .ite (.cmp .Eq (.var "word") (.str "upto")) [.ret (.bop .Or [.call "before" [.var "one", .var "other"], .call "alike" [.var "one", .var "other"]])] [],
    .ite (.cmp .Eq (.var "word") (.str "behind")) [.ret (.call "before" [.var "other", .var "one"])] [],
    .ret (.bop .Or [.call "before" [.var "other", .var "one"], .call "alike" [.var "one", .var "other"]])]⟩
noncomputable def fn_holds : Fn := ⟨["clause", "row"], [
    .for_ "test" (.var "clause") [.ite (.call "does" [.var "test", .var "row"]) [.ret (.bool true)] []],
    .ret (.bool false)]⟩
noncomputable def fn_law_stands : Fn := ⟨["_law_word", "_law_one", "_law_other"], [
    .ite (.bop .Or [.cmp .Eq (.var "_law_word") (.str "same"), .cmp .Eq (.var "_law_word") (.str "unlike")]) [.ret (.cmp .Eq (.call "_law_alike" [.var "_law_one", .var "_law_other"]) (.cmp .Eq (.var "_law_word") (.str "same")))] [],
    .ite (.bop .Or [.cmp .Eq (.var "_law_word") (.str "before"), .cmp .Eq (.var "_law_word") (.str "from")]) [.ret (.cmp .Eq (.call "_law_before" [.var "_law_one", .var "_law_other"]) (.cmp .Eq (.var "_law_word") (.str "before")))] [],
    .ret (.cmp .Eq (.call "_law_before" [.var "_law_other", .var "_law_one"]) (.cmp .Eq (.var "_law_word") (.str "behind")))]⟩
noncomputable def fn_law_holds : Fn := ⟨["_law_clause", "_law_row"], [
    .for_ "_law_test" (.var "_law_clause") [.assign "_law_other" (.sub (.var "_law_test") (.int 3)), .ite (.cmp .Eq (.sub (.var "_law_test") (.int 2)) (.str "col")) [.assign "_law_other" (.sub (.var "_law_row") (.sub (.var "_law_test") (.int 3)))] [], .ite (.call "_law_stands" [.sub (.var "_law_test") (.int 0), .sub (.var "_law_row") (.sub (.var "_law_test") (.int 1)), .var "_law_other"]) [.ret (.bool true)] []],
    .ret (.bool false)]⟩
structure BG (P : List (String × Fn)) : Prop where
  sign : P.lookup "_law_sign_by" = some fn_law_sign_by
  cell : P.lookup "_law_cell_at" = some fn_law_cell_at
  thing : P.lookup "_law_thing_by" = some fn_law_thing_by
  mixed : P.lookup "_law_mixed" = some fn_law_mixed
  one : P.lookup "_law_one_by" = some fn_law_one_by
  clause : P.lookup "_law_clause_by" = some fn_law_clause_by
structure BC (P : List (String × Fn)) : Prop where
  alike : P.lookup "alike" = some fn_alike
  before : P.lookup "before" = some fn_before
  lalike : P.lookup "_law_alike" = some fn_law_alike
  lbefore : P.lookup "_law_before" = some fn_law_before
  does : P.lookup "does" = some fn_does
  holds : P.lookup "holds" = some fn_holds
  stands : P.lookup "_law_stands" = some fn_law_stands
  lholds : P.lookup "_law_holds" = some fn_law_holds
local macro_rules | `(tactic| walk_at "ev") => `(tactic| simp [x_assign, x_append, x_expr, x_if, x_ret, x_nil, x_cont, thenS_next, thenS_ret, thenS_cont, e_var, e_int, e_str, e_bool, e_none, e_bin, e_cmp, e_sub, e_bop, e_not, e_neg, e_tup, e_lst, e_blt, e_call, e_isi, e_sl, es_nil, es_cons, b_one, b_and, b_or, o1_some, o2_some, oL_some, oC_some, oB_bool, oI_bool, evF, vis, setv, settle, freeze, D.scalar, fin, List.lookup, binD, subD, isiD, cmpD, eqD, eqS, truth, bltD, slD, ME.names, namesL, *])
local macro_rules | `(tactic| walk_at "evs") => `(tactic| simp [x_assign, x_append, x_expr, x_if, x_ret, x_nil, x_cont, thenS_next, thenS_ret, thenS_cont, e_var, e_int, e_str, e_bool, e_none, e_bin, e_cmp, e_sub, e_bop, e_not, e_neg, e_tup, e_lst, e_blt, e_call, e_isi, e_sl, es_nil, es_cons, b_one, b_and, b_or, o1_some, o2_some, oL_some, oC_some, oB_bool, oI_bool, evF, vis, setv, settle, freeze, D.scalar, fin, List.lookup, binD, isiD, cmpD, eqD, eqS, truth, bltD, ME.names, namesL, *])
noncomputable def signs : Str := Str.ofString " !\"#$&'()*+,-./0123456789:;<=>?@ABCDEFGHIJKLMNOPQRSTUVWXYZ[\\]^_`" ++ Str.ofString "abcdefghijklmnopqrstuvwxyz{|}~"
theorem signs_len : signs.length = 94 := by decide +kernel
theorem sign_by {P : List (String × Fn)} {X : CF} (B : BG P) (n : Nat) (c : Int) : ∃ x : Str, x.length = 1 ∧ (callN P X (n + 1)).call "_law_sign_by" [.int c] = some (.str x, false) := by
  rw [call_eq n _ B.sign rfl]
  have h1 : (Str.ofString " !\"#$&'()*+,-./0123456789:;<=>?@ABCDEFGHIJKLMNOPQRSTUVWXYZ[\\]^_`").length + (Str.ofString "abcdefghijklmnopqrstuvwxyz{|}~").length ≤ big := by decide +kernel
  have h2 : 0 ≤ c % 94 ∧ c % 94 < (signs.length : Int) ∧ signs.length ≤ big := by rw [signs_len]; refine ⟨by omega, by omega, by decide⟩
  unfold signs at h2
  refine ⟨charAt signs (c % 94).toNat, rfl, ?_⟩
  unfold fn_law_sign_by signs
  walk_at "ev"
noncomputable def alikeV (a b : D) : Bool := match a, b with | .int i, .int j => i == j | .str x, .str y => x == y | _, _ => false
noncomputable def beforeV (a b : D) : Bool := match a, b with | .int i, .int j => decide (i < j) | .str x, .str y => decide (x.cps.toList < y.cps.toList) | .int _, _ => true | _, _ => false
theorem alike_eq {P : List (String × Fn)} {X : CF} (B : BC P) (n : Nat) (a b : D) (ha : a.isCell = true) (hb : b.isCell = true) : (callN P X (n + 1)).call "alike" [a, b] = some (.bool (alikeV a b), false) := by
  rw [call_eq n _ B.alike rfl]
  unfold fn_alike
  cases a <;> simp [D.isCell] at ha <;> cases b <;> simp [D.isCell] at hb <;> simp only [alikeV, beforeV] <;> walk_at "ev"
theorem lalike_eq {P : List (String × Fn)} {X : CF} (B : BC P) (n : Nat) (a b : D) (ha : a.isCell = true) (hb : b.isCell = true) : (callN P X (n + 1)).call "_law_alike" [a, b] = some (.bool (alikeV a b), false) := by
  rw [call_eq n _ B.lalike rfl]
  unfold fn_law_alike
  cases a <;> simp [D.isCell] at ha <;> cases b <;> simp [D.isCell] at hb <;> simp only [alikeV, beforeV] <;> walk_at "ev"
theorem before_eq {P : List (String × Fn)} {X : CF} (B : BC P) (n : Nat) (a b : D) (ha : a.isCell = true) (hb : b.isCell = true) : (callN P X (n + 1)).call "before" [a, b] = some (.bool (beforeV a b), false) := by
  rw [call_eq n _ B.before rfl]
  unfold fn_before
  cases a <;> simp [D.isCell] at ha <;> cases b <;> simp [D.isCell] at hb <;> simp only [alikeV, beforeV] <;> walk_at "ev"
theorem lbefore_eq {P : List (String × Fn)} {X : CF} (B : BC P) (n : Nat) (a b : D) (ha : a.isCell = true) (hb : b.isCell = true) : (callN P X (n + 1)).call "_law_before" [a, b] = some (.bool (beforeV a b), false) := by
  rw [call_eq n _ B.lbefore rfl]
  unfold fn_law_before
  cases a <;> simp [D.isCell] at ha <;> cases b <;> simp [D.isCell] at hb <;> simp only [alikeV, beforeV] <;> walk_at "ev"
theorem cell_at {P : List (String × Fn)} {X : CF} (B : BG P) (n : Nat) (ns : List Int) (k : Nat) : ∃ c : Int, (callN P X (n + 1)).call "_law_cell_at" [.list (ns.map .int), .int k] = some (.int c, false) := by
  rw [call_eq n _ B.cell rfl]
  unfold fn_law_cell_at
  by_cases h : k < ns.length
  · refine ⟨ns[k], ?_⟩
    have h1 : (k : Int) < (ns.length : Int) := by omega
    have h2 : idx (k : Int) ns.length = some k := by unfold idx; simp [h1]
    walk_at "ev"
  · refine ⟨0, ?_⟩
    have h1 : ¬ (k : Int) < (ns.length : Int) := by omega
    walk_at "ev"
noncomputable def Good (d : D) : Prop := (∃ i : Int, d = .int i ∧ -(10 ^ 61) < i ∧ i < 10 ^ 61) ∨ ∃ x : Str, d = .str x ∧ x.length ≤ 200
theorem Good.cell {d : D} (h : Good d) : d.isCell = true := by rcases h with ⟨i, rfl, _⟩ | ⟨x, rfl, _⟩ <;> rfl

theorem len_append (x y : Str) : (x ++ y).length = x.length + y.length := by
  show (x.cps ++ y.cps).size = _
  simp [Str.length]
theorem mul_len {x : Str} (hx : x.length = 1) {n : Int} (h0 : 0 ≤ n) (h1 : n ≤ 100) : (Txt.mul x n).length ≤ 100 := by
  unfold Txt.mul
  split
  · decide
  · split
    · omega
    · show ((List.replicate n.toNat x.cps).foldl (· ++ ·) #[]).size ≤ 100
      have : ∀ (k : Nat) (a : Array Nat), ((List.replicate k x.cps).foldl (· ++ ·) a).size = a.size + k := by
        intro k
        induction k with
        | zero => intro a; simp
        | succ k ih =>
          intro a
          rw [List.replicate_succ, List.foldl_cons, ih]
          have : x.cps.size = 1 := hx
          simp; omega
      rw [this]; simp; omega

theorem slD_hi (x : Str) (j : Int) (h : x.length ≤ big) : ∃ W : Str, W.length ≤ x.length ∧ slD (.str x) .none (.int j) = some (.str W) := ⟨_, Txt.slice_le _ _ _, by simp [slD, h]; rfl⟩
theorem slD_lo (x : Str) (j : Int) (h : x.length ≤ big) : ∃ W : Str, W.length ≤ x.length ∧ slD (.str x) (.int j) .none = some (.str W) := ⟨_, Txt.slice_le _ _ _, by simp [slD, h]; rfl⟩

theorem thing_by {P : List (String × Fn)} {X : CF} (B : BG P) (n : Nat) (c : Int) : ∃ d, Good d ∧ (callN P X (n + 2)).call "_law_thing_by" [.int c] = some (d, false) := by
  rw [call_eq (n + 1) _ B.thing rfl]
  unfold fn_law_thing_by
  have e1 : (0 : Int) < 9 ∧ (9 : Int) < lim := by decide
  have hw : 0 ≤ c % 9 ∧ c % 9 < 9 := by omega
  generalize hr : c / 9 = r
  by_cases h4 : c % 9 < 4
  · refine ⟨.int (r % 4 - 1), .inl ⟨_, rfl, by omega, by omega⟩, ?_⟩
    walk_at "ev"
  · by_cases h5 : c % 9 = 4
    · refine ⟨.int (r % 2000001 - 1000000), .inl ⟨_, rfl, by omega, by omega⟩, ?_⟩
      walk_at "ev"
    · by_cases h6 : c % 9 = 5
      · obtain ⟨x, hx, hs⟩ : ∃ x : Str, x.length ≤ 200 ∧ subD (.list [.str (Str.ofString "a"), .str (Str.ofString "b"), .str (Str.ofString "1"), .str (Str.ofString "0"), .str (Str.ofString "-1"), .str (Str.ofString "col"), .str (Str.ofString "is"), .str (Str.ofString "count")]) (.int (r % 8)) = some (.str x) := by
          have h8 : r % 8 = 0 ∨ r % 8 = 1 ∨ r % 8 = 2 ∨ r % 8 = 3 ∨ r % 8 = 4 ∨ r % 8 = 5 ∨ r % 8 = 6 ∨ r % 8 = 7 := by omega
          rcases h8 with h8 | h8 | h8 | h8 | h8 | h8 | h8 | h8 <;> rw [h8] <;> exact ⟨_, by decide +kernel, rfl⟩
        have hb : 8 ≤ big := by decide
        refine ⟨.str x, .inr ⟨_, rfl, hx⟩, ?_⟩
        walk_at "evs"
      · by_cases h7 : c % 9 = 6
        · obtain ⟨x, hx, hs⟩ := sign_by (X := X) B n r
          have e2 : (0 : Int) < 94 ∧ (94 : Int) < lim := by decide
          have e3 : 0 ≤ r / 94 % 100 ∧ r / 94 % 100 ≤ 1000 ∧ x.length ≤ 1000 := by omega
          refine ⟨.str (Txt.mul x (r / 94 % 100)), .inr ⟨_, rfl, Nat.le_trans (mul_len hx (by omega) (by omega)) (by omega)⟩, ?_⟩
          walk_at "ev"
        · by_cases h9 : c % 9 = 7
          · have p10 : -powLim < (10 : Int) ∧ (10 : Int) < powLim := by decide +kernel
            have p60 : ((10 : Int) ^ 60) = 1000000000000000000000000000000000000000000000000000000000000 := by decide +kernel
            have hpos : (0 : Int) < 1000000000000000000000000000000000000000000000000000000000000 := by decide
            have ppow : -powLim < r % 1000000000000000000000000000000000000000000000000000000000000 + 3 ∧ r % 1000000000000000000000000000000000000000000000000000000000000 + 3 < powLim := by
              have h1 : (0 : Int) < powLim := by decide +kernel
              have h2 : (1000000000000000000000000000000000000000000000000000000000000 : Int) + 3 < powLim := by decide +kernel
              generalize powLim = pl at *
              omega
            have hl2 : (-lim < 2 ∧ (2 : Int) < lim) := by decide
            refine ⟨.int ((r % 1000000000000000000000000000000000000000000000000000000000000 + 3) ^ 9 % (2 * 1000000000000000000000000000000000000000000000000000000000000 - 1) - 1000000000000000000000000000000000000000000000000000000000000 + 1), .inl ⟨_, rfl, ?_, ?_⟩, ?_⟩
            · generalize (r % 1000000000000000000000000000000000000000000000000000000000000 + 3) ^ 9 = z
              omega
            · generalize (r % 1000000000000000000000000000000000000000000000000000000000000 + 3) ^ 9 = z
              omega
            · walk_at "ev"
          · obtain ⟨x, hx, hs⟩ := sign_by (X := X) B n (r / 81)
            obtain ⟨W, hW, hsW⟩ := slD_hi (Str.ofString "any word") (r % 9) (by decide +kernel)
            have hW8 : W.length ≤ 8 := Nat.le_trans hW (by decide +kernel)
            have e81 : (0 : Int) < 81 ∧ (81 : Int) < lim := by decide
            have hWb : W.length ≤ big := Nat.le_trans hW8 (by decide)
            have hp : (0 : Int) < (W.length : Int) + 1 := by omega
            obtain ⟨U, hU, hsU⟩ := slD_hi W (r / 9 % ((W.length : Int) + 1)) hWb
            obtain ⟨V, hV, hsV⟩ := slD_lo W (r / 9 % ((W.length : Int) + 1)) hWb
            have hb1 : U.length + x.length ≤ big := by unfold big; omega
            have hb2 : (U ++ x).length + V.length ≤ big := by rw [len_append]; unfold big; omega
            refine ⟨.str (U ++ x ++ V), .inr ⟨_, rfl, by rw [len_append, len_append]; omega⟩, ?_⟩
            clear hx
            have b4 : (c % 9 == 4) = false := by simpa using h5
            have b5 : (c % 9 == 5) = false := by simpa using h6
            have b6 : (c % 9 == 6) = false := by simpa using h7
            have b7 : (c % 9 == 7) = false := by simpa using h9
            walk_at "evs"

end Mine

namespace Mine
open PySem
set_option maxRecDepth 100000
set_option maxHeartbeats 4000000
local macro_rules | `(tactic| walk_at "ev") => `(tactic| simp [x_assign, x_append, x_expr, x_if, x_ret, x_nil, x_cont, thenS_next, thenS_ret, thenS_cont, e_var, e_int, e_str, e_bool, e_none, e_bin, e_cmp, e_sub, e_bop, e_not, e_neg, e_tup, e_lst, e_blt, e_call, e_isi, e_sl, es_nil, es_cons, b_one, b_and, b_or, o1_some, o2_some, oL_some, oC_some, oB_bool, oI_bool, evF, vis, setv, settle, freeze, D.scalar, fin, List.lookup, binD, subD, isiD, cmpD, eqD, eqS, truth, bltD, slD, ME.names, namesL, *])
local macro_rules | `(tactic| walk_at "evs") => `(tactic| simp [x_assign, x_append, x_expr, x_if, x_ret, x_nil, x_cont, thenS_next, thenS_ret, thenS_cont, e_var, e_int, e_str, e_bool, e_none, e_bin, e_cmp, e_sub, e_bop, e_not, e_neg, e_tup, e_lst, e_blt, e_call, e_isi, e_sl, es_nil, es_cons, b_one, b_and, b_or, o1_some, o2_some, oL_some, oC_some, oB_bool, oI_bool, evF, vis, setv, settle, freeze, D.scalar, fin, List.lookup, binD, isiD, cmpD, eqD, eqS, truth, bltD, ME.names, namesL, *])

theorem ofS_eq (a b : String) : (Str.ofString a = Str.ofString b) = (a = b) := propext ⟨ofString_inj, fun h => by rw [h]⟩
theorem ofS_beq (a b : String) : (Str.ofString a == Str.ofString b) = (a == b) := by
  rw [Bool.eq_iff_iff, beq_iff_eq, beq_iff_eq, ofS_eq]
theorem idx_nat {p n : Nat} (h : p < n) : idx (p : Int) n = some p := by
  unfold idx
  have : (p : Int) < (n : Int) := by omega
  simp [this]
theorem mixed {P : List (String × Fn)} {X : CF} (B : BG P) (n : Nat) (c k : Int) : ∃ r : Int, 0 ≤ r ∧ (callN P X (n + 1)).call "_law_mixed" [.int c, .int k] = some (.int r, false) := by
  rw [call_eq n _ B.mixed rfl]
  unfold fn_law_mixed
  generalize hz : (c * 48271 + (k + 1) * 1299721) % 2147483647 = z
  have l1 : -lim < (48271 : Int) ∧ (48271 : Int) < lim := by decide
  have l2 : -lim < (1299721 : Int) ∧ (1299721 : Int) < lim := by decide
  have hp : -powLim < z ∧ z < powLim := by
    have h1 : (2147483647 : Int) < powLim := by decide +kernel
    have h2 : (0 : Int) < powLim := by decide +kernel
    generalize powLim = pl at *
    omega
  exact ⟨z ^ 5 % 2147483647, by omega, by walk_at "ev"⟩

noncomputable def words : List String := ["same", "unlike", "before", "upto", "behind", "from"]
noncomputable def tst (w : String) (p : Nat) (kd : String) (o : D) : D := .tup [.str (Str.ofString w), .int p, .str (Str.ofString kd), o]
/-- a test on a row of m cells -/
noncomputable def Tst (m : Nat) (d : D) : Prop := ∃ w p, w ∈ words ∧ p < m ∧ ((∃ q : Nat, q < m ∧ d = tst w p "col" (.int q)) ∨ ∃ o, Good o ∧ d = tst w p "is" o)
theorem word_at (c : Int) : ∃ w, w ∈ words ∧ subD (.list [.str (Str.ofString "same"), .str (Str.ofString "unlike"), .str (Str.ofString "before"), .str (Str.ofString "upto"), .str (Str.ofString "behind"), .str (Str.ofString "from"), .str (Str.ofString "unlike"), .str (Str.ofString "upto"), .str (Str.ofString "from")]) (.int (c % 9)) = some (.str (Str.ofString w)) := by
  have h8 : c % 9 = 0 ∨ c % 9 = 1 ∨ c % 9 = 2 ∨ c % 9 = 3 ∨ c % 9 = 4 ∨ c % 9 = 5 ∨ c % 9 = 6 ∨ c % 9 = 7 ∨ c % 9 = 8 := by omega
  rcases h8 with h8 | h8 | h8 | h8 | h8 | h8 | h8 | h8 | h8 <;> rw [h8]
  · exact ⟨"same", by decide, rfl⟩
  · exact ⟨"unlike", by decide, rfl⟩
  · exact ⟨"before", by decide, rfl⟩
  · exact ⟨"upto", by decide, rfl⟩
  · exact ⟨"behind", by decide, rfl⟩
  · exact ⟨"from", by decide, rfl⟩
  · exact ⟨"unlike", by decide, rfl⟩
  · exact ⟨"upto", by decide, rfl⟩
  · exact ⟨"from", by decide, rfl⟩
theorem one_by {P : List (String × Fn)} {X : CF} (B : BG P) (n : Nat) (c : Int) (m : Nat) (h0 : 0 < m) (h1 : m ≤ 1000) : ∃ d, Tst m d ∧ (callN P X (n + 3)).call "_law_one_by" [.int c, .int m] = some (d, false) := by
  rw [call_eq (n + 2) _ B.one rfl]
  unfold fn_law_one_by
  obtain ⟨w, hw, hs⟩ := word_at c
  have e9 : (0 : Int) < 9 ∧ (9 : Int) < lim := by decide
  have e2 : (0 : Int) < 2 ∧ (2 : Int) < lim := by decide
  have em : (0 : Int) < (m : Int) ∧ (m : Int) < lim := by unfold lim; omega
  have hb : 9 ≤ big := by decide
  have hb4 : 4 ≤ big := by decide
  obtain ⟨p, hp⟩ : ∃ p : Nat, c / 9 % (m : Int) = p := ⟨(c / 9 % (m : Int)).toNat, by have := Int.emod_nonneg (c / 9) (b := (m : Int)) (by omega); omega⟩
  have hpm : p < m := by have := Int.emod_lt_of_pos (c / 9) (b := (m : Int)) (by omega); omega
  generalize hr : c / 9 / (m : Int) = r
  obtain ⟨q, hq⟩ : ∃ q : Nat, r / 2 % (m : Int) = q := ⟨(r / 2 % (m : Int)).toNat, by have := Int.emod_nonneg (r / 2) (b := (m : Int)) (by omega); omega⟩
  have hqm : q < m := by have := Int.emod_lt_of_pos (r / 2) (b := (m : Int)) (by omega); omega
  obtain ⟨d, gd, hd⟩ := thing_by (X := X) B n (r / 2)
  by_cases hz : r % 2 = 0
  · exact ⟨tst w p "col" (.int q), ⟨w, p, hw, hpm, .inl ⟨q, hqm, rfl⟩⟩, by unfold tst; walk_at "evs"⟩
  · have hz' : (r % 2 == 0) = false := by simpa using hz
    exact ⟨tst w p "is" d, ⟨w, p, hw, hpm, .inr ⟨d, gd, rfl⟩⟩, by unfold tst; walk_at "evs"⟩
theorem clause_by {P : List (String × Fn)} {X : CF} (B : BG P) (n : Nat) (c : Int) (m : Nat) (h1 : m ≤ 1000) : ∃ ds, (∀ d ∈ ds, Tst m d) ∧ ds.length ≤ 40 ∧ (callN P X (n + 4)).call "_law_clause_by" [.int c, .int m] = some (.tup ds, false) := by
  rw [call_eq (n + 3) _ B.clause rfl]
  unfold fn_law_clause_by
  have hb0 : 0 ≤ big := by decide
  have hb1 : 1 ≤ big := by decide
  have hb4 : 4 ≤ big := by decide
  by_cases hm : m = 0
  · subst hm
    exact ⟨[], by simp, by simp, by walk_at "ev"⟩
  have hm' : ((m : Int) == 0) = false := by simpa using hm
  by_cases h15 : c % 32 = 15
  · exact ⟨[], by simp, by simp, by walk_at "ev"⟩
  have h15' : (c % 32 == 15) = false := by simpa using h15
  have em : (m : Int) - 1 = ((m - 1 : Nat) : Int) := by omega
  by_cases h14 : c % 16 = 14
  · refine ⟨[tst "same" (m - 1) "col" (.int (0 : Nat))], ?_, by simp, by unfold tst; walk_at "ev"⟩
    intro d hd
    rw [List.mem_singleton] at hd
    exact ⟨"same", m - 1, by decide, by omega, .inl ⟨0, by omega, hd⟩⟩
  have h14' : (c % 16 == 14) = false := by simpa using h14
  by_cases h13 : c % 16 = 13
  · refine ⟨[tst "same" 0 "col" (.int (m - 1 : Nat))], ?_, by simp, by unfold tst; walk_at "ev"⟩
    intro d hd
    rw [List.mem_singleton] at hd
    exact ⟨"same", 0, by decide, by omega, .inl ⟨m - 1, by omega, hd⟩⟩
  have h13' : (c % 16 == 13) = false := by simpa using h13
  have e16 : (0 : Int) < 16 ∧ (16 : Int) < lim := by decide
  have e32 : (0 : Int) < 32 ∧ (32 : Int) < lim := by decide
  have e352 : (0 : Int) < 352 ∧ (352 : Int) < lim := by decide
  have key : ∀ k : Nat, k ≤ 13 → ∃ ds, (∀ d ∈ ds, Tst m d) ∧ ds.length ≤ 40 ∧ compM (compF (callN P X (n + 3)) [("_law_cell", .int c), ("_law_many_here", .int m), ("_law_count", .int k)] (.call "_law_one_by" [.call "_law_mixed" [.var "_law_cell", .bin .Add (.int 40) (.var "_law_k")], .var "_law_many_here"]) "_law_k" []) ((List.range k).map fun (i : Nat) => D.int (i : Int)) = some ds := by
    intro k hk
    obtain ⟨ds, e, hl, hq⟩ := compM_ok (compF (callN P X (n + 3)) [("_law_cell", .int c), ("_law_many_here", .int m), ("_law_count", .int k)] (.call "_law_one_by" [.call "_law_mixed" [.var "_law_cell", .bin .Add (.int 40) (.var "_law_k")], .var "_law_many_here"]) "_law_k" []) (fun _ d => Tst m d) ((List.range k).map fun (i : Nat) => D.int (i : Int)) (by
      intro it hit
      obtain ⟨i, _, rfl⟩ := List.mem_map.mp hit
      obtain ⟨r, _, hr⟩ := mixed (X := X) B (n + 2) c (40 + i)
      obtain ⟨d, td, hd⟩ := one_by (X := X) B n r m (by omega) h1
      exact ⟨d, td, compF_nil (by walk_at "ev")⟩)
    refine ⟨ds, fun d hd => let ⟨_, _, q⟩ := hq d hd; q, ?_, e⟩
    rw [hl]; simp; omega
  have tailok : ∀ k : Nat, k ≤ 13 → ∃ ds, (∀ d ∈ ds, Tst m d) ∧ ds.length ≤ 40 ∧ fin (exSs (callN P X (n + 3)) [.ret (.blt "tuple" [.comp (.call "_law_one_by" [.call "_law_mixed" [.var "_law_cell", .bin .Add (.int 40) (.var "_law_k")], .var "_law_many_here"]) "_law_k" (.blt "range" [.var "_law_count"]) []])] [("_law_cell", (false, .int c)), ("_law_many_here", (false, .int m)), ("_law_count", (false, .int k))]) = some (.tup ds, false) := by
    intro k hk
    obtain ⟨ds, h1, h2, h3⟩ := key k hk
    refine ⟨ds, h1, h2, ?_⟩
    have hr1 : (k : Int) ≤ (big : Int) := by unfold big; omega
    have hr2 : -(big : Int) ≤ (k : Int) := by unfold big; omega
    have hr3 : k ≤ big := by unfold big; omega
    have hi := items_rng k
    simp [x_ret, e_blt, e_comp, e_var, es_cons, es_nil, oL_some, o1_some, oC_some, evF, vis, List.lookup, bltD, fin, hr1, hr2, hr3, hi, h3]
  generalize hcf : callN P X (n + 3) = cf at *
  by_cases h11 : c / 32 % 11 = 1
  · obtain ⟨k, hk⟩ : ∃ k : Nat, c / 352 % 13 = k := ⟨(c / 352 % 13).toNat, by omega⟩
    obtain ⟨ds, q1, q2, q3⟩ := tailok k (by omega)
    refine ⟨ds, q1, q2, ?_⟩
    rw [← q3]
    walk_at "ev"
  · have h11' : (c / 32 % 11 == 1) = false := by simpa using h11
    obtain ⟨k, hk⟩ : ∃ k : Nat, 1 + c / 16 % 2 = k := ⟨(1 + c / 16 % 2).toNat, by omega⟩
    obtain ⟨ds, q1, q2, q3⟩ := tailok k (by omega)
    refine ⟨ds, q1, q2, ?_⟩
    rw [← q3]
    walk_at "ev"
end Mine

namespace Mine
open PySem
set_option maxRecDepth 100000
set_option maxHeartbeats 4000000
local macro_rules | `(tactic| walk_at "ev") => `(tactic| simp [x_assign, x_append, x_expr, x_if, x_ret, x_nil, x_cont, thenS_next, thenS_ret, thenS_cont, e_var, e_int, e_str, e_bool, e_none, e_bin, e_cmp, e_sub, e_bop, e_not, e_neg, e_tup, e_lst, e_blt, e_call, e_isi, e_sl, es_nil, es_cons, b_one, b_and, b_or, o1_some, o2_some, oL_some, oC_some, oB_bool, oI_bool, evF, vis, setv, settle, freeze, D.scalar, fin, List.lookup, binD, subD, isiD, cmpD, eqD, eqS, truth, bltD, slD, ME.names, namesL, *])
theorem str_tri (x y : Str) : (decide (y.cps.toList < x.cps.toList) || (x == y)) = !decide (x.cps.toList < y.cps.toList) := by
  rw [Bool.eq_iff_iff]
  simp only [Bool.or_eq_true, decide_eq_true_eq, beq_iff_eq, Bool.not_eq_true', decide_eq_false_iff_not]
  constructor
  · rintro (h | rfl)
    · exact List.lt_asymm h
    · exact List.lt_irrefl _
  · intro h
    by_cases h2 : y.cps.toList < x.cps.toList
    · exact .inl h2
    · refine .inr ?_
      have : x.cps.toList = y.cps.toList := List.le_antisymm (List.not_lt.mp h2) (List.not_lt.mp h)
      cases x; cases y
      congr 1
      exact Array.toList_inj.mp this
theorem tri {a b : D} (ha : a.isCell = true) (hb : b.isCell = true) : (beforeV b a || alikeV a b) = !beforeV a b := by
  cases a <;> simp [D.isCell] at ha <;> cases b <;> simp [D.isCell] at hb
  · rename_i i j
    simp only [beforeV, alikeV]
    rw [Bool.eq_iff_iff]; simp; omega
  · simp [beforeV, alikeV]
  · simp [beforeV, alikeV]
  · exact str_tri _ _
theorem alike_comm (a b : D) : alikeV a b = alikeV b a := by
  cases a <;> cases b <;> simp [alikeV, Bool.beq_comm, eq_comm]
noncomputable def wordV (w : String) (a b : D) : Bool :=
  if w = "same" then alikeV a b else if w = "unlike" then !alikeV a b else if w = "before" then beforeV a b else if w = "upto" then !beforeV b a
  else if w = "behind" then beforeV b a else !beforeV a b
noncomputable def othV (row : List D) (kd : String) (o : D) : D := if kd = "col" then (match o with | .int q => row.getD q.toNat .none | _ => .none) else o
/-- what a test says of a row -/
noncomputable def tV (row : List D) (t : D) : Bool := match t with
  | .tup [.str w, .int p, .str kd, o] => ["same", "unlike", "before", "upto", "behind", "from"].any fun x => Str.ofString x == w && wordV x (row.getD p.toNat .none) (othV row (if kd == Str.ofString "col" then "col" else "is") o)
  | _ => false
theorem tV_tst (row : List D) {w : String} (hw : w ∈ words) (p : Nat) (kd : String) (o : D) : tV row (tst w p kd o) = wordV w (row.getD p .none) (othV row (if kd == "col" then "col" else "is") o) := by
  unfold tV tst
  simp only [ofS_beq, Int.toNat_natCast]
  simp only [words, List.mem_cons, List.not_mem_nil, or_false] at hw
  rcases hw with rfl | rfl | rfl | rfl | rfl | rfl <;> simp
theorem Good.getD {row : List D} (hr : ∀ d ∈ row, Good d) {p : Nat} (h : p < row.length) : Good (row.getD p .none) := by
  rw [List.getD_eq_getElem?_getD, List.getElem?_eq_getElem h]
  exact hr _ (List.getElem_mem h)
theorem does_word {P : List (String × Fn)} {X : CF} (B : BC P) (n : Nat) {row : List D} (hr : ∀ d ∈ row, Good d) {w : String} (hw : w ∈ words) {p : Nat} (hp : p < row.length) (kd : String) (o : D) (ho : (othV row (if kd == "col" then "col" else "is") o).isCell = true) (hq : kd = "col" → ∃ q : Nat, q < row.length ∧ o = .int q) :
    (callN P X (n + 2)).call "does" [tst w p kd o, .tup row] = some (.bool (wordV w (row.getD p .none) (othV row (if kd == "col" then "col" else "is") o)), false) := by
  rw [call_eq (n + 1) _ B.does rfl]
  unfold tst wordV
  have ha := (Good.getD hr hp).cell
  have hrp : row[p]? = some (row.getD p .none) := by rw [List.getD_eq_getElem?_getD, List.getElem?_eq_getElem hp]; rfl
  generalize hav : row.getD p .none = a at *
  generalize hbv : othV row (if kd == "col" then "col" else "is") o = b at *
  have q1 := alike_eq (X := X) B n a b ha ho
  have q3 := before_eq (X := X) B n a b ha ho
  have q4 := before_eq (X := X) B n b a ho ha
  have t1 := tri ha ho
  have t2 := tri ho ha
  rw [alike_comm b a] at t2
  generalize callN P X (n + 1) = cf at *
  have i0 : idx 0 4 = some 0 := rfl
  have i1 : idx 1 4 = some 1 := rfl
  have i2 : idx 2 4 = some 2 := rfl
  have i3 : idx 3 4 = some 3 := rfl
  have ip := idx_nat hp
  generalize alikeV a b = u at *
  generalize hv : beforeV a b = v at *
  generalize hv' : beforeV b a = v' at *
  have tail : ∀ σ, vis σ = [("test", .tup [.str (Str.ofString w), .int p, .str (Str.ofString kd), o]), ("row", .tup row), ("one", a), ("other", b), ("word", .str (Str.ofString w))] → fin (exSs cf (fn_does.body.drop 4) σ) = some (.bool (if w = "same" then u else if w = "unlike" then !u else if w = "before" then v else if w = "upto" then !v' else if w = "behind" then v' else !v), false) := by
    intro σ hσ
    clear hrp ip hbv hav ha ho hr hq hp hw i0 i1 i2 i3
    unfold fn_does
    by_cases w1 : w = "same"
    · simp [x_if, x_ret, evF, e_call, e_cmp, e_var, e_str, es_cons, es_nil, oC_some, oL_some, o2_some, oI_bool, hσ, List.lookup, cmpD, eqD, eqS, ofS_beq, ofS_eq, w1, q1, fin]
    have w1' : (w == "same") = false := by simpa using w1
    by_cases w2 : w = "unlike"
    · simp [x_if, x_ret, evF, e_call, e_cmp, e_var, e_str, e_not, o1_some, truth, es_cons, es_nil, oC_some, oL_some, o2_some, oI_bool, hσ, List.lookup, cmpD, eqD, eqS, ofS_beq, ofS_eq, w2, q1, fin]
    have w2' : (w == "unlike") = false := by simpa using w2
    by_cases w3 : w = "before"
    · simp [x_if, x_ret, evF, e_call, e_cmp, e_var, e_str, es_cons, es_nil, oC_some, oL_some, o2_some, oI_bool, hσ, List.lookup, cmpD, eqD, eqS, ofS_beq, ofS_eq, w3, q3, fin]
    have w3' : (w == "before") = false := by simpa using w3
    by_cases w4 : w = "upto"
    · simp [x_if, x_ret, evF, e_call, e_cmp, e_var, e_str, e_bop, b_or, b_one, oB_bool, es_cons, es_nil, oC_some, oL_some, o2_some, oI_bool, hσ, List.lookup, cmpD, eqD, eqS, ofS_beq, ofS_eq, w4, q1, q3, fin, ← t2]
      cases v <;> rfl
    have w4' : (w == "upto") = false := by simpa using w4
    by_cases w5 : w = "behind"
    · simp [x_if, x_ret, evF, e_call, e_cmp, e_var, e_str, es_cons, es_nil, oC_some, oL_some, o2_some, oI_bool, hσ, List.lookup, cmpD, eqD, eqS, ofS_beq, ofS_eq, w5, q4, fin]
    have w5' : (w == "behind") = false := by simpa using w5
    simp [x_if, x_ret, evF, e_call, e_cmp, e_var, e_str, e_bop, b_or, b_one, oB_bool, es_cons, es_nil, oC_some, oL_some, o2_some, oI_bool, hσ, List.lookup, cmpD, eqD, eqS, ofS_beq, ofS_eq, w1, w2, w3, w4, w5, w1', w2', w3', w4', w5', q1, q4, fin, ← t1]
    cases v' <;> rfl
  have key : ∃ σ, vis σ = [("test", .tup [.str (Str.ofString w), .int p, .str (Str.ofString kd), o]), ("row", .tup row), ("one", a), ("other", b), ("word", .str (Str.ofString w))] ∧ exSs cf (fn_does.body.take 4) [("test", (false, .tup [.str (Str.ofString w), .int p, .str (Str.ofString kd), o])), ("row", (false, .tup row))] = some (.next, σ) := by
    refine ⟨[("test", (false, .tup [.str (Str.ofString w), .int p, .str (Str.ofString kd), o])), ("row", (false, .tup row)), ("one", (false, a)), ("other", (false, b)), ("word", (false, .str (Str.ofString w)))], rfl, ?_⟩
    unfold fn_does
    by_cases hk : kd = "col"
    · obtain ⟨q, hq1, rfl⟩ := hq hk
      have iq := idx_nat hq1
      have hrq : row[q]? = some b := by
        subst hk
        simp [othV] at hbv
        rw [List.getElem?_eq_getElem hq1] at hbv ⊢
        simpa using hbv
      clear tail hbv hav ha ho hr hq hp hq1 q1 q3 q4 t1 t2 hw
      simp [x_assign, x_if, x_nil, evF, e_sub, e_cmp, e_var, e_int, e_str, o2_some, oI_bool, vis, setv, settle, freeze, ME.names, List.lookup, cmpD, eqD, eqS, subD, ofS_beq, ofS_eq, hk, i0, i1, i2, i3, ip, iq, hrp, hrq]
    · have hk' : (kd == "col") = false := by simpa using hk
      have hob : o = b := by
        simp [hk', othV] at hbv
        exact hbv
      subst hob
      clear tail hbv hav ha ho hr hq hp q1 q3 q4 t1 t2 hw
      simp [x_assign, x_if, x_nil, evF, e_sub, e_cmp, e_var, e_int, e_str, o2_some, oI_bool, vis, setv, settle, freeze, ME.names, List.lookup, cmpD, eqD, eqS, subD, ofS_beq, ofS_eq, hk, hk', i0, i1, i2, i3, ip, hrp]
  obtain ⟨σ, h1, h2⟩ := key
  have h3 : exSs cf fn_does.body [("test", (false, .tup [.str (Str.ofString w), .int p, .str (Str.ofString kd), o])), ("row", (false, .tup row))] = exSs cf (fn_does.body.drop 4) σ := by
    rw [show fn_does.body = fn_does.body.take 4 ++ fn_does.body.drop 4 from rfl, x_app, h2]
    rfl
  exact (congrArg fin h3).trans (tail σ h1)
theorem does_eq {P : List (String × Fn)} {X : CF} (B : BC P) (n : Nat) {row : List D} (hr : ∀ d ∈ row, Good d) {t : D} (ht : Tst row.length t) : (callN P X (n + 2)).call "does" [t, .tup row] = some (.bool (tV row t), false) := by
  obtain ⟨w, p, hw, hp, ⟨q, hq, rfl⟩ | ⟨o, ho, rfl⟩⟩ := ht
  · rw [tV_tst row hw]
    exact does_word B n hr hw hp "col" _ (by simp only [othV]; exact (Good.getD hr (by simpa using hq)).cell) fun _ => ⟨q, hq, rfl⟩
  · rw [tV_tst row hw]
    exact does_word B n hr hw hp "is" _ (by simp [othV]; exact ho.cell) (by simp)
theorem stands_eq {P : List (String × Fn)} {X : CF} (B : BC P) (n : Nat) {w : String} (hw : w ∈ words) {a b : D} (ha : a.isCell = true) (hb : b.isCell = true) :
    (callN P X (n + 2)).call "_law_stands" [.str (Str.ofString w), a, b] = some (.bool (wordV w a b), false) := by
  rw [call_eq (n + 1) _ B.stands rfl]
  unfold fn_law_stands wordV
  have q1 := lalike_eq (X := X) B n a b ha hb
  have q3 := lbefore_eq (X := X) B n a b ha hb
  have q4 := lbefore_eq (X := X) B n b a hb ha
  generalize callN P X (n + 1) = cf at *
  generalize alikeV a b = u at *
  generalize hv : beforeV a b = v at *
  generalize hv' : beforeV b a = v' at *
  have tb : ∀ s : String, (Str.ofString w == Str.ofString s) = (w == s) := fun s => ofS_beq _ _
  simp only [words, List.mem_cons, List.not_mem_nil, or_false] at hw
  clear ha hb hv hv'
  rcases hw with rfl | rfl | rfl | rfl | rfl | rfl <;> walk_at "ev"
/-- a loop that looks for one item and then returns -/
theorem forD_find (f : D → St → Option (Fl × St)) (p : D → Bool) (I : St → Prop) (fr : Bool) (d : D) : ∀ (its : List D), (∀ it ∈ its, ∀ σ, I σ → (p it = true → ∃ σ', f it σ = some (.ret fr d, σ')) ∧ (p it = false → ∃ σ', I σ' ∧ f it σ = some (.next, σ'))) →
    ∀ σ, I σ → (its.any p = true ∧ ∃ σ', forD f its σ = some (.ret fr d, σ')) ∨ (its.any p = false ∧ ∃ σ', I σ' ∧ forD f its σ = some (.next, σ'))
  | [], _, σ, hσ => .inr ⟨rfl, σ, hσ, rfl⟩
  | it :: r, h, σ, hσ => by
    obtain ⟨h1, h2⟩ := h it (by simp) σ hσ
    cases hp : p it with
    | true =>
      obtain ⟨σ', e⟩ := h1 hp
      exact .inl ⟨by simp [hp], σ', by simp [forD, e]⟩
    | false =>
      obtain ⟨σ', i', e⟩ := h2 hp
      rcases forD_find f p I fr d r (fun i hi => h i (by simp [hi])) σ' i' with ⟨a, σ2, b⟩ | ⟨a, σ2, i2, b⟩
      · exact .inl ⟨by simp [hp, a], σ2, by simp [forD, e, b]⟩
      · exact .inr ⟨by simp [hp, a], σ2, i2, by simp [forD, e, b]⟩
theorem holds_eq {P : List (String × Fn)} {X : CF} (B : BC P) (n : Nat) {row : List D} (hr : ∀ d ∈ row, Good d) {ts : List D} (ht : ∀ t ∈ ts, Tst row.length t) : (callN P X (n + 3)).call "holds" [.tup ts, .tup row] = some (.bool (ts.any (tV row)), false) := by
  rw [call_eq (n + 2) _ B.holds rfl]
  unfold fn_holds
  have key := forD_find (bodyF (callN P X (n + 2)) [.ite (.call "does" [.var "test", .var "row"]) [.ret (.bool true)] []] "test") (tV row) (fun σ => σ = [("clause", (false, .tup ts)), ("row", (false, .tup row))] ∨ ∃ v, σ = [("clause", (false, .tup ts)), ("row", (false, .tup row)), ("test", v)]) false (.bool true) ts (by
    intro it hit σ hσ
    have hd := does_eq (X := X) B n hr (ht it hit)
    generalize callN P X (n + 2) = cf at *
    generalize tV row it = b at *
    refine ⟨fun hb => ⟨[("clause", (false, .tup ts)), ("row", (false, .tup row)), ("test", (false, it))], ?_⟩, fun hb => ⟨[("clause", (false, .tup ts)), ("row", (false, .tup row)), ("test", (false, it))], .inr ⟨_, rfl⟩, ?_⟩⟩ <;> subst hb <;> unfold bodyF <;> rcases hσ with rfl | ⟨v, rfl⟩ <;> walk_at "ev") _ (.inl rfl)
  generalize callN P X (n + 2) = cf at *
  have hi : D.items (.tup ts) = some ts := rfl
  rcases key with ⟨k1, σ', k2⟩ | ⟨k1, σ', _, k2⟩
  · simp only [k1]
    simp [x_for, e_var, vis, List.lookup, hi, freeze, ME.names, k2, thenS_ret, fin]
  · simp only [k1]
    simp [x_for, e_var, vis, List.lookup, hi, freeze, ME.names, k2, thenS_next, fin, x_ret, evF, e_bool]
theorem lholds_eq {P : List (String × Fn)} {X : CF} (B : BC P) (n : Nat) {row : List D} (hr : ∀ d ∈ row, Good d) {ts : List D} (ht : ∀ t ∈ ts, Tst row.length t) : (callN P X (n + 3)).call "_law_holds" [.tup ts, .tup row] = some (.bool (ts.any (tV row)), false) := by
  rw [call_eq (n + 2) _ B.lholds rfl]
  unfold fn_law_holds
  have key := forD_find (bodyF (callN P X (n + 2)) [.assign "_law_other" (.sub (.var "_law_test") (.int 3)), .ite (.cmp .Eq (.sub (.var "_law_test") (.int 2)) (.str "col")) [.assign "_law_other" (.sub (.var "_law_row") (.sub (.var "_law_test") (.int 3)))] [], .ite (.call "_law_stands" [.sub (.var "_law_test") (.int 0), .sub (.var "_law_row") (.sub (.var "_law_test") (.int 1)), .var "_law_other"]) [.ret (.bool true)] []] "_law_test") (tV row) (fun σ => σ = [("_law_clause", (false, .tup ts)), ("_law_row", (false, .tup row))] ∨ ∃ v v', σ = [("_law_clause", (false, .tup ts)), ("_law_row", (false, .tup row)), ("_law_test", v), ("_law_other", (false, v'))]) false (.bool true) ts (by
    intro it hit σ hσ
    have i0 : idx 0 4 = some 0 := rfl
    have i1 : idx 1 4 = some 1 := rfl
    have i2 : idx 2 4 = some 2 := rfl
    have i3 : idx 3 4 = some 3 := rfl
    obtain ⟨w, p, hw, hp, hcase⟩ := ht it hit
    have ip := idx_nat hp
    have hrp : row[p]? = some (row.getD p .none) := by rw [List.getD_eq_getElem?_getD, List.getElem?_eq_getElem hp]; rfl
    have ha := (Good.getD hr hp).cell
    rcases hcase with ⟨q, hq, rfl⟩ | ⟨o, ho, rfl⟩
    · rw [tV_tst row hw]
      have hb := (Good.getD hr hq).cell
      have iq := idx_nat hq
      have hrq : row[q]? = some (row.getD q .none) := by rw [List.getD_eq_getElem?_getD, List.getElem?_eq_getElem hq]; rfl
      have hs := stands_eq (X := X) B n hw ha hb
      have ho : othV row (if "col" == "col" then "col" else "is") (.int q) = row.getD q .none := by simp [othV]
      rw [ho]
      clear ho hb ha hr ht hit
      generalize callN P X (n + 2) = cf at *
      generalize row.getD p .none = a at *
      generalize row.getD q .none = b at *
      generalize wordV w a b = z at *
      clear hp hq hw
      unfold tst
      refine ⟨fun hb => ⟨[("_law_clause", (false, .tup ts)), ("_law_row", (false, .tup row)), ("_law_test", (false, .tup [.str (Str.ofString w), .int p, .str (Str.ofString "col"), .int q])), ("_law_other", (false, b))], ?_⟩, fun hb => ⟨[("_law_clause", (false, .tup ts)), ("_law_row", (false, .tup row)), ("_law_test", (false, .tup [.str (Str.ofString w), .int p, .str (Str.ofString "col"), .int q])), ("_law_other", (false, b))], .inr ⟨_, _, rfl⟩, ?_⟩⟩ <;> subst hb <;> unfold bodyF <;> rcases hσ with rfl | ⟨v, v', rfl⟩ <;> walk_at "ev"
    · rw [tV_tst row hw]
      have hs := stands_eq (X := X) B n hw ha ho.cell
      have ho' : othV row (if "is" == "col" then "col" else "is") o = o := by simp [othV]
      rw [ho']
      have hne : (Str.ofString "is" == Str.ofString "col") = false := by decide
      clear ho ho' ha hr ht hit
      generalize callN P X (n + 2) = cf at *
      generalize row.getD p .none = a at *
      generalize wordV w a o = z at *
      clear hp hw
      unfold tst
      refine ⟨fun hb => ⟨[("_law_clause", (false, .tup ts)), ("_law_row", (false, .tup row)), ("_law_test", (false, .tup [.str (Str.ofString w), .int p, .str (Str.ofString "is"), o])), ("_law_other", (false, o))], ?_⟩, fun hb => ⟨[("_law_clause", (false, .tup ts)), ("_law_row", (false, .tup row)), ("_law_test", (false, .tup [.str (Str.ofString w), .int p, .str (Str.ofString "is"), o])), ("_law_other", (false, o))], .inr ⟨_, _, rfl⟩, ?_⟩⟩ <;> subst hb <;> unfold bodyF <;> rcases hσ with rfl | ⟨v, v', rfl⟩ <;> walk_at "ev") _ (.inl rfl)
  generalize callN P X (n + 2) = cf at *
  have hi : D.items (.tup ts) = some ts := rfl
  rcases key with ⟨k1, σ', k2⟩ | ⟨k1, σ', _, k2⟩
  · simp only [k1]
    simp [x_for, e_var, vis, List.lookup, hi, freeze, ME.names, k2, thenS_ret, fin]
  · simp only [k1]
    simp [x_for, e_var, vis, List.lookup, hi, freeze, ME.names, k2, thenS_next, fin, x_ret, evF, e_bool]
end Mine

namespace Mine
open PySem
set_option maxRecDepth 100000
set_option maxHeartbeats 4000000
local macro_rules | `(tactic| walk_at "ev") => `(tactic| simp [x_assign, x_append, x_expr, x_if, x_ret, x_nil, x_cont, thenS_next, thenS_ret, thenS_cont, e_var, e_int, e_str, e_bool, e_none, e_bin, e_cmp, e_sub, e_bop, e_not, e_neg, e_tup, e_lst, e_blt, e_call, e_isi, e_sl, es_nil, es_cons, b_one, b_and, b_or, o1_some, o2_some, oL_some, oC_some, oB_bool, oI_bool, evF, vis, setv, settle, freeze, D.scalar, fin, List.lookup, binD, subD, isiD, cmpD, eqD, eqS, truth, bltD, slD, ME.names, namesL, *])
noncomputable def fn_law : Fn := ⟨["_law_script"], [
    .assign "_law_wide" (.bin .Add (.int 1) (.bin .Mod (.call "_law_cell_at" [.var "_law_script", .int 0]) (.int 5))),
    .ite (.cmp .Eq (.bin .Mod (.bin .FloorDiv (.call "_law_cell_at" [.var "_law_script", .int 0]) (.int 5)) (.int 5)) (.int 1)) [.assign "_law_wide" (.bin .Add (.int 1) (.bin .Mod (.bin .FloorDiv (.call "_law_cell_at" [.var "_law_script", .int 0]) (.int 25)) (.int 64)))] [],
    .assign "_law_row" (.blt "tuple" [.comp (.call "_law_thing_by" [.call "_law_mixed" [.call "_law_cell_at" [.var "_law_script", .int 1], .var "_law_k"]]) "_law_k" (.blt "range" [.var "_law_wide"]) []]),
    .assign "_law_clause" (.call "_law_clause_by" [.call "_law_cell_at" [.var "_law_script", .int 2], .var "_law_wide"]),
    .ite (.cmp .Eq (.bin .Mod (.call "_law_cell_at" [.var "_law_script", .int 3]) (.int 6)) (.int 1)) [.assign "_law_many_here" (.bin .Mod (.bin .FloorDiv (.call "_law_cell_at" [.var "_law_script", .int 3]) (.int 6)) (.int 40)), .assign "_law_clause" (.blt "tuple" [.comp (.call "_law_one_by" [.call "_law_mixed" [.call "_law_cell_at" [.var "_law_script", .int 2], .var "_law_k"], .var "_law_wide"]) "_law_k" (.blt "range" [.var "_law_many_here"]) []])] [],
    .ite (.cmp .Eq (.bin .Mod (.call "_law_cell_at" [.var "_law_script", .int 3]) (.int 6)) (.int 2)) [.assign "_law_clause" (.tup [.tup [.str "same", .bin .Sub (.var "_law_wide") (.int 1), .str "is", .sub (.var "_law_row") (.bin .Sub (.var "_law_wide") (.int 1))]])] [],
    .assign "_law_found" (.call "holds" [.var "_law_clause", .var "_law_row"]),
    .ret (.bop .And [.isi (.var "_law_found") "bool", .cmp .Eq (.var "_law_found") (.call "_law_holds" [.var "_law_clause", .var "_law_row"])])]⟩
noncomputable def PP : List (String × Fn) := [("_law_before", fn_law_before), ("_law_alike", fn_law_alike), ("before", fn_before), ("alike", fn_alike), ("_law_stands", fn_law_stands), ("does", fn_does), ("_law_sign_by", fn_law_sign_by), ("_law_holds", fn_law_holds), ("holds", fn_holds), ("_law_one_by", fn_law_one_by), ("_law_clause_by", fn_law_clause_by), ("_law_mixed", fn_law_mixed), ("_law_thing_by", fn_law_thing_by), ("_law_cell_at", fn_law_cell_at), ("law", fn_law)]

theorem bg : BG PP := ⟨rfl, rfl, rfl, rfl, rfl, rfl⟩
theorem bc : BC PP := ⟨rfl, rfl, rfl, rfl, rfl, rfl, rfl, rfl⟩
theorem rows_comp (cf : CF) (ρ : List (String × D)) (elt : ME) (x : String) (src : ME) (k : Nat) (hk : k ≤ 1000) (Q : D → Prop) (hs : evE cf ρ src = some (.int k)) (h : ∀ i : Nat, i < k → ∃ d, Q d ∧ evE cf ((x, .int i) :: ρ) elt = some d) :
    ∃ ds : List D, ds.length = k ∧ (∀ d ∈ ds, Q d) ∧ evE cf ρ (.blt "tuple" [.comp elt x (.blt "range" [src]) []]) = some (.tup ds) := by
  obtain ⟨ds, e, hl, hq⟩ := compM_ok (compF cf ρ elt x []) (fun _ d => Q d) ((List.range k).map fun (i : Nat) => D.int (i : Int)) (by
    intro it hit
    obtain ⟨i, hi, rfl⟩ := List.mem_map.mp hit
    obtain ⟨d, q, e⟩ := h i (List.mem_range.mp hi)
    exact ⟨d, q, compF_nil e⟩)
  refine ⟨ds, by simpa using hl, fun d hd => let ⟨_, _, q⟩ := hq d hd; q, ?_⟩
  have hr1 : (k : Int) ≤ (big : Int) := by unfold big; omega
  have hr2 : -(big : Int) ≤ (k : Int) := by unfold big; omega
  have hr3 : k ≤ big := by unfold big; omega
  have hi := items_rng k
  simp [e_blt, e_comp, es_cons, es_nil, oL_some, o1_some, oC_some, bltD, hr1, hr2, hr3, hi, e, hs]
theorem pure_ok (n : Nat) (ns : List Int) : ∃ fr, (callN PP X0 (n + 5)).call "law" [.list (ns.map .int)] = some (.bool true, fr) := by
  refine ⟨false, ?_⟩
  rw [call_eq (n + 4) _ (by rfl) (by rfl)]
  obtain ⟨c0, h0⟩ := cell_at (X := X0) bg (n + 3) ns 0
  obtain ⟨c1, h1⟩ := cell_at (X := X0) bg (n + 3) ns 1
  obtain ⟨c2, h2⟩ := cell_at (X := X0) bg (n + 3) ns 2
  obtain ⟨c3, h3⟩ := cell_at (X := X0) bg (n + 3) ns 3
  have h0' : (callN PP X0 (n + 4)).call "_law_cell_at" [.list (ns.map .int), .int 0] = some (.int c0, false) := h0
  have h1' : (callN PP X0 (n + 4)).call "_law_cell_at" [.list (ns.map .int), .int 1] = some (.int c1, false) := h1
  have h2' : (callN PP X0 (n + 4)).call "_law_cell_at" [.list (ns.map .int), .int 2] = some (.int c2, false) := h2
  have h3' : (callN PP X0 (n + 4)).call "_law_cell_at" [.list (ns.map .int), .int 3] = some (.int c3, false) := h3
  clear h0 h1 h2 h3
  have hmix := fun c k => mixed (X := X0) bg (n + 3) c k
  have hthing := fun c => thing_by (X := X0) bg (n + 2) c
  have hone := fun c m a b => one_by (X := X0) bg (n + 1) c m a b
  have hclause := fun c m a => clause_by (X := X0) bg n c m a
  have hholds := @holds_eq PP X0 bc (n + 1)
  have hlholds := @lholds_eq PP X0 bc (n + 1)
  generalize callN PP X0 (n + 4) = cf at *
  generalize hS : D.list (ns.map .int) = S at *
  have e5 : (0 : Int) < 5 ∧ (5 : Int) < lim := by decide
  have e25 : (0 : Int) < 25 ∧ (25 : Int) < lim := by decide
  have e6 : (0 : Int) < 6 ∧ (6 : Int) < lim := by decide
  obtain ⟨m, hm0, hm1, hA⟩ : ∃ m : Nat, 0 < m ∧ m ≤ 64 ∧ ∀ r, exSs cf (fn_law.body.take 2 ++ r) [("_law_script", (false, S))] = exSs cf r [("_law_script", (false, S)), ("_law_wide", (false, .int m))] := by
    unfold fn_law
    by_cases w : c0 / 5 % 5 = 1
    · obtain ⟨m, hm⟩ : ∃ m : Nat, 1 + c0 / 25 % 64 = m := ⟨(1 + c0 / 25 % 64).toNat, by omega⟩
      refine ⟨m, by omega, by omega, fun r => ?_⟩
      clear hmix hthing hone hclause hholds hlholds
      walk_at "ev"
    · have w' : (c0 / 5 % 5 == 1) = false := by simpa using w
      obtain ⟨m, hm⟩ : ∃ m : Nat, 1 + c0 % 5 = m := ⟨(1 + c0 % 5).toNat, by omega⟩
      refine ⟨m, by omega, by omega, fun r => ?_⟩
      clear hmix hthing hone hclause hholds hlholds
      walk_at "ev"
  obtain ⟨row, hrl, hrg, hrow⟩ := rows_comp cf [("_law_script", S), ("_law_wide", .int m)] (.call "_law_thing_by" [.call "_law_mixed" [.call "_law_cell_at" [.var "_law_script", .int 1], .var "_law_k"]]) "_law_k" (.var "_law_wide") m (by omega) Good (by simp [e_var, List.lookup]) (by
    intro i hi
    obtain ⟨r, _, hr⟩ := hmix c1 i
    obtain ⟨d, gd, hd⟩ := hthing r
    clear hmix hthing hone hclause hholds hlholds hA
    exact ⟨d, gd, by walk_at "ev"⟩)
  have hB : ∀ r, exSs cf ((fn_law.body.drop 2).take 1 ++ r) [("_law_script", (false, S)), ("_law_wide", (false, .int m))] = exSs cf r [("_law_script", (false, S)), ("_law_wide", (false, .int m)), ("_law_row", (false, .tup row))] := by
    intro r
    unfold fn_law
    simp [x_assign, evF, vis, hrow, setv, settle, freeze, D.scalar, ME.names, namesL]
  obtain ⟨ts0, ht0, hl0, hcl⟩ := hclause c2 m (by omega)
  have hC : ∀ r, exSs cf ((fn_law.body.drop 3).take 1 ++ r) [("_law_script", (false, S)), ("_law_wide", (false, .int m)), ("_law_row", (false, .tup row))] = exSs cf r [("_law_script", (false, S)), ("_law_wide", (false, .int m)), ("_law_row", (false, .tup row)), ("_law_clause", (false, .tup ts0))] := by
    intro r
    unfold fn_law
    clear hmix hthing hone hclause hholds hlholds hA hB hrow
    walk_at "ev"
  obtain ⟨ts, rest, hts, hrest, hD⟩ : ∃ ts rest, (∀ t ∈ ts, Tst m t) ∧ (rest = [] ∨ ∃ v, rest = [("_law_many_here", v)]) ∧ ∀ r, exSs cf ((fn_law.body.drop 4).take 2 ++ r) [("_law_script", (false, S)), ("_law_wide", (false, .int m)), ("_law_row", (false, .tup row)), ("_law_clause", (false, .tup ts0))] = exSs cf r ([("_law_script", (false, S)), ("_law_wide", (false, .int m)), ("_law_row", (false, .tup row)), ("_law_clause", (false, .tup ts))] ++ rest) := by
    by_cases w1 : c3 % 6 = 1
    · obtain ⟨k, hk⟩ : ∃ k : Nat, c3 / 6 % 40 = k := ⟨(c3 / 6 % 40).toNat, by omega⟩
      obtain ⟨ts, _, htt, hts⟩ := rows_comp cf [("_law_script", S), ("_law_wide", .int m), ("_law_row", .tup row), ("_law_clause", .tup ts0), ("_law_many_here", .int k)] (.call "_law_one_by" [.call "_law_mixed" [.call "_law_cell_at" [.var "_law_script", .int 2], .var "_law_k"], .var "_law_wide"]) "_law_k" (.var "_law_many_here") k (by omega) (Tst m) (by simp [e_var, List.lookup]) (by
        intro i hi
        obtain ⟨r, _, hr⟩ := hmix c2 i
        obtain ⟨d, gd, hd⟩ := hone r m (by omega) (by omega)
        clear hmix hthing hone hclause hholds hlholds hA hB hC hrow
        exact ⟨d, gd, by walk_at "ev"⟩)
      refine ⟨ts, [("_law_many_here", (false, .int k))], htt, .inr ⟨_, rfl⟩, fun r => ?_⟩
      unfold fn_law
      have w2' : (c3 % 6 == 2) = false := by rw [w1]; rfl
      clear hmix hthing hone hclause hholds hlholds hA hB hC hrow
      simp [x_assign, x_if, x_nil, e_var, e_int, e_str, e_bin, e_cmp, e_call, es_nil, es_cons, o1_some, o2_some, oL_some, oC_some, oI_bool, evF, vis, setv, settle, freeze, D.scalar, List.lookup, binD, cmpD, eqD, eqS, ME.names, namesL, *]
    · have w1' : (c3 % 6 == 1) = false := by simpa using w1
      by_cases w2 : c3 % 6 = 2
      · have hlt : m - 1 < row.length := by omega
        have hget : row[m - 1]? = some (row.getD (m - 1) .none) := by rw [List.getD_eq_getElem?_getD, List.getElem?_eq_getElem hlt]; rfl
        have ix := idx_nat hlt
        rw [hrl] at ix
        have em : (m : Int) - 1 = ((m - 1 : Nat) : Int) := by omega
        have hb4 : 4 ≤ big := by decide
        have hb1 : 1 ≤ big := by decide
        refine ⟨[tst "same" (m - 1) "is" (row.getD (m - 1) .none)], [], ?_, .inl rfl, fun r => ?_⟩
        · intro t ht
          rw [List.mem_singleton] at ht
          exact ⟨"same", m - 1, by decide, by omega, .inr ⟨_, Good.getD hrg hlt, ht⟩⟩
        · unfold fn_law tst
          generalize row.getD (m - 1) .none = z at *
          clear hmix hthing hone hclause hholds hlholds hA hB hC hrow hlt
          walk_at "ev"
      · have w2' : (c3 % 6 == 2) = false := by simpa using w2
        refine ⟨ts0, [], ht0, .inl rfl, fun r => ?_⟩
        unfold fn_law
        clear hmix hthing hone hclause hholds hlholds hA hB hC hrow
        walk_at "ev"
  have hE : fin (exSs cf (fn_law.body.drop 6) ([("_law_script", (false, S)), ("_law_wide", (false, .int m)), ("_law_row", (false, .tup row)), ("_law_clause", (false, .tup ts))] ++ rest)) = some (.bool true, false) := by
    have q1 := hholds (row := row) (ts := ts) hrg (by rw [hrl]; exact hts)
    have q2 := hlholds (row := row) (ts := ts) hrg (by rw [hrl]; exact hts)
    generalize ts.any (tV row) = b at *
    unfold fn_law
    clear hmix hthing hone hclause hholds hlholds hA hB hC hD hrow
    rcases hrest with rfl | ⟨v, rfl⟩ <;> walk_at "ev"
  have e1 : fn_law.body = fn_law.body.take 2 ++ ((fn_law.body.drop 2).take 1 ++ ((fn_law.body.drop 3).take 1 ++ ((fn_law.body.drop 4).take 2 ++ fn_law.body.drop 6))) := rfl
  rw [e1]
  show fin (exSs cf _ [("_law_script", (false, S))]) = _
  rw [hA, hB, hC, hD, hE]
end Mine

namespace Mine
open PySem PySem.W PyProof.Rows
set_option maxRecDepth 100000
set_option maxHeartbeats 0
noncomputable def keepS : Stmt → Bool
  | .Assign [.Name x _] _ _ => x != Str.ofString "__name__"
  | _ => true
noncomputable def vw : Program := { PySem.Challenge.pw_uf030018_02 with main := { PySem.Challenge.pw_uf030018_02.main with body := PySem.Challenge.pw_uf030018_02.main.body.filter keepS } }
theorem ws : OpenLaw.wellSaid PySem.Challenge.rw_uf030018_02 = true := by decide +kernel
theorem left : LeftO PySem.Challenge.pw_uf030018_02 vw [] (fun s => xlAt vw [] s && recOk (RowW.records PySem.Challenge.rw_uf030018_02.row.toRowW) s) (Hook.obs Hook.none) (Hook.val Hook.none) 1200 := fun w => by kernel_rfl
theorem dlSome : (defOf vw (Str.ofString "law")).isSome = true := by decide +kernel
noncomputable def dl : DefRec × List (Str × Expr) := (defOf vw (Str.ofString "law")).get dlSome
theorem dlDef : defOf vw PySem.Challenge.rw_uf030018_02.row.name = some (dl.1, dl.2) := (Option.some_get dlSome).symm
theorem dlIs : PySem.Challenge.rw_uf030018_02.row.prog.theDef PySem.Challenge.rw_uf030018_02.row.name = some (dl.1.params, dl.1.body, dl.1.scope) := by kernel_rfl
theorem dlKw : kwWritten? dl.1.params.kwonlyargs dl.1.params.kw_defaults = some dl.2 := by kernel_rfl
theorem dlName : dl.1.name = Str.ofString "law" := by kernel_rfl
theorem okAll : (chainsOk vw && opensWell PySem.Challenge.rw_uf030018_02.row.prog && (frees PySem.Challenge.rw_uf030018_02.row.toRowW && PySem.Challenge.rw_uf030018_02.row.within.isEmpty)) = true := by decide +kernel
theorem chkd : chkProg (recsOf vw) PP = true := by decide +kernel
theorem freed : bltFree vw (looseW vw []) = true := by decide +kernel
end Mine
open PySem PySem.W PyProof.Rows
set_option maxRecDepth 100000 in
set_option maxHeartbeats 8000000 in
theorem PySem.Challenge.cw_uf030018_02_holds : PySem.Challenge.rw_uf030018_02.Holds := by
  refine holds_law Mine.ws fun said => ?_
  refine holds_open (q := Mine.vw) (loose := []) (Xt := fun s => xlAt Mine.vw [] s && recOk (RowW.records PySem.Challenge.rw_uf030018_02.row.toRowW) s) (XP := XL Mine.vw []) (Yf := Hook.obs Hook.none) (Ya := Hook.val Hook.none) (YP := Hook.says Hook.none) (N := 1200) Mine.left (Hook.of Hook.none) (Hook.keeps Hook.none) (fun s e => xl_of s (Bool.and_eq_true_iff.mp e).1) XL.keeps Mine.dlDef Mine.dlIs Mine.dlKw (fun s e => recFacts_of (Bool.and_eq_true_iff.mp e).2) (by rfl) said Mine.okAll ⟨rfl, rfl, rfl, rfl, rfl, by decide +kernel⟩ ?hw ?hc
  (case hw => w_witness2)
  intro w s₀ s₁ mg mb G Y fa o pm cd doc dV kV ho hd hcd hD hmg hg args vals as hpre hlay hrd hwl hlo
  rw [Mine.dlName] at hmg
  refine Ground.open G ?_
  intro T B D TE TW
  wrow_args hpre hlay hrd hwl hlo
  exact Mine.law_fin (P := Mine.PP) (X := Mine.X0) 20 T Mine.chkd Mine.freed (by decide) (fun _ _ => ⟨fun _ _ _ _ h => (nomatch h), fun _ _ h => (nomatch h)⟩) hmg hg (by assumption) (by assumption) (Mine.pure_ok _ _)
