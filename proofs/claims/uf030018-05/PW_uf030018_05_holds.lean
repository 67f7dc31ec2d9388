import PyProof.Rows.All
import Wide.All
import Open.Line
import Wide.FinOn
import PyProof.Cells
import PyProof.RangeIter
import PyProof.CodeObjX
import PyProof.FactsAll.tuple
import PyProof.DictKinds
import PyProof.CompMap
import PyProof.DictKind
import PyProof.Rows.Tup
import PyProof.DictRoads
import PyProof.DictDisplay
import PyProof.NeKinds
import PyProof.StrBlockI
import PyProof.StrBlock2
import PyProof.CompFree
import PyProof.Rows.Walk
import PyProof.Rows.IntRules
import PyProof.Rows.RuleB_mul
import PyProof.Rows.RuleB_floordiv
import PyProof.Rows.RuleB_pow
import PyProof.Rows.RuleB_mod
import PyProof.Rows.RuleC_int
import PyProof.Rows.RuleU_int
import PyProof.Rows.StrRules
import PyProof.Rows.Nodes
import PyProof.Rows.TupSub
import PyProof.ListOps
import PyProof.TupleOps
import PyProof.ListMulRoad
import PyProof.DictStraight
import PyProof.Rows.Lst
import PyProof.Rows.TupMore
import PyProof.Rows.StrTemp
import PyProof.ListTruth
import PyProof.TupleOfSeq
import PyProof.CallStr
import PyProof.RangeFor
import PyProof.Conv_int_bool
import PyProof.SliceStr2
import PyProof.SliceMore
import PyProof.ListIndexNeg
import PyProof.IsiPairs
import PyProof.IsiHeapPairs
import PyProof.Rows.Exc
import PyProof.Rows.Globals
import PyProof.IsiTuple
import PyProof.ListCopy
import PyProof.WalkInts
import PyProof.Rows.SumAny
import KE.KDictList
import PyProof.WalksMore
import PyProof.Rows.StrTempNeg
import KE.KRevSl
import PyProof.ForAppend
import PyProof.ListIndex
import PyProof.Rows.TupAssign
import PyProof.TupleIter
import PySem.Challenge.RW_uf030018_05
set_option Elab.async false
set_option linter.all false
set_option backward.eqns.nonrecursive false
set_option genSizeOf false
namespace Mine
open PySem PySem.W PyProof.Rows
noncomputable def tb : Addr := 246
noncomputable def oc : Addr := 248
noncomputable def lamN : Str := Str.ofString "law"
noncomputable def cOpt {α : Type} (l : Option α) (f : α → Bool) : Bool := match l with | some x => f x | none => false
noncomputable def cRef (v : Option Value) (f : Addr → Bool) : Bool := cOpt v fun v => match v with | .ref a => f a | _ => false
noncomputable def cObj (o : Option Obj) (f : Data → Bool) : Bool := cOpt o fun o => f o.data
noncomputable def tbAt (s : Shared) : Bool := cRef (s.heap.nsMap mainGlobals lamN) fun a => cObj (s.heap.get? a) fun d => match d with
  | .func fd => fd.code == .ref oc && cObj (s.heap.get? oc) fun d => match d with
    | .fields vs => vs[11]? == some (.ref tb)
    | _ => false
  | _ => false
noncomputable def stepNames : List Str := ["table", "sieve", "pick", "join", "group", "order", "both", "once", "first"].map Str.ofString
noncomputable def strIs (v : Value) (y : Str) : Bool := match v with
  | .str x _ => x == y
  | _ => false
noncomputable def strsAre : List Value → List Str → Bool
  | [], [] => true
  | v :: vs, y :: ys => strIs v y && strsAre vs ys
  | _, _ => false
noncomputable def stepsObj (o : Obj) : Bool := (match o.data with | .seq vs _ => strsAre vs.toList stepNames | _ => false) && o.cls == .type "tuple" && o.dict.isNone && o.slots.isEmpty
noncomputable def stepsAt (s : Shared) : Bool := match s.heap.nsMap mainGlobals (Str.ofString "STEPS") with
  | some (.ref a) => (match s.heap.get? a with | some o => stepsObj o | none => false)
  | _ => false
set_option maxRecDepth 100000
set_option maxHeartbeats 0
noncomputable def keepS : Stmt → Bool
  | .Assign [.Name x _] _ _ => x != Str.ofString "__name__"
  | _ => true
noncomputable def vw : Program := { PySem.Challenge.pw_uf030018_05 with main := { PySem.Challenge.pw_uf030018_05.main with body := PySem.Challenge.pw_uf030018_05.main.body.filter keepS } }
theorem glue {S A B C Y : Type _} {o : Option S} {f : S → A × B} {g : S → C × Y} {F : S → (A × B × C) × Y} {a : A} {b : B} {c : C} {y : Y} (h1 : o.map f = some (a, b)) (h2 : o.map g = some (c, y)) (hF : ∀ s, F s = (((f s).1, (f s).2, (g s).1), (g s).2)) : o.map F = some ((a, b, c), y) := by
  cases o with
  | none => cases h1
  | some s => exact congrArg some ((hF s).trans (by rw [Option.some.inj h1, Option.some.inj h2]))
theorem leftA (w : World) : (openEnds treeTable PySem.Challenge.pw_uf030018_05 w 20000).map (fun s => (seen ((recsOf vw).map (·.name)) (ownsOf vw) [] { s with gens := #[] }, s.heap.bltView)) = some (expectedOf vw, bltViewBooted) := by kernel_rfl
theorem leftB (w : World) : (openEnds treeTable PySem.Challenge.pw_uf030018_05 w 20000).map (fun s => ((openSeen vw [] (importedModules PySem.Challenge.pw_uf030018_05.main.body) (fun s => (xlAt vw [] s && recOk (RowW.records PySem.Challenge.rw_uf030018_05.row.toRowW) s) && (tbAt s && stepsAt s)) true s).2.2, Hook.obs Hook.none s)) = some ((openGood vw []).2.2, Hook.val Hook.none w) := by kernel_rfl
theorem left : LeftO PySem.Challenge.pw_uf030018_05 vw [] (fun s => (xlAt vw [] s && recOk (RowW.records PySem.Challenge.rw_uf030018_05.row.toRowW) s) && (tbAt s && stepsAt s)) (Hook.obs Hook.none) (Hook.val Hook.none) 20000 := fun w => glue (leftA w) (leftB w) fun _ => rfl
theorem ws : OpenLaw.wellSaid PySem.Challenge.rw_uf030018_05 = true := by decide +kernel
theorem dlSome : (defOf vw (Str.ofString "law")).isSome = true := by decide +kernel
noncomputable def dl : DefRec × List (Str × Expr) := (defOf vw (Str.ofString "law")).get dlSome
theorem dlDef : defOf vw PySem.Challenge.rw_uf030018_05.row.name = some (dl.1, dl.2) := (Option.some_get dlSome).symm
theorem dlIs : PySem.Challenge.rw_uf030018_05.row.prog.theDef PySem.Challenge.rw_uf030018_05.row.name = some (dl.1.params, dl.1.body, dl.1.scope) := by kernel_rfl
theorem dlKw : kwWritten? dl.1.params.kwonlyargs dl.1.params.kw_defaults = some dl.2 := by kernel_rfl
theorem dlName : dl.1.name = Str.ofString "law" := by kernel_rfl
theorem okAll : (chainsOk vw && opensWell PySem.Challenge.rw_uf030018_05.row.prog && (frees PySem.Challenge.rw_uf030018_05.row.toRowW && PySem.Challenge.rw_uf030018_05.row.within.isEmpty)) = true := by decide +kernel
end Mine
namespace Mine
theorem om15 {a0 : Nat} (h1 : 0 < a0) : (↑a0 : Int) ≠ 0 := by omega
theorem om16 {a0 : Nat} (h1 : 0 < a0) : 0 < (↑a0 : Int) := Int.ofNat_lt.mpr h1
theorem om17 {a0 : Nat} {a1 : Int} (h1 : 0 < a0) (h2 : a1 < (↑a0 : Int)) : a1.toNat < a0 := by omega
theorem om18 {a0 : Int} : 0 ≤ a0 % 94 := Int.emod_nonneg _ (by decide)
theorem om19 {a0 : Int} : a0 % 94 < (↑94 : Int) := Int.emod_lt_of_pos _ (by decide)
theorem om20 {a0 : Int} {a1 : Int} (h1 : 2147483647 < a0) : -a0 < a1 % 2147483647 ∧ a1 % 2147483647 < a0 ∧ (0 : Int) ≤ 5 ∧ (5 : Int) ≤ 100 := ⟨Int.lt_of_lt_of_le (Int.neg_neg_of_pos (Int.lt_trans (by decide) h1)) (Int.emod_nonneg _ (by decide)), Int.lt_trans (Int.emod_lt_of_pos _ (by decide)) h1, by decide, by decide⟩
theorem om21 {a0 : Nat} (h1 : a0 = 1) : a0 ≤ 100 := by omega
theorem om22 {a0 : Nat} {a1 : Nat} {a2 : Nat} (h1 : a0 = 1) : a1 + a0 + a2 = a1 + (a2 + 1) := by rw [h1, Nat.add_assoc, Nat.add_comm 1]
theorem om23 {a0 : Int} (h1 : a0 ≤ 100) : a0 ≤ 100 := h1
theorem om24 {a0 : Int} : 0 ≤ a0 / 9 / 94 % 100 ∧ a0 / 9 / 94 % 100 ≤ 100 := ⟨Int.emod_nonneg _ (by decide), Int.le_of_lt (Int.emod_lt_of_pos _ (by decide))⟩
theorem om25 {a0 : Int} {a1 : Int} {a2 : Int} (h1 : 0 ≤ a0 ∧ a0 < a1) (h2 : a1 + 3 < a2) : -a2 < a0 + 3 ∧ a0 + 3 < a2 ∧ (0 : Int) ≤ 9 ∧ (9 : Int) ≤ 100 := ⟨Int.lt_of_lt_of_le (Int.neg_neg_of_pos (Int.lt_trans (Int.lt_of_le_of_lt (Int.add_nonneg h1.1 (by decide : (0 : Int) ≤ 3)) (Int.add_lt_add_right h1.2 3)) h2)) (Int.add_nonneg h1.1 (by decide)), Int.lt_trans (Int.add_lt_add_right h1.2 3) h2, by decide, by decide⟩
theorem om26 {a0 : Int} (h1 : 0 < a0) : 0 < 2 * a0 - 1 := by omega
theorem om27 {a0 : Nat} : 0 < (↑a0 : Int) + 1 := by omega
theorem om28 {a0 : Nat} {a1 : Nat} {a2 : Nat} {a3 : Nat} (h1 : a0 = 1) (h2 : a1 ≤ 8) (h3 : a2 ≤ a1) (h4 : 16 + 1 ≤ a3) : a2 + a0 ≤ a3 := by omega
theorem om29 {a0 : Nat} {a1 : Nat} {a2 : Nat} {a3 : Nat} {a4 : Nat} (h1 : a0 = 1) (h2 : a1 ≤ 8) (h3 : a2 ≤ a1) (h4 : a3 ≤ a1) (h5 : 16 + 1 ≤ a4) : a2 + a0 + a3 ≤ a4 := Nat.le_trans (Nat.add_le_add (Nat.add_le_add (Nat.le_trans h3 h2) (Nat.le_of_eq h1)) (Nat.le_trans h4 h2)) h5
theorem om30 {a0 : Int} : -10 ^ 61 < a0 / 9 % 4 - 1 ∧ a0 / 9 % 4 - 1 < 10 ^ 61 := ⟨Int.lt_of_lt_of_le (by decide +kernel) (Int.sub_le_sub_right (Int.emod_nonneg (a0 / 9) (by decide)) 1), Int.lt_trans (Int.sub_lt_sub_right (Int.emod_lt_of_pos _ (by decide)) _) (by decide +kernel)⟩
theorem om31 {a0 : Int} : -10 ^ 61 < a0 / 9 % 2000001 - 1000000 ∧ a0 / 9 % 2000001 - 1000000 < 10 ^ 61 := ⟨Int.lt_of_lt_of_le (by decide +kernel) (Int.sub_le_sub_right (Int.emod_nonneg (a0 / 9) (by decide)) 1000000), Int.lt_trans (Int.sub_lt_sub_right (Int.emod_lt_of_pos _ (by decide)) _) (by decide +kernel)⟩
theorem om32 {a0 : Int} : 2 * a0 - 1 ≠ 0 := by omega
theorem om33 {a0 : Int} {a1 : Int} (h1 : 0 ≤ a0) (h2 : a0 < 2 * a1 - 1) : -(10 * a1) < a0 - a1 + 1 ∧ a0 - a1 + 1 < 10 * a1 := by omega
theorem om34 {a0 : Nat} {a1 : Nat} {a2 : Nat} {a3 : Nat} (h1 : a0 = 1) (h2 : a1 ≤ 8) (h3 : a2 ≤ a1) (h4 : a3 ≤ a1) : a2 + a0 + a3 ≤ 200 := Nat.le_trans (Nat.add_le_add (Nat.add_le_add (Nat.le_trans h3 h2) (Nat.le_of_eq h1)) (Nat.le_trans h4 h2)) (by decide)
theorem om43 {a0 : Nat} {a1 : Nat} (h1 : a0 = a1) : a1 = a0 := by omega
theorem om44 {a0 : Nat} : 0 = (↑(min 0 a0) : Int) := congrArg Nat.cast (Nat.zero_min a0).symm
theorem om45 {a0 : Nat} : ¬(↑a0 : Int) < 0 := by omega
theorem om46 {a0 : Nat} {a1 : Nat} : min (↑a0 : Int) (↑a1 : Int) = (↑(min a0 a1) : Int) := by omega
theorem om47 {a0 : Nat} : (↑a0 : Int) = (↑(min a0 a0) : Int) := congrArg Nat.cast (Nat.min_self a0).symm
theorem om48 {a0 : Nat} {a1 : Nat} : ((↑a0 : Int) + (↑a1 : Int) * 1).toNat = a0 + a1 := by rw [Int.mul_one, ← Int.natCast_add, Int.toNat_natCast]
theorem om50 {a0 : Nat} {a1 : Nat} {a2 : Nat} {a3 : Nat} (h1 : a0 ≤ a1 + a2) (h2 : a1 ≤ a3 + 1) : a0 ≤ a3 + (a2 + 1) := by omega
theorem om51 {a0 : Nat} {a1 : Nat} {a2 : Nat} (h1 : a0 ≤ a1 + 1) : a0 + 1 + 2 * a2 + 20 ≤ a1 + 2 * (a2 + 1) + 20 := by rw [Nat.mul_succ, Nat.add_comm (2 * a2) 2, ← Nat.add_assoc a1 2]; exact Nat.add_le_add_right (Nat.add_le_add_right (Nat.succ_le_succ h1) _) 20
theorem om52 {a0 : Nat} {a1 : Nat} {a2 : Nat} (h1 : a0 ≤ a1 + 10) : a0 + 3 + 13 * a2 + 100 ≤ a1 + 13 * (a2 + 1) + 100 := by rw [Nat.mul_succ, Nat.add_comm (13 * a2) 13, ← Nat.add_assoc a1 13]; exact Nat.add_le_add_right (Nat.add_le_add_right (Nat.add_le_add_right h1 3) _) 100
theorem om53 {a0 : Nat} {a1 : Nat} {a2 : Nat} (h1 : a0 ≤ 300) (h2 : a1 = 300) (h3 : a2 = 1000) : 1 + a1 + 2 * a0 + 20 < a2 := by subst h2 h3; exact Nat.lt_of_le_of_lt (Nat.add_le_add_right (Nat.add_le_add_left (Nat.mul_le_mul_left 2 h1) _) 20) (by decide)
theorem om54 {a0 : Nat} {a1 : Nat} (h1 : a0 ≤ 300) (h2 : a1 = 9900) : 4 + 13 * a0 + 100 < a1 := by subst h2; exact Nat.lt_of_le_of_lt (Nat.add_le_add_right (Nat.add_le_add_left (Nat.mul_le_mul_left 13 h1) 4) 100) (by decide)
theorem om55 {a0 : Int} {a1 : Nat} (h1 : 0 ≤ a0 ∧ a0 ≤ 1000 ∧ a1 ≤ 1000) : -9223372036854775808 ≤ a0 ∧ a0 < 9223372036854775808 := ⟨Int.le_trans (by decide) h1.1, Int.lt_of_le_of_lt h1.2.1 (by decide)⟩
theorem om56 {a0 : Int} (h1 : ¬a0 < 1) : 0 < a0 := by omega
theorem om57 {a0 : Int} {a1 : Nat} (h1 : 0 ≤ a0 ∧ a0 ≤ 1000 ∧ a1 ≤ 1000) : 1000 * a0 ≤ 2 ^ 63 - 1 := by omega
theorem om58 {a0 : Int} {a1 : Nat} {a2 : Int} (h1 : 0 ≤ a0 ∧ a0 ≤ 1000 ∧ a1 ≤ 1000) (h2 : 1000 ≤ a2) : ¬(↑a1 : Int) > a2 := Int.not_lt.mpr (Int.le_trans (Int.ofNat_le.mpr h1.2.2) h2)
theorem om59 {a0 : Int} {a1 : Nat} (h1 : 0 ≤ a0) : -(↑a1 : Int) ≤ a0 := by omega
theorem om60 {a0 : Nat} {a1 : Int} (h1 : -(↑a0 : Int) ≤ a1) : 0 ≤ a1 + (↑a0 : Int) := by omega
theorem om61 {a0 : Int} {a1 : Nat} (h1 : a0 < 0) : a0 + (↑a1 : Int) < (↑a1 : Int) := by omega
theorem om62 {a0 : Nat} {a1 : Int} (h1 : -(↑a0 : Int) ≤ a1) (h2 : a1 < 0) : -(↑a0 : Int) ≤ a1 ∧ a1 < (↑a0 : Int) := ⟨h1, Int.lt_of_lt_of_le h2 (Int.natCast_nonneg a0)⟩
theorem om63 {a0 : Int} {a1 : Nat} {a2 : Nat} (h1 : 0 ≤ a0 ∧ a0 < (↑a1 : Int) ∧ a1 ≤ a2) (h2 : (↑a1 : Int) < 2 ^ 63) : -9223372036854775808 ≤ a0 ∧ a0 < 9223372036854775808 := ⟨Int.le_trans (by decide) h1.1, Int.lt_of_lt_of_le (Int.lt_trans h1.2.1 h2) (by decide)⟩
theorem om64 {a0 : Nat} {a1 : Int} (h1 : (↑a0 : Int) < 2 ^ 63) (h2 : -(↑a0 : Int) ≤ a1) : -2 ^ 63 ≤ a1 := Int.le_trans (Int.neg_le_neg (Int.le_of_lt h1)) h2
theorem om65 {a0 : Nat} (h1 : (↑a0 : Int) < 2 ^ 63) : -2 ^ 63 ≤ -(↑a0 : Int) := by omega
theorem om68 {a0 : Int} {a1 : Int} (h1 : -(↑(2 ^ 24) : Int) ≤ a0 ∧ a0 ≤ (↑(2 ^ 24) : Int) ∧ -(↑(2 ^ 24) : Int) ≤ a1 ∧ a1 ≤ (↑(2 ^ 24) : Int)) : -2 ^ 62 ≤ a0 := by omega
theorem om69 {a0 : Int} {a1 : Int} (h1 : -(↑(2 ^ 24) : Int) ≤ a0 ∧ a0 ≤ (↑(2 ^ 24) : Int) ∧ -(↑(2 ^ 24) : Int) ≤ a1 ∧ a1 ≤ (↑(2 ^ 24) : Int)) : a0 < 2 ^ 62 := Int.lt_of_le_of_lt h1.2.1 (by decide)
theorem om70 {a0 : Int} {a1 : Int} (h1 : -(↑(2 ^ 24) : Int) ≤ a0 ∧ a0 ≤ (↑(2 ^ 24) : Int) ∧ -(↑(2 ^ 24) : Int) ≤ a1 ∧ a1 ≤ (↑(2 ^ 24) : Int)) : -2 ^ 62 ≤ a1 := by omega
theorem om71 {a0 : Int} {a1 : Int} (h1 : -(↑(2 ^ 24) : Int) ≤ a0 ∧ a0 ≤ (↑(2 ^ 24) : Int) ∧ -(↑(2 ^ 24) : Int) ≤ a1 ∧ a1 ≤ (↑(2 ^ 24) : Int)) : a1 < 2 ^ 62 := by omega
theorem om72 {a0 : Nat} {a1 : Nat} (h1 : a0 + 1 ≤ a1) : a0 ≤ a1 := Nat.le_of_lt h1
theorem om183 {a0 : Nat} {a1 : Nat} (h1 : a0 ≤ a1) : (-(↑a1 : Int) ≤ (↑a0 : Int) ∧ (↑a0 : Int) ≤ (↑a1 : Int)) ∧ -(↑a1 : Int) ≤ 0 ∧ 0 ≤ (↑a1 : Int) := ⟨⟨Int.le_trans (Int.neg_nonpos_of_nonneg (Int.natCast_nonneg a1)) (Int.natCast_nonneg a0), Int.ofNat_le.mpr h1⟩, Int.neg_nonpos_of_nonneg (Int.natCast_nonneg a1), Int.natCast_nonneg a1⟩
end Mine
namespace Mine
open PySem
noncomputable def lamP : Str := lamN ++ ".<locals>."
noncomputable def lamQ : Str := lamP ++ "<lambda>"
noncomputable def isFields (d : Data) : Bool := match d with
  | .fields _ => true
  | _ => false
noncomputable def codeCls (c : Value) : Bool := match c with
  | .none => true
  | .type s => s == "code"
  | _ => false
noncomputable def isTab (o : Obj) : Bool := isFields o.data && codeCls o.cls
noncomputable abbrev tabE : Obj := { cls := .none, data := .fields #[] }
noncomputable def LamAt (h : Heap) (c : Addr) : Prop := ∃ o vs t, h.get? c = some o ∧ o.cls = .type "code" ∧ o.data = .fields vs ∧ vs[1]? = some (.str lamQ t)
inductive TrOk (h : Heap) : List Value → Prop
  | nil : TrOk h []
  | cons {a t b u c r} (hc : LamAt h c) (hr : TrOk h r) : TrOk h (.int a t :: .int b u :: .ref c :: r)
noncomputable def GoodT (h : Heap) (o : Obj) : Prop := ∃ xs, o = { cls := .none, data := .fields xs } ∧ TrOk h xs.toList
open Classical in
noncomputable def gat (h : Heap) (a : Addr) : Option Obj :=
  if a = tb then (h.get? a).bind fun o => if isTab o = true then (if GoodT h o then some tabE else none) else some o else h.get? a

section
variable {h h' : Heap} {a : Addr} {o : Obj}
theorem isTab_code (hc : o.cls = .type "code") {vs : Array Value} (hd : o.data = .fields vs) : isTab o = true := by
  unfold isTab; rw [hc, hd]; rfl
noncomputable abbrev KC (h h' : Heap) : Prop := ∀ b o, h.get? b = some o → isTab o = true → o.cls ≠ .none → h'.get? b = some o
theorem LamAt.mono {c : Addr} (x : LamAt h c) (hk : KC h h') : LamAt h' c :=
  x.elim fun o x => x.elim fun vs x => x.elim fun t x => ⟨o, vs, t, hk _ _ x.1 (isTab_code x.2.1 x.2.2.1) (by rw [x.2.1]; nofun), x.2⟩
theorem TrOk.mono (hk : KC h h') {l : List Value} (x : TrOk h l) : TrOk h' l := x.rec .nil fun hc _ ih => .cons (hc.mono hk) ih
theorem GoodT.mono (x : GoodT h o) (hk : KC h h') : GoodT h' o := x.elim fun xs x => ⟨xs, x.1, x.2.mono hk⟩
theorem GoodT.tab (x : GoodT h o) : isTab o = true := let ⟨_, e, _⟩ := x; e ▸ rfl
theorem GoodT.empty : GoodT h tabE := ⟨#[], rfl, .nil⟩

theorem Heap.gt_ne (hn : a ≠ tb) : gat h a = h.get? a := by unfold gat; rw [if_neg hn]
theorem Heap.gt_of (e : h.get? a = some o) (ht : isTab o = false := by rfl) : gat h a = some o := by
  unfold gat; split
  · rw [e, Option.bind_some, if_neg (by rw [ht]; nofun)]
  · exact e
theorem Heap.gt_good (e : h.get? tb = some o) (g : GoodT h o) : gat h tb = some tabE := by
  unfold gat; rw [if_pos rfl, e, Option.bind_some, if_pos g.tab, if_pos g]
theorem Heap.gt_some (e : gat h a = some o) : ∃ o', h.get? a = some o' ∧ (o' = o ∧ (a = tb → isTab o = false) ∨ a = tb ∧ o = tabE ∧ GoodT h o') := by
  unfold gat at e
  split at e
  · rename_i q
    rw [Option.bind_eq_some_iff] at e
    obtain ⟨o', e1, e2⟩ := e
    split at e2
    · split at e2
      · rename_i g; cases e2; exact ⟨o', e1, .inr ⟨q, rfl, g⟩⟩
      · cases e2
    · rename_i ht; cases e2; exact ⟨_, e1, .inl ⟨rfl, fun _ => by simpa using ht⟩⟩
  · rename_i q; exact ⟨o, e, .inl ⟨rfl, fun e => absurd e q⟩⟩
theorem Heap.of_gt' (e : gat h a = some o) (hne : o.cls ≠ .none) : h.get? a = some o := by
  obtain ⟨o', e1, ⟨rfl, _⟩ | ⟨_, e2, _⟩⟩ := gt_some e
  · exact e1
  · subst e2; exact absurd rfl hne
theorem Heap.of_gt (e : gat h a = some o) (ht : isTab o = false := by rfl) : h.get? a = some o := by
  obtain ⟨o', e1, ⟨rfl, _⟩ | ⟨_, e2, _⟩⟩ := gt_some e
  · exact e1
  · subst e2; cases ht
theorem Heap.gt_lt (e : gat h a = some o) : @LT.lt Nat _ a h.objs.size := let ⟨_, e, _⟩ := gt_some e; Heap.lt_size e
theorem Heap.gt_lift {F : Addr → Prop} (hF : ∀ b o, h.get? b = some o → isTab o = true → F b) (hk : ∀ b o, F b → h.get? b = some o → h'.get? b = some o) : ∀ b o, F b → gat h b = some o → gat h' b = some o := fun b o f e => by
  obtain ⟨o', e', ⟨rfl, q⟩ | ⟨rfl, rfl, g⟩⟩ := gt_some e
  · by_cases hb : b = tb
    · exact gt_of (hk b o' f e') (q hb)
    · rw [gt_ne hb]; exact hk b o' f e'
  · exact gt_good (hk _ o' f e') (g.mono fun b o e ht _ => hk b o (hF b o e ht) e)
noncomputable def KH (h h' : Heap) : Prop := ∀ b o, gat h b = some o → gat h' b = some o
theorem Heap.gt_up (hk : ∀ b o, h.get? b = some o → h'.get? b = some o) : KH h h' :=
  fun b o e => gt_lift (F := fun _ => True) (fun _ _ _ _ => trivial) (fun b o _ e => hk b o e) b o trivial e
theorem Heap.gt_push_of_some (x : Obj) (e : gat h a = some o) : gat (h.push x) a = some o := gt_up (fun _ _ e => Heap.get?_push_of_some _ e) a o e
theorem Heap.gt_push_size (x : Obj) (hf : x.isFreed = false) (ht : isTab x = false := by rfl) : gat (h.push x) h.objs.size = some x := gt_of (Heap.get?_push_size _ hf) ht
theorem Heap.gt_none_of_le (e : @LE.le Nat _ h.objs.size a) : gat h a = none := by
  cases q : gat h a with
  | none => rfl
  | some o => obtain ⟨o', e', _⟩ := gt_some q; rw [Heap.get?_none_of_le e] at e'; cases e'
theorem g1 {b : Addr} (hs : Heap.SameBut b h h') (n : ∀ o, h.get? b = some o → isTab o = false) (a : Addr) (hn : a ≠ b) (e : gat h a = some o) : gat h' a = some o :=
  Heap.gt_lift (F := fun x => x ≠ b) (fun x o e ht q => by rw [n o (q ▸ e)] at ht; cases ht) (fun x o hx e => (hs.2 x hx).trans e) a o hn e
structure Heap.SB (b : Addr) (h h' : Heap) : Prop where
  s : Heap.SameBut b h h'
  n : ∀ o, h.get? b = some o → isTab o = false
  n' : ∀ o, h'.get? b = some o → isTab o = false
theorem Heap.SB.g {b : Addr} (hs : Heap.SB b h h') (a : Addr) (hn : a ≠ b) : gat h' a = gat h a := by
  have one : ∀ {h h' : Heap}, Heap.SB b h h' → ∀ o, gat h a = some o → gat h' a = some o := fun {h h'} hs o e =>
    gt_lift (F := fun x => x ≠ b) (fun x o e ht q => by rw [hs.n o (q ▸ e)] at ht; cases ht) (fun x o hx e => (hs.s.2 x hx).trans e) a o hn e
  have hs' : Heap.SB b h' h := ⟨⟨hs.s.1.symm, fun x hx => (hs.s.2 x hx).symm⟩, hs.n', hs.n⟩
  cases q : gat h a with
  | some o => exact one hs o q
  | none =>
    cases q' : gat h' a with
    | none => rfl
    | some o => rw [one hs' o q'] at q; cases q
theorem notTab_of {o : Obj} (h : ∀ v, o.data ≠ .fields v) : isTab o = false := by
  have e : isFields o.data = false := by
    generalize o.data = d at h
    cases d <;> first | rfl | exact absurd rfl (h _)
  unfold isTab; rw [e]; rfl
theorem notTab_cls {o : Obj} (h : o.cls ≠ .none) (h2 : o.cls ≠ .type "code") : isTab o = false := by
  have e : codeCls o.cls = false := by
    generalize o.cls = c at h h2
    cases c <;> first | rfl | exact absurd rfl h | exact decide_eq_false fun e => h2 (congrArg Value.type e)
  unfold isTab; rw [e, Bool.and_false]
theorem notTab_at (e : h.get? a = some o) (ht : isTab o = false := by rfl) : ∀ o, h.get? a = some o → isTab o = false := fun o' e' => by
  rw [e] at e'; cases e'; exact ht
theorem notTab_ns {m : Str → Option Value} (x : h.Ns a m) : ∀ o, h.get? a = some o → isTab o = false :=
  let ⟨_, _, _, e, hd, _⟩ := x; notTab_at e (notTab_of (by rw [hd]; nofun))
theorem notTab_cell {v : Option Value} (x : h.IsCell a v) : ∀ o, h.get? a = some o → isTab o = false :=
  let ⟨_, e, hd⟩ := x; notTab_at e (notTab_of (by rw [hd]; nofun))
theorem gt_ns {m : Str → Option Value} (x : h.Ns a m) : ∃ o, gat h a = some o := let ⟨_, _, _, e, _⟩ := id x; ⟨_, Heap.gt_of e (notTab_ns x _ e)⟩
theorem gt_cell {v : Option Value} (x : h.IsCell a v) : ∃ o, gat h a = some o := let ⟨_, e, _⟩ := id x; ⟨_, Heap.gt_of e (notTab_cell x _ e)⟩
end
end Mine
namespace Mine
open PySem

inductive D where
  | none
  | bool (b : Bool)
  | int (i : Int)
  | str (x : Str)
  | tup (ds : List D)
  | list (ds : List D)
  | dict (ks : List D) (vs : List D)
  | rng (a b : Int)
  | ptr (a : Addr)

noncomputable def big : Nat := 2 ^ 24

noncomputable def hashC (P : Params) : D → Int
  | .int i => hashInt i
  | .str x => if x.cps.isEmpty = true then 0 else reduceHash (P.strHash x.cps)
  | _ => 0
noncomputable def hashK (P : Params) : D → Int
  | .tup ds => reduceHash (Builtin.Tuple.tupleHashOf (ds.map (hashC P)))
  | d => hashC P d
noncomputable def D.isCell : D → Bool
  | .int _ | .str _ => true
  | _ => false
noncomputable def D.isKey : D → Bool
  | .int _ | .str _ => true
  | .tup ds => ds.all D.isCell
  | _ => false

noncomputable abbrev tupO (vs : Array Value) (n : Nat) : Obj := { cls := .type "tuple", dict := Option.none, data := .seq vs n, slots := #[] }
noncomputable abbrev lstO (vs : Array Value) (n : Nat) : Obj := { cls := .type "list", dict := Option.none, data := .seq vs n, slots := #[] }
noncomputable abbrev dicO (es : Array DictEntry) (n : Nat) : Obj := { cls := .type "dict", dict := Option.none, data := .dict es n, slots := #[] }

inductive RSeq (mkO : Array Value → Nat → Obj) (h : Heap) (H : Addr → Prop) (n : Nat) (R : List Value → Prop) : Value → Prop
  | mk {a vs k} (ho : h.get? a = some (mkO vs k)) (hn : ¬ H a) (hl : n ≤ big) (hr : R vs.toList) : RSeq mkO h H n R (.ref a)
inductive RDct (P : Params) (h : Heap) (H : Addr → Prop) (ks : List D) (R1 R2 : List Value → Prop) : Value → Prop
  | mk {a es n} (ho : h.get? a = some (dicO es n)) (hn : ¬ H a) (hl : ks.length ≤ big) (h1 : R1 (es.toList.map (·.key))) (h2 : R2 (es.toList.map (·.val))) (hh : es.toList.map (·.hash) = ks.map (hashK P)) (hk : ks.all D.isKey = true) (hd : ks.Nodup) (hs : (a == sysModules) = false) : RDct P h H ks R1 R2 (.ref a)
inductive RRng (h : Heap) (H : Addr → Prop) (lo hi : Int) : Value → Prop
  | mk {a t u v} (hr : IsRange h a lo hi 1 t u v) (hn : ¬ H a) (hl : -big ≤ lo ∧ lo ≤ big ∧ -big ≤ hi ∧ hi ≤ big) : RRng h H lo hi (.ref a)
inductive RInt (i : Int) : Value → Prop
  | mk (t) : RInt i (.int i t)
inductive RStr (x : Str) : Value → Prop
  | mk (t) : RStr x (.str x t)
inductive RCons (p : Value → Prop) (q : List Value → Prop) : List Value → Prop
  | mk {v vs} (h1 : p v) (h2 : q vs) : RCons p q (v :: vs)
mutual
noncomputable def Rep (P : Params) (h : Heap) (H : Addr → Prop) (v : Value) (d : D) : Prop := match d with
  | .none => v = .none
  | .bool b => v = .bool b
  | .int i => RInt i v
  | .str x => RStr x v
  | .tup ds => RSeq tupO h H ds.length (fun vs => RepAll P h H vs ds) v
  | .list ds => RSeq lstO h H ds.length (fun vs => RepAll P h H vs ds) v
  | .dict ks vs => RDct P h H ks (fun l => RepAll P h H l ks) (fun l => RepAll P h H l vs) v
  | .rng lo hi => RRng h H lo hi v
  | .ptr a => v = .ref a
termination_by structural d
noncomputable def RepAll (P : Params) (h : Heap) (H : Addr → Prop) (vs : List Value) (ds : List D) : Prop := match ds with
  | [] => vs = []
  | d :: ds => RCons (fun v => Rep P h H v d) (fun l => RepAll P h H l ds) vs
termination_by structural ds
end
section
variable {P : Params} {h h' : Heap} {H H' : Addr → Prop} {v : Value} {d : D} {vs : List Value} {ds : List D}
theorem Rep.int (i : Int) (t : Tok) : Rep P h H (.int i t) (.int i) := .mk t
theorem Rep.str (x : Str) (t : Tok) : Rep P h H (.str x t) (.str x) := .mk t
theorem Rep.tup {a : Addr} {vs : Array Value} {n : Nat} (ho : h.get? a = some (tupO vs n)) (hn : ¬ H a) (hl : ds.length ≤ big) (hr : RepAll P h H vs.toList ds) : Rep P h H (.ref a) (.tup ds) := .mk ho hn hl hr
theorem RepAll.nil : RepAll P h H [] [] := rfl
theorem RepAll.cons (h1 : Rep P h H v d) (h2 : RepAll P h H vs ds) : RepAll P h H (v :: vs) (d :: ds) := .mk h1 h2
noncomputable abbrev Kept (h : Heap) (H : Addr → Prop) (h' : Heap) : Prop := ∀ a o, ¬ H a → gat h a = some o → gat h' a = some o
noncomputable abbrev Less (h : Heap) (H H' : Addr → Prop) : Prop := ∀ a o, gat h a = some o → H' a → H a
theorem at_mono {a : Addr} {o : Obj} (hk : Kept h H h') (ho : h.get? a = some o) (hn : ¬ H a) (ht : isTab o = false) : h'.get? a = some o := Heap.of_gt (hk _ _ hn (Heap.gt_of ho ht)) ht
theorem off_mono {a : Addr} {o : Obj} (hH : Less h H H') (ho : h.get? a = some o) (hn : ¬ H a) (ht : isTab o = false) : ¬ H' a := fun x => hn (hH _ _ (Heap.gt_of ho ht) x)
theorem RSeq.mono {mkO : Array Value → Nat → Obj} {n : Nat} {R R' : List Value → Prop} (ht : ∀ vs k, isTab (mkO vs k) = false) (hk : Kept h H h') (hH : Less h H H') (r : RSeq mkO h H n R v) (hR : ∀ l, R l → R' l) : RSeq mkO h' H' n R' v :=
  r.rec fun ho hn hl hr => .mk (at_mono hk ho hn (ht _ _)) (off_mono hH ho hn (ht _ _)) hl (hR _ hr)
theorem Rep.mono (hk : Kept h H h') (hH : Less h H H') (r : Rep P h H v d) : Rep P h' H' v d :=
  D.rec (motive_1 := fun d => ∀ v, Rep P h H v d → Rep P h' H' v d) (motive_2 := fun ds => ∀ l, RepAll P h H l ds → RepAll P h' H' l ds)
    (fun _ r => r) (fun _ _ r => r) (fun _ _ r => r) (fun _ _ r => r)
    (fun _ ih _ r => RSeq.mono (fun _ _ => rfl) hk hH r ih) (fun _ ih _ r => RSeq.mono (fun _ _ => rfl) hk hH r ih)
    (fun _ _ i1 i2 _ r => RDct.rec (fun ho hn hl h1 h2 hh hk' hd hs => .mk (at_mono hk ho hn rfl) (off_mono hH ho hn rfl) hl (i1 _ h1) (i2 _ h2) hh hk' hd hs) r)
    (fun _ _ _ r => RRng.rec (fun hr hn hl => .mk (at_mono hk hr hn rfl) (off_mono hH hr hn rfl) hl) r)
    (fun _ _ r => r)
    (fun _ r => r) (fun _ _ i1 i2 _ r => RCons.rec (fun h1 h2 => .mk (i1 _ h1) (i2 _ h2)) r) d v r
theorem RepAll.mono (hk : Kept h H h') (hH : Less h H H') (r : RepAll P h H vs ds) : RepAll P h' H' vs ds :=
  List.rec (motive := fun ds => ∀ l, RepAll P h H l ds → RepAll P h' H' l ds) (fun _ r => r) (fun _ _ ih _ r => RCons.rec (fun h1 h2 => .mk (Rep.mono hk hH h1) (ih _ h2)) r) ds vs r
theorem Rep.keeps (hr : Rep P h H v d) (hk : KH h h') : Rep P h' H v d := hr.mono (fun a o _ e => hk a o e) fun _ _ _ x => x
theorem RepAll.keeps (hr : RepAll P h H vs ds) (hk : KH h h') : RepAll P h' H vs ds := hr.mono (fun a o _ e => hk a o e) fun _ _ _ x => x
theorem Rep.sub (hr : Rep P h H v d) (hH : ∀ a, H' a → H a) : Rep P h H' v d := hr.mono (fun _ _ _ e => e) fun a _ _ x => hH a x
theorem RepAll.length (r : RepAll P h H vs ds) : vs.length = ds.length :=
  List.rec (motive := fun ds => ∀ l, RepAll P h H l ds → l.length = ds.length) (fun _ r => congrArg List.length r) (fun _ _ ih _ r => RCons.rec (fun _ h2 => congrArg Nat.succ (ih _ h2)) r) ds vs r
theorem RepAll.size {vs : Array Value} (r : RepAll P h H vs.toList ds) : vs.size = ds.length := r.length
theorem RepAll.append {ws : List Value} {es : List D} (r : RepAll P h H vs ds) (k : RepAll P h H ws es) : RepAll P h H (vs ++ ws) (ds ++ es) :=
  List.rec (motive := fun ds => ∀ l, RepAll P h H l ds → RepAll P h H (l ++ ws) (ds ++ es)) (fun l r => (show l = [] from r) ▸ k) (fun _ _ ih _ r => RCons.rec (fun h1 h2 => .mk h1 (ih _ h2)) r) ds vs r
theorem RepAll.reverse (r : RepAll P h H vs ds) : RepAll P h H vs.reverse ds.reverse :=
  List.rec (motive := fun ds => ∀ l, RepAll P h H l ds → RepAll P h H l.reverse ds.reverse) (fun l r => (show l = [] from r) ▸ rfl) (fun d ds ih _ r => RCons.rec (motive := fun l _ => RepAll P h H l.reverse (d :: ds).reverse) (fun h1 h2 => by rw [List.reverse_cons, List.reverse_cons]; exact (ih _ h2).append (.cons h1 .nil)) r) ds vs r
theorem RepAll.get (i : Nat) (r : RepAll P h H vs ds) (e : ds[i]? = some d) : ∃ v, vs[i]? = some v ∧ Rep P h H v d :=
  List.rec (motive := fun ds => ∀ l i, RepAll P h H l ds → ds[i]? = some d → ∃ v, l[i]? = some v ∧ Rep P h H v d) (fun _ _ _ e => by rw [List.getElem?_nil] at e; cases e)
    (fun _ _ ih _ i r => RCons.rec (fun h1 h2 => Nat.rec (fun e => ⟨_, rfl, Option.some.inj e ▸ h1⟩) (fun i _ e => ih _ i h2 e) i) r) ds vs i r e
theorem RepAll.drop (i : Nat) (r : RepAll P h H vs ds) : RepAll P h H (vs.drop i) (ds.drop i) :=
  List.rec (motive := fun ds => ∀ l i, RepAll P h H l ds → RepAll P h H (l.drop i) (ds.drop i)) (fun l i r => by rw [show l = [] from r, List.drop_nil, List.drop_nil]; rfl)
    (fun _ _ ih _ i r => RCons.rec (fun h1 h2 => Nat.rec (.mk h1 h2) (fun i _ => ih _ i h2) i) r) ds vs i r
theorem RepAll.take (i : Nat) (r : RepAll P h H vs ds) : RepAll P h H (vs.take i) (ds.take i) :=
  List.rec (motive := fun ds => ∀ l i, RepAll P h H l ds → RepAll P h H (l.take i) (ds.take i)) (fun l i r => by rw [show l = [] from r, List.take_nil, List.take_nil]; rfl)
    (fun _ _ ih _ i r => RCons.rec (fun h1 h2 => Nat.rec rfl (fun i _ => .mk h1 (ih _ i h2)) i) r) ds vs i r
end
noncomputable def D.scalar : D → Bool
  | .none | .bool _ | .int _ | .str _ => true
  | _ => false
theorem Rep.scalar {P : Params} {h h' : Heap} {H H' : Addr → Prop} {v : Value} {d : D} (hr : Rep P h H v d) (hs : d.scalar = true) : Rep P h' H' v d :=
  D.casesOn (motive_1 := fun d => d.scalar = true → Rep P h H v d → Rep P h' H' v d) d (fun _ r => r) (fun _ _ r => r) (fun _ _ r => r) (fun _ _ r => r) (fun _ h => nomatch h) (fun _ h => nomatch h) (fun _ _ h => nomatch h) (fun _ _ h => nomatch h)
    (fun _ h => nomatch h)
    hs hr
theorem ref_off {H : Addr → Prop} {a b : Addr} (hn : ¬ H a) (e : Value.ref a = .ref b) : ¬ H b := Value.ref.inj e ▸ hn
theorem RSeq.off {mkO : Array Value → Nat → Obj} {h : Heap} {H : Addr → Prop} {n : Nat} {R : List Value → Prop} {v : Value} {b : Addr} (r : RSeq mkO h H n R v) : v = .ref b → ¬ H b := r.rec fun _ hn _ _ e => ref_off hn e
theorem ofString_inj {a b : String} (h : Str.ofString a = Str.ofString b) : a = b := by
  rw [Str.ofString_eq_toList, Str.ofString_eq_toList] at h
  have h1 : a.toList.map Char.toNat = b.toList.map Char.toNat := by simpa using h
  have h2 : a.toList = b.toList := by
    generalize a.toList = l at h1; generalize b.toList = m at h1
    induction l generalizing m with
    | nil => cases m <;> simp_all
    | cons x l ih =>
      cases m with
      | nil => simp at h1
      | cons y m =>
        simp only [List.map_cons, List.cons.injEq] at h1
        have : x = y := by
          have := h1.1
          exact Char.toNat_inj.mp this
        rw [this, ih _ h1.2]
  exact String.toList_inj.mp h2

end Mine
namespace Mine
open PySem PySem.SeqAt
noncomputable abbrev CK := Int ⊕ Str
noncomputable def ofCK : CK → D
  | .inl i => .int i
  | .inr x => .str x
noncomputable def CK.is : CK → Value → Bool
  | .inl i, v => Value.isInt i v
  | .inr x, v => Value.isStrOf x v
theorem CK.is_inl {i : Int} {v : Value} (h : CK.is (.inl i) v = true) : ∃ t, v = .int i t := Value.isInt_shape h
theorem CK.is_inr {x : Str} {v : Value} (h : CK.is (.inr x) v = true) : ∃ t, v = .str x t := Value.isStrOf_shape h
theorem CK.cases {C : CK → Value → Prop} {k : CK} {v : Value} (h : CK.is k v = true) (hi : ∀ i t, C (.inl i) (.int i t)) (hs : ∀ x t, C (.inr x) (.str x t)) : C k v :=
  match k, h with
  | .inl _, h => (CK.is_inl h).elim fun t e => e ▸ hi _ t
  | .inr _, h => (CK.is_inr h).elim fun t e => e ▸ hs _ t
theorem CK.inj {v : Value} {a b : CK} (ha : CK.is a v = true) (hb : CK.is b v = true) : a = b := by
  cases a <;> cases b
  · obtain ⟨t, rfl⟩ := CK.is_inl ha
    obtain ⟨u, e⟩ := CK.is_inl hb
    cases e; rfl
  · obtain ⟨t, rfl⟩ := CK.is_inl ha
    obtain ⟨u, e⟩ := CK.is_inr hb
    cases e
  · obtain ⟨t, rfl⟩ := CK.is_inr ha
    obtain ⟨u, e⟩ := CK.is_inl hb
    cases e
  · obtain ⟨t, rfl⟩ := CK.is_inr ha
    obtain ⟨u, e⟩ := CK.is_inr hb
    cases e; rfl
theorem decide_inl (i j : Int) : decide ((Sum.inl i : CK) = .inl j) = decide (i = j) := decide_eq_decide.mpr ⟨Sum.inl.inj, congrArg _⟩
theorem decide_inr (i j : Str) : decide ((Sum.inr i : CK) = .inr j) = decide (i = j) := decide_eq_decide.mpr ⟨Sum.inr.inj, congrArg _⟩
noncomputable def cellKind (prog : Program) (w : World) : KeyKind prog w CK where
  is := CK.is
  hash := fun k => hashK w.params (ofCK k)
  inj := fun v a b ha hb => CK.inj ha hb
  byValue := fun k v h => CK.cases (C := fun _ v => carriedByValue v = true) h (fun _ _ => rfl) fun _ _ => rfl
  pyHash := fun {A E s k v Q} hv => CK.cases (C := fun k v => Q (hashK w.params (ofCK k)) { s with toks := s.toks + 1 } → wpAny (model prog w) A (pyHash v) Q E s) hv (fun _ _ h => wpAny_pyHash_int h) fun _ _ h => wpAny_pyHash_str h
  eqBool := fun {A E s a b u v Q} hu hv => CK.cases (C := fun a u => Q (decide (a = b)) s → wpAny (model prog w) A (PySem.eqBool u v) Q E s) hu
    (fun i t => CK.cases (C := fun b v => Q (decide (.inl i = b)) s → wpAny (model prog w) A (PySem.eqBool (.int i t) v) Q E s) hv (fun j _ h => wpAny_eqBool_int (show Q (decide (i = j)) s from decide_inl i j ▸ h)) fun _ _ h => EqAt.int_str _ _ _ _ prog w E Q h)
    fun x t => CK.cases (C := fun b v => Q (decide (.inr x = b)) s → wpAny (model prog w) A (PySem.eqBool (.str x t) v) Q E s) hv (fun _ _ h => EqAt.str_int _ _ _ _ prog w E Q h) fun y _ h => wpAny_eqBool_str (show Q (decide (x = y)) s from decide_inr x y ▸ h)
  «strs» := fun k x t v h => by
    cases k
    · obtain ⟨u, e⟩ := CK.is_inl h; cases e
    · exact (strKind prog w).strs _ x t v h
theorem ofCK_inj {a b : CK} (h : ofCK a = ofCK b) : a = b := by
  cases a <;> cases b <;> cases h <;> rfl
theorem cell_ck {d : D} (h : d.isCell = true) : ∃ k, d = ofCK k :=
  D.casesOn (motive_1 := fun d => d.isCell = true → ∃ k, d = ofCK k) d (fun h => nomatch h) (fun _ h => nomatch h) (fun i _ => ⟨.inl i, rfl⟩) (fun x _ => ⟨.inr x, rfl⟩) (fun _ h => nomatch h) (fun _ h => nomatch h) (fun _ _ h => nomatch h) (fun _ _ h => nomatch h)
    (fun _ h => nomatch h)
    h
theorem cells_ck {ks : List D} (h : ks.all D.isCell = true) : ∃ cs : List CK, ks = cs.map ofCK := by
  induction ks with
  | nil => exact ⟨[], rfl⟩
  | cons k ks ih =>
    have h := Bool.and_eq_true_iff.mp (show (k.isCell && ks.all D.isCell) = true from h)
    exact (cell_ck h.1).elim fun c e => (ih h.2).elim fun cs e' => ⟨c :: cs, e ▸ e' ▸ rfl⟩
theorem isInt_self (i : Int) (t : Tok) : Value.isInt i (.int i t) = true := decide_eq_true rfl
theorem isStr_self (x : Str) (t : Tok) : Value.isStrOf x (.str x t) = true := by simp [Value.isStrOf]
theorem rep_ck {P : Params} {h : Heap} {H : Addr → Prop} {v : Value} {k : CK} (r : Rep P h H v (ofCK k)) : CK.is k v = true :=
  match k, r with
  | .inl i, r => RInt.rec (motive := fun v _ => CK.is (.inl i) v = true) (isInt_self i) r
  | .inr x, r => RStr.rec (motive := fun v _ => CK.is (.inr x) v = true) (isStr_self x) r
theorem ck_rep {P : Params} {h : Heap} {H : Addr → Prop} {v : Value} {k : CK} (r : CK.is k v = true) : Rep P h H v (ofCK k) := CK.cases (C := fun k v => Rep P h H v (ofCK k)) r (fun _ t => .int _ t) fun _ t => .str _ t
theorem RepAll.inv {P : Params} {h : Heap} {H : Addr → Prop} {v : Value} {vs : List Value} {d : D} {ds : List D} (r : RepAll P h H (v :: vs) (d :: ds)) : Rep P h H v d ∧ RepAll P h H vs ds := by
  cases r with
  | mk h1 h2 => exact ⟨h1, h2⟩
theorem RepAll.inv_nil {P : Params} {h : Heap} {H : Addr → Prop} {d : D} {ds : List D} {C : Prop} (r : RepAll P h H [] (d :: ds)) : C := by cases r
theorem pairs_of {prog : Program} {w : World} {h : Heap} {H : Addr → Prop} {es : List DictEntry} {cs : List CK} (r : RepAll w.params h H (es.map (·.key)) (cs.map ofCK)) : Pairs (cellKind prog w) es (cs.zip (es.map (·.val))) := by
  induction cs generalizing es with
  | nil =>
    cases es with
    | nil => exact .nil
    | cons _ _ => exact nomatch (show _ :: _ = [] from r)
  | cons c cs ih =>
    cases es with
    | nil => exact r.inv_nil
    | cons e es => exact .cons (rep_ck r.inv.1) rfl (ih r.inv.2)
theorem of_pairs {prog : Program} {w : World} {h : Heap} {H : Addr → Prop} {es : List DictEntry} {kvs : List (CK × Value)} (hp : Pairs (cellKind prog w) es kvs) : RepAll w.params h H (es.map (·.key)) (kvs.map fun p => ofCK p.1) ∧ es.map (·.val) = kvs.map (·.2) :=
  hp.rec ⟨rfl, rfl⟩ fun h1 h2 _ ih => ⟨.mk (ck_rep h1) ih.1, congr (congrArg List.cons h2) ih.2⟩
theorem zip_fst {α β : Type} {a : List α} {b : List β} (h : a.length = b.length) : (a.zip b).map (·.1) = a := List.map_fst_zip (Nat.le_of_eq h)
theorem zip_snd {α β : Type} {a : List α} {b : List β} (h : a.length = b.length) : (a.zip b).map (·.2) = b := List.map_snd_zip (Nat.le_of_eq h.symm)
theorem dictOf_rep {prog : Program} {w : World} {h : Heap} {H : Addr → Prop} {a : Addr} {es : Array DictEntry} {n : Nat} {cs : List CK} (ho : h.get? a = some (dicO es n)) (hr : RepAll w.params h H (es.toList.map (·.key)) (cs.map ofCK))
    (hh : es.toList.map (·.hash) = (cs.map ofCK).map (hashK w.params)) (hn : (cs.map ofCK).Nodup) : h.DictOf (cellKind prog w) a (cs.zip (es.toList.map (·.val))) := by
  have hl : cs.length = (es.toList.map (·.val)).length := by have := hr.length; simp at this ⊢; exact om43 this
  refine ⟨_, es, n, ho, ⟨rfl, rfl, rfl⟩, rfl, ?_, pairs_of hr, ?_⟩
  · intro e he
    obtain ⟨i, hi, rfl⟩ := List.mem_iff_getElem.mp (Array.mem_toList_iff.mpr he)
    have hc : i < cs.length := by rw [hl]; simpa using hi
    refine ⟨cs[i], ?_, ?_⟩
    · obtain ⟨v, h1, h2⟩ := hr.get i (d := ofCK cs[i]) (by simp [hc])
      have : v = es.toList[i].key := by simpa [List.getElem?_eq_getElem hi] using h1.symm
      exact rep_ck (this ▸ h2)
    · have := congrArg (fun l => l[i]?) hh
      show _ = hashK w.params (ofCK cs[i])
      simpa [List.getElem?_eq_getElem hi, hc] using this
  · rw [zip_fst hl]
    exact (List.pairwise_map.mp hn).imp fun h e => h (by rw [e])
theorem rep_dictOf {prog : Program} {w : World} {h : Heap} {H : Addr → Prop} {a : Addr} {kvs : List (CK × Value)} (hd : h.DictOf (cellKind prog w) a kvs) :
    ∃ es n, h.get? a = some (dicO es n) ∧ RepAll w.params h H (es.toList.map (·.key)) (kvs.map fun p => ofCK p.1) ∧ es.toList.map (·.val) = kvs.map (·.2) ∧ es.toList.map (·.hash) = (kvs.map fun p => ofCK p.1).map (hashK w.params) ∧
      (kvs.map fun p => ofCK p.1).all D.isKey = true ∧ (kvs.map fun p => ofCK p.1).Nodup := by
  obtain ⟨o, es, ep, ho, ⟨c1, c2, c3⟩, hdat, hk, hp, hn⟩ := hd
  obtain ⟨p1, p2⟩ := of_pairs (h := h) (H := H) hp
  have ho' : o = dicO es ep := by obtain ⟨a, b, c, d⟩ := o; dsimp only at c1 c2 c3 hdat; subst c1 c2 c3 hdat; rfl
  refine ⟨es, ep, ho' ▸ ho, p1, p2, ?_, ?_, ?_⟩
  · have key : ∀ (l : List DictEntry) (kvs : List (CK × Value)), (∀ e ∈ l, ∃ k, (cellKind prog w).is k e.key = true ∧ e.hash = (cellKind prog w).hash k) → Pairs (cellKind prog w) l kvs → l.map (·.hash) = (kvs.map fun p => ofCK p.1).map (hashK w.params) := by
      intro l kvs hk hp
      induction hp with
      | nil => rfl
      | cons h1 h2 h3 ih =>
        obtain ⟨k, q1, q2⟩ := hk _ (List.mem_cons_self)
        have e := (cellKind prog w).inj _ _ _ q1 h1
        rw [e] at q2
        rw [List.map_cons, List.map_cons, List.map_cons, ih fun e he => hk e (List.mem_cons_of_mem _ he), q2]
        rfl
    exact key _ _ (fun e he => hk e (Array.mem_toList_iff.mp he)) hp
  · rw [List.all_eq_true]
    intro d hd
    obtain ⟨p, _, rfl⟩ := List.mem_map.mp hd
    cases p.1 <;> rfl
  · have : (kvs.map fun p => ofCK p.1) = (kvs.map (·.1)).map ofCK := by simp
    rw [this]
    exact List.pairwise_map.mpr (hn.imp fun h e => h (ofCK_inj e))

noncomputable def cellEq (a b : D) : Bool := match a with
  | .int i => (match b with | .int j => i == j | _ => false)
  | .str x => (match b with | .str y => x == y | _ => false)
  | _ => false
noncomputable def cellsEq : List D → List D → Bool
  | [], [] => true
  | a :: r, b :: r' => cellEq a b && cellsEq r r'
  | _, _ => false
noncomputable def keyEq (a b : D) : Bool := match a with
  | .tup x => (match b with | .tup y => cellsEq x y | _ => false)
  | a => cellEq a b
noncomputable def dget : List D → List D → D → Option D
  | k :: ks, v :: vs, x => if keyEq k x then some v else dget ks vs x
  | _, _, _ => Option.none
noncomputable def dput : List D → List D → D → D → List D × List D
  | k' :: ks, v' :: vs, k, v => if keyEq k' k then (k' :: ks, v :: vs) else (k' :: (dput ks vs k v).1, v' :: (dput ks vs k v).2)
  | _, _, k, v => ([k], [v])
theorem cellEq_ck (a b : CK) : cellEq (ofCK a) (ofCK b) = decide (a = b) :=
  match a, b with
  | .inl i, .inl j => (decide_inl i j).symm
  | .inl _, .inr _ => rfl
  | .inr _, .inl _ => rfl
  | .inr i, .inr j => (decide_inr i j).symm
theorem keyEq_ck (a b : CK) : keyEq (ofCK a) (ofCK b) = decide (a = b) :=
  (match a with
  | .inl _ => rfl
  | .inr _ => rfl : keyEq (ofCK a) (ofCK b) = cellEq (ofCK a) (ofCK b)).trans (cellEq_ck a b)
theorem dget_at (k v : D) (ks vs : List D) (x : D) : dget (k :: ks) (v :: vs) x = if keyEq k x then some v else dget ks vs x := rfl
theorem valueAt_cons (c k : CK) (v : Value) (l : List (CK × Value)) : valueAt ((c, v) :: l) k = if c = k then some v else valueAt l k := by
  unfold valueAt
  by_cases h : c = k
  · rw [if_pos h, List.find?_cons_of_pos (by simpa using h)]; rfl
  · rw [if_neg h, List.find?_cons_of_neg (by simpa using h)]
theorem dget_valueAt {P : Params} {h : Heap} {H : Addr → Prop} {k : CK} {d : D} {cs : List CK} {vals : List Value} {vs : List D} (r : RepAll P h H vals vs) (e : dget (cs.map ofCK) vs (ofCK k) = some d) : ∃ v, valueAt (cs.zip vals) k = some v ∧ Rep P h H v d := by
  induction cs generalizing vals vs with
  | nil => cases e
  | cons c cs ih =>
    cases vs with
    | nil => cases e
    | cons d' vs =>
      cases r with
      | mk hv hr =>
        rw [List.map_cons, dget_at, keyEq_ck] at e
        rw [List.zip_cons_cons, valueAt_cons]
        by_cases hc : c = k
        · rw [if_pos (decide_eq_true hc)] at e
          rw [if_pos hc]
          exact ⟨_, rfl, Option.some.inj e ▸ hv⟩
        · rw [if_neg (by simpa using hc)] at e
          rw [if_neg hc]
          exact ih hr e
theorem any_valueAt {k : CK} {cs : List CK} {vals : List Value} (e : cs.length = vals.length) : (valueAt (cs.zip vals) k).isSome = (cs.map ofCK).any fun x => keyEq x (ofCK k) := by
  induction cs generalizing vals with
  | nil => rfl
  | cons c cs ih =>
    cases vals with
    | nil => cases e
    | cons v vals =>
      rw [List.zip_cons_cons, valueAt_cons, List.map_cons, List.any_cons, keyEq_ck, ← ih (Nat.succ.inj e)]
      by_cases hc : c = k
      · rw [if_pos hc, decide_eq_true hc]; rfl
      · rw [if_neg hc, decide_eq_false hc]; rfl
theorem dput_at (k' v' : D) (ks vs : List D) (k v : D) : dput (k' :: ks) (v' :: vs) k v = if keyEq k' k then (k' :: ks, v :: vs) else (k' :: (dput ks vs k v).1, v' :: (dput ks vs k v).2) := rfl
theorem stored_dput {P : Params} {h : Heap} {H : Addr → Prop} {k : CK} {v : Value} {d : D} (hv : Rep P h H v d) {cs : List CK} {vals : List Value} {vs : List D} (e : cs.length = vals.length) (hn : cs.Nodup) (hr : RepAll P h H vals vs) :
    ((stored (cs.zip vals) k v).map fun p => ofCK p.1) = (dput (cs.map ofCK) vs (ofCK k) d).1 ∧ RepAll P h H ((stored (cs.zip vals) k v).map (·.2)) (dput (cs.map ofCK) vs (ofCK k) d).2 := by
  induction cs generalizing vals vs with
  | nil => exact ⟨rfl, .cons hv rfl⟩
  | cons c cs ih =>
    cases vs with
    | nil => rw [show vals = [] from hr] at e; cases e
    | cons d' vs =>
      cases hr with
      | @mk u vals hu hr =>
        have hl : cs.length = vals.length := Nat.succ.inj e
        have hn' := List.nodup_cons.mp hn
        rw [List.zip_cons_cons, List.map_cons, dput_at, keyEq_ck]
        by_cases hc : c = k
        · subst hc
          have hs : stored ((c, u) :: cs.zip vals) c v = (c, v) :: cs.zip vals := by
            unfold stored
            rw [if_pos (by simp), List.map_cons, if_pos rfl, map_store_of_not_mem _ _ _ (by rw [zip_fst hl]; exact hn'.1)]
          rw [hs, if_pos (decide_eq_true rfl)]
          refine ⟨congrArg (ofCK c :: ·) ?_, .cons hv (show RepAll P h H ((cs.zip vals).map (·.2)) vs from (zip_snd hl).symm ▸ hr)⟩
          have : (cs.zip vals).map (fun p => ofCK p.1) = ((cs.zip vals).map (·.1)).map ofCK := (List.map_map (f := fun (p : CK × Value) => p.1) (g := ofCK)).symm
          rw [this, zip_fst hl]
        · have hs : stored ((c, u) :: cs.zip vals) k v = (c, u) :: stored (cs.zip vals) k v := by
            unfold stored
            rw [List.any_cons, decide_eq_false (show ¬ (c, u).1 = k from hc), Bool.false_or]
            by_cases ha : (cs.zip vals).any (fun kv => decide (kv.1 = k)) = true
            · rw [if_pos ha, if_pos ha, List.map_cons, if_neg hc]
            · rw [if_neg ha, if_neg ha]; rfl
          have ih := ih hl hn'.2 hr
          rw [hs, if_neg (by simpa using hc)]
          exact ⟨congrArg (ofCK c :: ·) ih.1, .cons hu ih.2⟩
end Mine
namespace Mine
open PySem

inductive ME where
  | var (x : String)
  | glob (x : String)
  | int (i : Int)
  | str (s : String)
  | bool (b : Bool)
  | none
  | bin (op : Operator) (a b : ME)
  | cmp (op : CmpOp) (a b : ME)
  | bop (op : BoolOp) (es : List ME)
  | not (a : ME)
  | neg (a : ME)
  | tup (es : List ME)
  | lst (es : List ME)
  | sub (a i : ME)
  | sl (a lo hi : ME)
  | dct (ks vs : List ME)
  | comp (elt : ME) (x : String) (src : ME) (cs : List ME)
  | call (f : String) (args : List ME)
  | isi (a : ME) (T : String)
  | blt (f : String) (args : List ME)
  | lcp (a : ME)
  | rev (a : ME)

inductive MS where
  | assign (x : String) (e : ME)
  | append (x : String) (e : ME)
  | setk (x : String) (k e : ME)
  | ite (c : ME) (t f : List MS)
  | for_ (x : String) (src : ME) (body : List MS)
  | ret (e : ME)
  | bad
  | unp (x1 x2 x3 x4 f : String) (args : List ME)

noncomputable def D.isList : D → Bool
  | .list _ => true
  | _ => false
noncomputable def onI {α : Type} (d : D) (f : Int → Option α) : Option α := match d with | .int i => f i | _ => Option.none
noncomputable def onS {α : Type} (d : D) (f : Str → Option α) : Option α := match d with | .str i => f i | _ => Option.none
noncomputable def onB {α : Type} (d : D) (f : Bool → Option α) : Option α := match d with | .bool i => f i | _ => Option.none
noncomputable def onT {α : Type} (d : D) (f : List D → Option α) : Option α := match d with | .tup i => f i | _ => Option.none
noncomputable def onL {α : Type} (d : D) (f : List D → Option α) : Option α := match d with | .list i => f i | _ => Option.none
noncomputable def onC {α : Type} (d : D) (f : Int → Option α) (g : Str → Option α) : Option α := match d with | .int i => f i | .str x => g x | _ => Option.none
noncomputable def D.items : D → Option (List D)
  | .list ds | .tup ds => some ds
  | .rng a b => some ((List.range (b - a).toNat).map fun (i : Nat) => D.int (a + (i : Int)))
  | _ => Option.none

noncomputable def truth : D → Option Bool
  | .bool b => some b
  | .none => some false
  | .int i => some (i != 0)
  | .list ds | .tup ds => some (!ds.isEmpty)
  | _ => Option.none

noncomputable def eqS (a b : D) : Option Bool := match a with
  | .bool x => onB b fun y => some (x == y)
  | .int x => onC b (fun y => some (x == y)) fun _ => some false
  | .str x => onC b (fun _ => some false) fun y => some (x == y)
  | _ => Option.none
noncomputable def eqAll : List D → List D → Option Bool
  | [], [] => some true
  | a :: r, b :: r' => (eqS a b).bind fun x => (eqAll r r').map fun y => x && y
  | _, _ => some false
noncomputable def eqD (a b : D) : Option Bool := match a with
  | .list ds => onL b fun es => if ds.length = es.length then eqAll ds es else some false
  | .tup ds => onT b fun es => if ds.length = es.length then eqAll ds es else if es.length = 0 then some false else Option.none
  | a => eqS a b

noncomputable def eqX (a b : D) : Option Bool := eqD a b
noncomputable def lim : Int := 2 ^ 64
noncomputable def powLim : Int := 2 ^ 1000
noncomputable def strLim : Int := 10 ^ 100
noncomputable def binI (op : Operator) (a b : Int) : Option D := match op with
  | .Add => some (.int (a + b))
  | .Sub => some (.int (a - b))
  | .Mult => if (-lim < a ∧ a < lim) ∨ (-lim < b ∧ b < lim) then some (.int (a * b)) else Option.none
  | .FloorDiv => if 0 < b ∧ b < lim then some (.int (a / b)) else Option.none
  | .Mod => if 0 < b then some (.int (a % b)) else Option.none
  | .Pow => if -powLim < a ∧ a < powLim ∧ 0 ≤ b ∧ b ≤ 100 then some (.int (a ^ b.toNat)) else Option.none
  | _ => Option.none
noncomputable def binS (op : Operator) (a : Str) (d : D) : Option D := match op with
  | .Add => onS d fun b => if a.length + b.length ≤ big then some (.str (a ++ b)) else Option.none
  | .Mult => onI d fun n => if 0 ≤ n ∧ n ≤ 1000 ∧ a.length ≤ 1000 then some (.str (Txt.mul a n)) else Option.none
  | _ => Option.none
noncomputable def repL (a : List D) (n : Nat) : List D := (List.replicate n a).flatten
noncomputable def binL (op : Operator) (a : List D) (d : D) : Option D := match op with
  | .Add => onL d fun b => if a.length + b.length ≤ big then some (.list (a ++ b)) else Option.none
  | .Mult => onI d fun n => if 0 ≤ n ∧ n ≤ 1000 ∧ a.length * n.toNat ≤ big then some (.list (repL a n.toNat)) else Option.none
  | _ => Option.none
noncomputable def binT (op : Operator) (a : List D) (d : D) : Option D := match op with
  | .Add => onT d fun b => if a.length + b.length ≤ big then some (.tup (a ++ b)) else Option.none
  | _ => Option.none
noncomputable def binD (op : Operator) (x y : D) : Option D := match x with
  | .int a => onI y (binI op a)
  | .str a => binS op a y
  | .list a => binL op a y
  | .tup a => binT op a y
  | _ => Option.none

noncomputable def cmpI (op : CmpOp) (a b : Int) : Option D := match op with
  | .Lt => some (.bool (decide (a < b)))
  | .LtE => some (.bool (decide (a ≤ b)))
  | .Gt => some (.bool (decide (a > b)))
  | .GtE => some (.bool (decide (a ≥ b)))
  | _ => Option.none
noncomputable def ordD (op : CmpOp) (x y : D) : Option D := match x with
  | .int a => onI y (cmpI op a)
  | .str a => onS y fun b => (match op with | .Lt => some (.bool (decide (a.cps.toList < b.cps.toList))) | _ => Option.none)
  | _ => Option.none
noncomputable def keyOk (k : D) (ks : List D) : Bool := (k.isCell && ks.all D.isCell) || false
noncomputable def memD (k c : D) : Option Bool := match c with
  | .dict ks _ => if keyOk k ks then some (ks.any fun x => keyEq x k) else Option.none
  | .tup ds => if k.isCell && ds.all D.isCell then some (ds.any fun x => cellEq x k) else Option.none
  | _ => Option.none
noncomputable def cmpD (op : CmpOp) (a b : D) : Option D := match op with
  | .Eq => (eqX a b).map .bool
  | .NotEq => (eqX a b).map fun x => .bool (!x)
  | .In => (memD a b).map .bool
  | .NotIn => (memD a b).map fun x => .bool (!x)
  | op => ordD op a b

noncomputable def idx (k : Int) (n : Nat) : Option Nat := if 0 ≤ k ∧ k < n then some k.toNat else if -(n : Int) ≤ k ∧ k < 0 then some (k + n).toNat else Option.none
noncomputable def charAt (x : Str) (j : Nat) : Str := ⟨#[x.cps.getD j 0]⟩
noncomputable def subD (d i : D) : Option D := match d with
  | .list ds => onI i fun k => (idx k ds.length).bind fun j => ds[j]?
  | .tup ds => onI i fun k => (idx k ds.length).bind fun j => ds[j]?
  | .str x => onI i fun k => if 0 ≤ k ∧ k < x.length ∧ x.length ≤ big then some (.str (charAt x k.toNat)) else Option.none
  | .dict ks vs => if keyOk i ks then dget ks vs i else Option.none
  | _ => Option.none

noncomputable def bnd (lo : D) (dflt : Nat) : Option Nat := match lo with
  | .none => some dflt
  | .int i => if 0 ≤ i then some i.toNat else Option.none
  | _ => Option.none
noncomputable def bndS (lo : D) : Option (Option Int) := match lo with
  | .none => some Option.none
  | .int i => some (some i)
  | _ => Option.none
noncomputable def slD (d lo hi : D) : Option D := match d with
  | .list ds => (bnd lo 0).bind fun a => (bnd hi ds.length).map fun b => .list ((ds.take b).drop a)
  | .tup ds => (bnd lo 0).bind fun a => (bnd hi ds.length).map fun b => .tup ((ds.take b).drop a)
  | .str x => if x.length ≤ big then (bndS lo).bind fun a => (bndS hi).map fun b => .str (Txt.slice x a b) else Option.none
  | _ => Option.none

noncomputable def isiD (d : D) (T : String) : Option Bool :=
  if T = "str" ∨ T = "bool" ∨ T = "int" ∨ T = "tuple" ∨ T = "list" then (match d with
    | .str _ => some (T == "str")
    | .int _ => some (T == "int")
    | .bool _ => some (T == "int" || T == "bool")
    | .tup _ => some (T == "tuple")
    | .list _ => some (T == "list")
    | _ => Option.none) else Option.none

noncomputable def lenD (d : D) : Option D := match d with
  | .list ds => some (.int ds.length)
  | .tup ds => some (.int ds.length)
  | .str x => if x.length ≤ big then some (.int x.length) else Option.none
  | _ => Option.none
noncomputable def rngD (a n : Int) : Option D := if (-(big : Int) ≤ n ∧ n ≤ big) ∧ -(big : Int) ≤ a ∧ a ≤ big then some (.rng a n) else Option.none
noncomputable def bltI (f : String) (i : Int) : Option D :=
  if f = "range" then rngD 0 i else if f = "str" then (if -strLim < i ∧ i < strLim then some (.str (Str.ofString (toString i))) else Option.none) else Option.none
noncomputable def bltI2 (_ : String) (_ _ : Int) : Option D := Option.none
noncomputable def bltD (f : String) (as : List D) : Option D := match as with
  | [d] => if f = "len" then lenD d else (match d with
    | .list ds => if f = "tuple" then some (.tup ds) else Option.none
    | .int i => bltI f i
    | .bool b => if f = "int" then some (.int (if b then 1 else 0)) else Option.none
    | .str x => if f = "str" then some (.str x) else Option.none
    | _ => Option.none)
  | [a, b] => onI a fun i => onI b fun j => bltI2 f i j
  | _ => Option.none
noncomputable def lstD (d : D) : Option (List D) := match d with
  | .list ds => some ds
  | .tup ds => some ds
  | .dict ks _ => if ks.all D.isCell then some ks else Option.none
  | _ => Option.none

noncomputable def dputs (ks vs : List D) : List D × List D := (ks.zip vs).foldl (fun acc p => dput acc.1 acc.2 p.1 p.2) ([], [])

noncomputable def revD (d : D) : Option D := onL d fun ds => some (.list ds.reverse)
noncomputable def compM (f : D → Option (Option D)) : List D → Option (List D)
  | [] => some []
  | it :: r => match f it with
    | Option.none => Option.none
    | some o => match compM f r with
      | Option.none => Option.none
      | some ds => some (match o with | Option.none => ds | some d => d :: ds)

structure CF where
  call : String → List D → Option (D × Bool)
  glob : String → Option D
  callw : String → List D → Option (D × D × List D × D)

mutual
noncomputable def evE (cf : CF) (ρ : List (String × D)) (me : ME) : Option D := match me with
  | .var x => ρ.lookup x
  | .glob x => cf.glob x
  | .int i => some (.int i)
  | .str s => some (.str (Str.ofString s))
  | .bool b => some (.bool b)
  | .none => some .none
  | .bin op a b => match evE cf ρ a with
    | some x => (match evE cf ρ b with | some y => binD op x y | Option.none => Option.none)
    | Option.none => Option.none
  | .cmp op a b => match evE cf ρ a with
    | some x => (match evE cf ρ b with | some y => cmpD op x y | Option.none => Option.none)
    | Option.none => Option.none
  | .bop op es => evBop cf ρ op es
  | .not a => match evE cf ρ a with
    | some x => (truth x).map fun t => .bool (!t)
    | Option.none => Option.none
  | .neg a => match evE cf ρ a with
    | some x => onI x fun i => some (.int (-i))
    | Option.none => Option.none
  | .tup es => match evEs cf ρ es with
    | some ds => if ds.length ≤ big then some (.tup ds) else Option.none
    | Option.none => Option.none
  | .lst es => match evEs cf ρ es with
    | some ds => if ds.length ≤ big then some (.list ds) else Option.none
    | Option.none => Option.none
  | .dct ks vs => match evEs cf ρ ks with
    | some ds => (match evEs cf ρ vs with
      | some es => if ds.all D.isCell && ds.length == es.length && decide (ds.length ≤ 15) then some (.dict (dputs ds es).1 (dputs ds es).2) else Option.none
      | Option.none => Option.none)
    | Option.none => Option.none
  | .sub a i => match evE cf ρ a with
    | some x => (match evE cf ρ i with | some y => subD x y | Option.none => Option.none)
    | Option.none => Option.none
  | .sl a lo hi => match evE cf ρ a with
    | some x => (match evE cf ρ lo with
      | some y => (match evE cf ρ hi with | some z => slD x y z | Option.none => Option.none)
      | Option.none => Option.none)
    | Option.none => Option.none
  | .comp elt x src cs => match evE cf ρ src with
    | some d => (match d.items with
      | some its => if its.length ≤ big then (compM (fun it => match evCs cf ((x, it) :: ρ) cs with
          | some true => (match evE cf ((x, it) :: ρ) elt with | some y => some (some y) | Option.none => Option.none)
          | some false => some Option.none
          | Option.none => Option.none) its).map .list else Option.none
      | Option.none => Option.none)
    | Option.none => Option.none
  | .call f args => match evEs cf ρ args with
    | some ds => (cf.call f ds).map (·.1)
    | Option.none => Option.none
  | .isi a T => match evE cf ρ a with
    | some x => (isiD x T).map .bool
    | Option.none => Option.none
  | .blt f args => match evEs cf ρ args with
    | some ds => bltD f ds
    | Option.none => Option.none
  | .lcp a => match evE cf ρ a with
    | some x => (lstD x).map .list
    | Option.none => Option.none
  | .rev a => match evE cf ρ a with
    | some x => revD x
    | Option.none => Option.none
termination_by structural me
noncomputable def evEs (cf : CF) (ρ : List (String × D)) (ms : List ME) : Option (List D) := match ms with
  | [] => some []
  | e :: r => match evE cf ρ e with
    | some d => (match evEs cf ρ r with | some ds => some (d :: ds) | Option.none => Option.none)
    | Option.none => Option.none
termination_by structural ms
noncomputable def evBop (cf : CF) (ρ : List (String × D)) (op : BoolOp) (ms : List ME) : Option D := match ms with
  | [] => Option.none
  | [e] => evE cf ρ e
  | e :: r => match evE cf ρ e with
    | some d => (match truth d with
      | some t => if t = (match op with | .And => false | .Or => true) then some d else evBop cf ρ op r
      | Option.none => Option.none)
    | Option.none => Option.none
termination_by structural ms
noncomputable def evCs (cf : CF) (ρ : List (String × D)) (ms : List ME) : Option Bool := match ms with
  | [] => some true
  | e :: r => match evE cf ρ e with
    | some d => (match truth d with
      | some t => if t then evCs cf ρ r else some false
      | Option.none => Option.none)
    | Option.none => Option.none
termination_by structural ms
end

noncomputable def oE {β : Type} (a : Option D) (f : D → Option β) : Option β := match a with
  | some x => f x
  | Option.none => Option.none
noncomputable def oEs {β : Type} (a : Option (List D)) (f : List D → Option β) : Option β := match a with
  | some x => f x
  | Option.none => Option.none
noncomputable def oT {β : Type} (a : Option Bool) (f : Bool → Option β) : Option β := match a with
  | some x => f x
  | Option.none => Option.none
theorem oE_inv {β : Type} {a : Option D} {f : D → Option β} {r : β} {C : Prop} (h : oE a f = some r) (k : ∀ x, a = some x → f x = some r → C) : C := by
  cases a with
  | none => cases h
  | some x => exact k x rfl h
theorem oEs_inv {β : Type} {a : Option (List D)} {f : List D → Option β} {r : β} {C : Prop} (h : oEs a f = some r) (k : ∀ x, a = some x → f x = some r → C) : C := by
  cases a with
  | none => cases h
  | some x => exact k x rfl h
theorem oT_inv {β : Type} {a : Option Bool} {f : Bool → Option β} {r : β} {C : Prop} (h : oT a f = some r) (k : ∀ x, a = some x → f x = some r → C) : C := by
  cases a with
  | none => cases h
  | some x => exact k x rfl h
mutual
noncomputable def ME.names : ME → List String
  | .var x => [x]
  | .bin _ a b | .cmp _ a b | .sub a b => a.names ++ b.names
  | .bop _ es | .tup es | .lst es | .call _ es | .blt _ es => namesL es
  | .not a | .neg a | .isi a _ | .lcp a => a.names
  | .rev a => a.names
  | .dct ks vs => namesL ks ++ namesL vs
  | .sl a lo hi => a.names ++ lo.names ++ hi.names
  | .comp elt x src cs => src.names ++ (elt.names ++ namesL cs).filter (· != x)
  | .glob _ | .int _ | .str _ | .bool _ | .none => []
noncomputable def namesL : List ME → List String
  | [] => []
  | e :: r => e.names ++ namesL r
end

noncomputable def ME.varOf (e : ME) : Option String := dite (e.ctorIdx = 0) (fun h => ME.var.elim (motive_1 := fun _ => Option String) e h some) fun _ => Option.none
theorem varOf_inv {e : ME} {x : String} {C : ME → Prop} (h : e.varOf = some x) (k : C (.var x)) : C e := by
  unfold ME.varOf at h
  by_cases hc : e.ctorIdx = 0
  · rw [dif_pos hc] at h
    exact ME.var.elim (motive_1 := fun e => ∀ hc, ME.var.elim (motive_1 := fun _ => Option String) e hc some = some x → C e) e hc (fun y _ h => Option.some.inj h ▸ k) hc h
  · rw [dif_neg hc] at h; cases h
noncomputable abbrev St := List (String × (Bool × D))
noncomputable def vis (σ : St) : List (String × D) := σ.map fun p => (p.1, p.2.2)
noncomputable def setv (σ : St) (x : String) (v : Bool × D) : St := match σ with
  | [] => [(x, v)]
  | (y, w) :: r => if y = x then (y, v) :: r else (y, w) :: setv r x v
noncomputable def freeze (ns : List String) (σ : St) : St := σ.map fun p => (p.1, (p.2.1 && !ns.contains p.1, p.2.2))
noncomputable def settle (d : D) (ns : List String) (σ : St) : St := if d.scalar then σ else freeze ns σ

inductive Fl where
  | next
  | ret (fr : Bool) (d : D)

noncomputable def frF (me : ME) (d : D) : Bool := match me with
  | .lst _ | .comp _ _ _ _ | .dct _ _ | .lcp _ => true
  | .rev _ => true
  | .sl _ _ _ | .bin _ _ _ => d.isList
  | .var _ | .glob _ | .int _ | .str _ | .bool _ | .none | .cmp _ _ _ | .bop _ _ | .not _ | .neg _ | .tup _ | .sub _ _ | .call _ _ | .isi _ _ | .blt _ _ => false
noncomputable def isCallE (me : ME) : Option (String × List ME) := match me with
  | .call f args => some (f, args)
  | _ => Option.none
noncomputable def evF (cf : CF) (ρ : List (String × D)) (me : ME) : Option (D × Bool) := match isCallE me with
  | some (f, args) => (match evEs cf ρ args with
    | some ds => cf.call f ds
    | Option.none => Option.none)
  | Option.none => (evE cf ρ me).map fun d => (d, frF me d)

section
variable (cf : CF) (ρ : List (String × D))
theorem evF_call (f : String) (args : List ME) : evF cf ρ (.call f args) = (match evEs cf ρ args with | some ds => cf.call f ds | Option.none => Option.none) := rfl
theorem evF_dct (ks vs : List ME) : evF cf ρ (.dct ks vs) = (evE cf ρ (.dct ks vs)).map fun d => (d, true) := rfl
end
noncomputable def forD (f : D → St → Option (Fl × St)) : List D → St → Option (Fl × St)
  | [], σ => some (.next, σ)
  | it :: r, σ => match f it σ with
    | some (.next, σ') => forD f r σ'
    | x => x
noncomputable def unpS (x1 x2 x3 x4 : String) (σ : St) (q : D × D × List D × D) : St := setv (setv (setv (setv σ x1 (false, q.1)) x2 (false, q.2.1)) x3 (true, .list q.2.2.1)) x4 (false, q.2.2.2)
mutual
noncomputable def exS (cf : CF) (st : MS) (σ : St) : Option (Fl × St) := match st, σ with
  | .assign x e, σ => match evF cf (vis σ) e with
    | some (d, fr) => some (.next, setv (settle d e.names σ) x (fr, d))
    | Option.none => Option.none
  | .append x e, σ => match evE cf (vis σ) e with
    | some d => (match (settle d e.names σ).lookup x with
      | some (true, .list ds) => if ds.length < big then some (.next, setv (settle d e.names σ) x (true, .list (ds ++ [d]))) else Option.none
      | _ => Option.none)
    | Option.none => Option.none
  | .setk x k e, σ => match evE cf (vis σ) e with
    | some d => (match evE cf (vis σ) k with
      | some dk => (match (settle dk k.names (settle d e.names σ)).lookup x with
        | some (true, .dict ks vs) => if keyOk dk ks && decide (ks.length < big) then some (.next, setv (settle dk k.names (settle d e.names σ)) x (true, .dict (dput ks vs dk d).1 (dput ks vs dk d).2)) else Option.none
        | some (true, .list ds) => onI dk fun i => if 0 ≤ i ∧ i < ds.length then some (.next, setv (settle dk k.names (settle d e.names σ)) x (true, .list (ds.set i.toNat d))) else Option.none
        | _ => Option.none)
      | Option.none => Option.none)
    | Option.none => Option.none
  | .ite c t f, σ => match evE cf (vis σ) c with
    | some d => (match truth d with
      | some true => exSs cf t σ
      | some false => exSs cf f σ
      | Option.none => Option.none)
    | Option.none => Option.none
  | .for_ x src body, σ => match evE cf (vis σ) src with
    | some d => (match d.items with
      | some its => forD (fun it σ => exSs cf body (setv σ x (false, it))) its (freeze src.names σ)
      | Option.none => Option.none)
    | Option.none => Option.none
  | .ret e, σ => match e.varOf with
    | some x => (match σ.lookup x with | some (fr, d) => some (.ret fr d, σ) | Option.none => Option.none)
    | Option.none => (match evF cf (vis σ) e with
      | some (d, fr) => some (.ret fr d, σ)
      | Option.none => Option.none)
  | .bad, _ => Option.none
  | .unp x1 x2 x3 x4 f args, σ => match evEs cf (vis σ) args with
    | some ds => (match cf.callw f ds with
      | some q => some (.next, unpS x1 x2 x3 x4 (freeze (namesL args) σ) q)
      | Option.none => Option.none)
    | Option.none => Option.none
termination_by structural st
noncomputable def exSs (cf : CF) (ss : List MS) (σ : St) : Option (Fl × St) := match ss, σ with
  | [], σ => some (.next, σ)
  | st :: r, σ => match exS cf st σ with
    | some (.next, σ') => exSs cf r σ'
    | x => x
termination_by structural ss
end

structure Fn where
  params : List String
  body : List MS

noncomputable def ret4 (st : MS) : Option (String × String × String × String) := match st with
  | .ret (.tup [.var a, .var b, .var c, .var d]) => some (a, b, c, d)
  | _ => Option.none
noncomputable def splitR : List MS → Option (List MS × String × String × String × String)
  | [] => Option.none
  | s :: r => match r with
    | [] => (ret4 s).map fun q => ([], q)
    | _ :: _ => (splitR r).map fun q => (s :: q.1, q.2)
noncomputable def lookD (σ : St) (x : String) : Option D := (σ.lookup x).map (·.2)
noncomputable def lookL (σ : St) (x : String) : Option (List D) := match σ.lookup x with
  | some (true, .list ds) => some ds
  | _ => Option.none
noncomputable def look4 (σ : St) (q : String × String × String × String) : Option (D × D × List D × D) := if q.1 ≠ q.2.2.1 ∧ q.2.1 ≠ q.2.2.1 ∧ q.2.2.2 ≠ q.2.2.1 then
  (lookD σ q.1).bind fun d1 => (lookD σ q.2.1).bind fun d2 => (lookL σ q.2.2.1).bind fun d3 => (lookD σ q.2.2.2).map fun d4 => (d1, d2, d3, d4) else Option.none
noncomputable def callW (P : List (String × Fn)) (cf : CF) (f : String) (args : List D) : Option (D × D × List D × D) := (P.lookup f).bind fun fn => if args.length = fn.params.length then
  (splitR fn.body).bind fun q => (match exSs cf q.1 ((fn.params.zip args).map fun p => (p.1, (false, p.2))) with
    | some (.next, σ) => look4 σ q.2
    | _ => Option.none) else Option.none
noncomputable def callN (P : List (String × Fn)) (X : CF) : Nat → CF
  | 0 => ⟨fun _ _ => Option.none, X.glob, fun _ _ => Option.none⟩
  | n + 1 => ⟨fun f args => match P.lookup f with
    | Option.none => X.call f args
    | some fn => if args.length = fn.params.length then
        (match exSs (callN P X n) fn.body ((fn.params.zip args).map fun p => (p.1, (false, p.2))) with
        | some (.ret fr d, _) => some (d, fr)
        | some (.next, _) => some (.none, false)
        | _ => Option.none)
      else Option.none, X.glob, callW P (callN P X n)⟩
set_option autoImplicit true in
theorem ev_var (cf : CF) (ρ : List (String × D)) : evE cf ρ (ME.var x) = (ρ.lookup x) := rfl
set_option autoImplicit true in
theorem ev_glob (cf : CF) (ρ : List (String × D)) : evE cf ρ (ME.glob x) = (cf.glob x) := rfl
set_option autoImplicit true in
theorem ev_int (cf : CF) (ρ : List (String × D)) : evE cf ρ (ME.int i) = (some (.int i)) := rfl
set_option autoImplicit true in
theorem ev_str (cf : CF) (ρ : List (String × D)) : evE cf ρ (ME.str s) = (some (.str (Str.ofString s))) := rfl
set_option autoImplicit true in
theorem ev_bool (cf : CF) (ρ : List (String × D)) : evE cf ρ (ME.bool b) = (some (.bool b)) := rfl
set_option autoImplicit true in
theorem ev_none (cf : CF) (ρ : List (String × D)) : evE cf ρ (ME.none) = (some .none) := rfl
set_option autoImplicit true in
theorem ev_bin (cf : CF) (ρ : List (String × D)) : evE cf ρ (ME.bin op a b) = (match evE cf ρ a with
      | some x => (match evE cf ρ b with | some y => binD op x y | Option.none => Option.none)
      | Option.none => Option.none) := rfl
set_option autoImplicit true in
theorem ev_cmp (cf : CF) (ρ : List (String × D)) : evE cf ρ (ME.cmp op a b) = (match evE cf ρ a with
      | some x => (match evE cf ρ b with | some y => cmpD op x y | Option.none => Option.none)
      | Option.none => Option.none) := rfl
set_option autoImplicit true in
theorem ev_bop (cf : CF) (ρ : List (String × D)) : evE cf ρ (ME.bop op es) = (evBop cf ρ op es) := rfl
set_option autoImplicit true in
theorem ev_not (cf : CF) (ρ : List (String × D)) : evE cf ρ (ME.not a) = (match evE cf ρ a with
      | some x => (truth x).map fun t => .bool (!t)
      | Option.none => Option.none) := rfl
set_option autoImplicit true in
theorem ev_neg (cf : CF) (ρ : List (String × D)) : evE cf ρ (ME.neg a) = (match evE cf ρ a with
      | some x => onI x fun i => some (.int (-i))
      | Option.none => Option.none) := rfl
set_option autoImplicit true in
theorem ev_tup (cf : CF) (ρ : List (String × D)) : evE cf ρ (ME.tup es) = (match evEs cf ρ es with
      | some ds => if ds.length ≤ big then some (.tup ds) else Option.none
      | Option.none => Option.none) := rfl
set_option autoImplicit true in
theorem ev_lst (cf : CF) (ρ : List (String × D)) : evE cf ρ (ME.lst es) = (match evEs cf ρ es with
      | some ds => if ds.length ≤ big then some (.list ds) else Option.none
      | Option.none => Option.none) := rfl
set_option autoImplicit true in
theorem ev_dct (cf : CF) (ρ : List (String × D)) : evE cf ρ (ME.dct ks vs) = (match evEs cf ρ ks with
      | some ds => (match evEs cf ρ vs with
        | some es => if ds.all D.isCell && ds.length == es.length && decide (ds.length ≤ 15) then some (.dict (dputs ds es).1 (dputs ds es).2) else Option.none
        | Option.none => Option.none)
      | Option.none => Option.none) := rfl
set_option autoImplicit true in
theorem ev_sub (cf : CF) (ρ : List (String × D)) : evE cf ρ (ME.sub a i) = (match evE cf ρ a with
      | some x => (match evE cf ρ i with | some y => subD x y | Option.none => Option.none)
      | Option.none => Option.none) := rfl
set_option autoImplicit true in
theorem ev_sl (cf : CF) (ρ : List (String × D)) : evE cf ρ (ME.sl a lo hi) = (match evE cf ρ a with
      | some x => (match evE cf ρ lo with
        | some y => (match evE cf ρ hi with | some z => slD x y z | Option.none => Option.none)
        | Option.none => Option.none)
      | Option.none => Option.none) := rfl
set_option autoImplicit true in
theorem ev_comp (cf : CF) (ρ : List (String × D)) : evE cf ρ (ME.comp elt x src cs) = (match evE cf ρ src with
      | some d => (match d.items with
        | some its => if its.length ≤ big then (compM (fun it => match evCs cf ((x, it) :: ρ) cs with
            | some true => (match evE cf ((x, it) :: ρ) elt with | some y => some (some y) | Option.none => Option.none)
            | some false => some Option.none
            | Option.none => Option.none) its).map .list else Option.none
        | Option.none => Option.none)
      | Option.none => Option.none) := rfl
set_option autoImplicit true in
theorem ev_call (cf : CF) (ρ : List (String × D)) : evE cf ρ (ME.call f args) = (match evEs cf ρ args with
      | some ds => (cf.call f ds).map (·.1)
      | Option.none => Option.none) := rfl
set_option autoImplicit true in
theorem ev_isi (cf : CF) (ρ : List (String × D)) : evE cf ρ (ME.isi a T) = (match evE cf ρ a with
      | some x => (isiD x T).map .bool
      | Option.none => Option.none) := rfl
set_option autoImplicit true in
theorem ev_blt (cf : CF) (ρ : List (String × D)) : evE cf ρ (ME.blt f args) = (match evEs cf ρ args with
      | some ds => bltD f ds
      | Option.none => Option.none) := rfl
set_option autoImplicit true in
theorem ev_lcp (cf : CF) (ρ : List (String × D)) : evE cf ρ (ME.lcp a) = (match evE cf ρ a with
      | some x => (lstD x).map .list
      | Option.none => Option.none) := rfl
set_option autoImplicit true in
theorem evs_nil (cf : CF) (ρ : List (String × D)) : evEs cf ρ ([]) = (some []) := rfl
set_option autoImplicit true in
theorem evs_cons (cf : CF) (ρ : List (String × D)) : evEs cf ρ (e :: r) = (match evE cf ρ e with
      | some d => (match evEs cf ρ r with | some ds => some (d :: ds) | Option.none => Option.none)
      | Option.none => Option.none) := rfl
set_option autoImplicit true in
theorem xs_assign (cf : CF) (σ : St) : exS cf (MS.assign x e) σ = (match evF cf (vis σ) e with
      | some (d, fr) => some (.next, setv (settle d e.names σ) x (fr, d))
      | Option.none => Option.none) := rfl
set_option autoImplicit true in
theorem xs_append (cf : CF) (σ : St) : exS cf (MS.append x e) σ = (match evE cf (vis σ) e with
      | some d => (match (settle d e.names σ).lookup x with
        | some (true, .list ds) => if ds.length < big then some (.next, setv (settle d e.names σ) x (true, .list (ds ++ [d]))) else Option.none
        | _ => Option.none)
      | Option.none => Option.none) := rfl
set_option autoImplicit true in
theorem xs_setk (cf : CF) (σ : St) : exS cf (MS.setk x k e) σ = (match evE cf (vis σ) e with
      | some d => (match evE cf (vis σ) k with
        | some dk => (match (settle dk k.names (settle d e.names σ)).lookup x with
          | some (true, .dict ks vs) => if keyOk dk ks && decide (ks.length < big) then some (.next, setv (settle dk k.names (settle d e.names σ)) x (true, .dict (dput ks vs dk d).1 (dput ks vs dk d).2)) else Option.none
          | some (true, .list ds) => onI dk fun i => if 0 ≤ i ∧ i < ds.length then some (.next, setv (settle dk k.names (settle d e.names σ)) x (true, .list (ds.set i.toNat d))) else Option.none
          | _ => Option.none)
        | Option.none => Option.none)
      | Option.none => Option.none) := rfl
set_option autoImplicit true in
theorem xs_ite (cf : CF) (σ : St) : exS cf (MS.ite c t f) σ = (match evE cf (vis σ) c with
      | some d => (match truth d with
        | some true => exSs cf t σ
        | some false => exSs cf f σ
        | Option.none => Option.none)
      | Option.none => Option.none) := rfl
set_option autoImplicit true in
theorem xs_for_ (cf : CF) (σ : St) : exS cf (MS.for_ x src body) σ = (match evE cf (vis σ) src with
      | some d => (match d.items with
        | some its => forD (fun it σ => exSs cf body (setv σ x (false, it))) its (freeze src.names σ)
        | Option.none => Option.none)
      | Option.none => Option.none) := rfl
set_option autoImplicit true in
theorem xs_ret (cf : CF) (σ : St) : exS cf (MS.ret e) σ = (match e.varOf with
      | some x => (match σ.lookup x with | some (fr, d) => some (.ret fr d, σ) | Option.none => Option.none)
      | Option.none => (match evF cf (vis σ) e with
        | some (d, fr) => some (.ret fr d, σ)
        | Option.none => Option.none)) := rfl
theorem xs_unp (cf : CF) (x1 x2 x3 x4 f : String) (args : List ME) (σ : St) : exS cf (MS.unp x1 x2 x3 x4 f args) σ = (match evEs cf (vis σ) args with
    | some ds => (match cf.callw f ds with
      | some q => some (.next, unpS x1 x2 x3 x4 (freeze (namesL args) σ) q)
      | Option.none => Option.none)
    | Option.none => Option.none) := rfl
set_option autoImplicit true in
theorem xss_nil (cf : CF) (σ : St) : exSs cf ([]) σ = (some (.next, σ)) := rfl
set_option autoImplicit true in
theorem xss_cons (cf : CF) (σ : St) : exSs cf (st :: r) σ = (match exS cf st σ with
      | some (.next, σ') => exSs cf r σ'
      | x => x) := rfl
theorem ev_rev (cf : CF) (ρ : List (String × D)) (a : ME) : evE cf ρ (ME.rev a) = (match evE cf ρ a with | some x => revD x | Option.none => Option.none) := rfl
theorem lookup_vis (x : String) : ∀ (σ : St), (vis σ).lookup x = (σ.lookup x).map (·.2)
  | [] => rfl
  | (y, v) :: r => by
    have ih := lookup_vis x r
    unfold vis at ih ⊢
    rw [List.map_cons, List.lookup_cons, List.lookup_cons]
    by_cases h : x = y
    · subst h; simp
    · have : (x == y) = false := by simpa using h
      simp only [this]
      exact ih
theorem lookup_setv (x y : String) (v : Bool × D) : ∀ (σ : St), (setv σ x v).lookup y = if y = x then some v else σ.lookup y
  | [] => by
    unfold setv
    rw [List.lookup_cons]
    by_cases h : y = x
    · simp [h]
    · have : (y == x) = false := by simpa using h
      simp [h, this]
  | (z, u) :: r => by
    unfold setv
    split
    · rename_i h; subst h
      rw [List.lookup_cons, List.lookup_cons]
      by_cases h : y = z
      · simp [h]
      · have : (y == z) = false := by simpa using h
        simp [h, this]
    · rename_i hz
      rw [List.lookup_cons, List.lookup_cons, lookup_setv x y v r]
      by_cases h : y = x
      · subst h
        have : (y == z) = false := by simpa using Ne.symm hz
        simp [this]
      · simp [h]
theorem lookup_freeze (ns : List String) (x : String) : ∀ (σ : St), (freeze ns σ).lookup x = (σ.lookup x).map fun p => (p.1 && !ns.contains x, p.2)
  | [] => rfl
  | (y, v) :: r => by
    have ih := lookup_freeze ns x r
    unfold freeze at ih ⊢
    rw [List.map_cons, List.lookup_cons, List.lookup_cons]
    by_cases h : x = y
    · subst h; simp
    · have : (x == y) = false := by simpa using h
      simp only [this]
      exact ih

end Mine
namespace Mine
open PySem

noncomputable abbrev KD := Str → Option NameKind
noncomputable def isVar (k : KD) (x : Str) : Bool := (k x == some .local || k x == some .cell || k x == some .free) && x != Str.ofString "__debug__" && x != Str.ofString "__classdict__" && x != Str.ofString ".0"
noncomputable def isGlob (k : KD) (x : Str) : Bool := k x == some .globalImplicit && x != Str.ofString "__debug__"
noncomputable def kindC (k : KD) (scope : Scope) : KD := fun x => (scope.names.map fun p => if p.2 == .free && k p.1 == some .cell then (p.1, NameKind.cell) else p).lookup x
noncomputable def notSet (e : Expr) : Bool := !decide (e.ctorIdx = 7)
noncomputable def ordK (k : KD) : Bool := k (Str.ofString "keys") == some .local && k (Str.ofString "sorted") == some .globalImplicit && k (Str.ofString "place") == some .cell
noncomputable def okScope (k : KD) (scope : Scope) (x : Str) : Bool :=
  scope.kind == .function && decide (scope.names.map (·.1)).Nodup && (scope.names.lookup x == some .local || scope.names.lookup x == some .cell) &&
  scope.names.all (fun p => p.2 != .free || k p.1 == some .cell || k p.1 == some .free) && scope.names.all (fun p => p.2 == .free || p.2 == .globalImplicit || p.1 == x || p.1 == Str.ofString ".0") && !ordK (kindC k scope)

noncomputable def ME.isNone (e : ME) : Bool := decide (e.ctorIdx = 5)
@[elab_as_elim] theorem isNone_inv {e : ME} {C : ME → Prop} (h : e.isNone = true) (k : C .none) : C e := ME.none.elim (motive_1 := C) e (of_decide_eq_true h) k

noncomputable def notSlice (e : Expr) : Bool := !decide (e.ctorIdx = 26)
theorem dite_inv {c : Prop} [Decidable c] {f : c → Bool} (h : dite c f (fun _ => false) = true) : ∃ hc, f hc = true := by
  by_cases hc : c
  · rw [dif_pos hc] at h; exact ⟨hc, h⟩
  · rw [dif_neg hc] at h; cases h
noncomputable def c1 {α : Type} (l : List α) (f : α → Bool) : Bool := match l with | [x] => f x | _ => false
@[elab_as_elim] theorem c1_inv {α : Type} {l : List α} {f : α → Bool} {C : List α → Prop} (h : c1 l f = true) (k : ∀ x, f x = true → C [x]) : C l := by
  cases l with
  | nil => cases h
  | cons x l => cases l with
    | nil => exact k x h
    | cons => cases h
noncomputable def c2 {α : Type} (l : List α) (f : α → α → Bool) : Bool := match l with | x :: l => c1 l (f x) | _ => false
@[elab_as_elim] theorem c2_inv {α : Type} {l : List α} {f : α → α → Bool} {C : List α → Prop} (h : c2 l f = true) (k : ∀ x y, f x y = true → C [x, y]) : C l := by
  cases l with
  | nil => cases h
  | cons x l => exact c1_inv (C := fun l => C (x :: l)) h (k x)
@[elab_as_elim] theorem cOpt_inv {α : Type} {l : Option α} {f : α → Bool} {C : Option α → Prop} (h : cOpt l f = true) (k : ∀ x, f x = true → C (some x)) : C l := by
  cases l with
  | none => cases h
  | some x => exact k x h
theorem and2 {a b : Bool} {C : Prop} (h : (a && b) = true) (k : a = true → b = true → C) : C := k (Bool.and_eq_true_iff.mp h).1 (Bool.and_eq_true_iff.mp h).2
theorem and3 {a b c : Bool} {C : Prop} (h : (a && b && c) = true) (k : a = true → b = true → c = true → C) : C := and2 h fun h hc => and2 h fun ha hb => k ha hb hc
theorem and4 {a b c d : Bool} {C : Prop} (h : (a && b && c && d) = true) (k : a = true → b = true → c = true → d = true → C) : C := and2 h fun h hd => and3 h fun ha hb hc => k ha hb hc hd
theorem and5 {a b c d e : Bool} {C : Prop} (h : (a && b && c && d && e) = true) (k : a = true → b = true → c = true → d = true → e = true → C) : C := and2 h fun h he => and4 h fun ha hb hc hd => k ha hb hc hd he
theorem and6 {a b c d e f : Bool} {C : Prop} (h : (a && b && c && d && e && f) = true) (k : a = true → b = true → c = true → d = true → e = true → f = true → C) : C := and2 h fun h hf => and5 h fun ha hb hc hd he => k ha hb hc hd he hf
@[elab_as_elim] theorem eqb {α : Type} [BEq α] [LawfulBEq α] {a b : α} {C : α → Prop} (h : (a == b) = true) (k : C b) : C a := (eq_of_beq h).symm ▸ k
@[elab_as_elim] theorem eqb' {α : Type} [BEq α] [LawfulBEq α] {a b : α} {C : α → Prop} (h : (a == b) = true) (k : C a) : C b := eq_of_beq h ▸ k
@[elab_as_elim] theorem nilb {α : Type} {l : List α} {C : List α → Prop} (h : l.isEmpty = true) (k : C []) : C l := (List.isEmpty_iff.mp h).symm ▸ k
theorem isGlob_of {k : KD} {x : Str} (h : isGlob k x = true) : k x = some .globalImplicit ∧ x ≠ Str.ofString "__debug__" := and2 h fun h1 h2 => ⟨eq_of_beq h1, by simpa using h2⟩
noncomputable def cName (e : Expr) (f : Str → Pos → Bool) : Bool := dite (e.ctorIdx = 23) (fun h => Expr.Name.elim (motive_1 := fun _ => Bool) e h f) (fun _ => false)
@[elab_as_elim] theorem cName_inv {e : Expr} {f : Str → Pos → Bool} {C : Expr → Prop} (h : cName e f = true) (k : ∀ v0 v1, f v0 v1 = true → C (.Name v0 v1)) : C e :=
  (dite_inv h).elim fun hc h => Expr.Name.elim (motive_1 := fun e => ∀ hc, Expr.Name.elim (motive_1 := fun _ => Bool) e hc f = true → C e) e hc (fun v0 v1 _ h => k v0 v1 h) hc h
noncomputable def cConst (e : Expr) (f : Const → Nat → Pos → Bool) : Bool := dite (e.ctorIdx = 19) (fun h => Expr.Constant.elim (motive_1 := fun _ => Bool) e h f) (fun _ => false)
@[elab_as_elim] theorem cConst_inv {e : Expr} {f : Const → Nat → Pos → Bool} {C : Expr → Prop} (h : cConst e f = true) (k : ∀ v0 v1 v2, f v0 v1 v2 = true → C (.Constant v0 v1 v2)) : C e :=
  (dite_inv h).elim fun hc h => Expr.Constant.elim (motive_1 := fun e => ∀ hc, Expr.Constant.elim (motive_1 := fun _ => Bool) e hc f = true → C e) e hc (fun v0 v1 v2 _ h => k v0 v1 v2 h) hc h
noncomputable def cBin (e : Expr) (f : Expr → Operator → Expr → Pos → Bool) : Bool := dite (e.ctorIdx = 2) (fun h => Expr.BinOp.elim (motive_1 := fun _ => Bool) e h f) (fun _ => false)
@[elab_as_elim] theorem cBin_inv {e : Expr} {f : Expr → Operator → Expr → Pos → Bool} {C : Expr → Prop} (h : cBin e f = true) (k : ∀ v0 v1 v2 v3, f v0 v1 v2 v3 = true → C (.BinOp v0 v1 v2 v3)) : C e :=
  (dite_inv h).elim fun hc h => Expr.BinOp.elim (motive_1 := fun e => ∀ hc, Expr.BinOp.elim (motive_1 := fun _ => Bool) e hc f = true → C e) e hc (fun v0 v1 v2 v3 _ h => k v0 v1 v2 v3 h) hc h
noncomputable def cBool (e : Expr) (f : BoolOp → List Expr → Pos → Bool) : Bool := dite (e.ctorIdx = 0) (fun h => Expr.BoolOp.elim (motive_1 := fun _ => Bool) e h f) (fun _ => false)
@[elab_as_elim] theorem cBool_inv {e : Expr} {f : BoolOp → List Expr → Pos → Bool} {C : Expr → Prop} (h : cBool e f = true) (k : ∀ v0 v1 v2, f v0 v1 v2 = true → C (.BoolOp v0 v1 v2)) : C e :=
  (dite_inv h).elim fun hc h => Expr.BoolOp.elim (motive_1 := fun e => ∀ hc, Expr.BoolOp.elim (motive_1 := fun _ => Bool) e hc f = true → C e) e hc (fun v0 v1 v2 _ h => k v0 v1 v2 h) hc h
noncomputable def cUn (e : Expr) (f : UnaryOp → Expr → Pos → Bool) : Bool := dite (e.ctorIdx = 3) (fun h => Expr.UnaryOp.elim (motive_1 := fun _ => Bool) e h f) (fun _ => false)
@[elab_as_elim] theorem cUn_inv {e : Expr} {f : UnaryOp → Expr → Pos → Bool} {C : Expr → Prop} (h : cUn e f = true) (k : ∀ v0 v1 v2, f v0 v1 v2 = true → C (.UnaryOp v0 v1 v2)) : C e :=
  (dite_inv h).elim fun hc h => Expr.UnaryOp.elim (motive_1 := fun e => ∀ hc, Expr.UnaryOp.elim (motive_1 := fun _ => Bool) e hc f = true → C e) e hc (fun v0 v1 v2 _ h => k v0 v1 v2 h) hc h
noncomputable def cTup (e : Expr) (f : List Expr → Nat → Pos → Bool) : Bool := dite (e.ctorIdx = 25) (fun h => Expr.Tuple.elim (motive_1 := fun _ => Bool) e h f) (fun _ => false)
@[elab_as_elim] theorem cTup_inv {e : Expr} {f : List Expr → Nat → Pos → Bool} {C : Expr → Prop} (h : cTup e f = true) (k : ∀ v0 v1 v2, f v0 v1 v2 = true → C (.Tuple v0 v1 v2)) : C e :=
  (dite_inv h).elim fun hc h => Expr.Tuple.elim (motive_1 := fun e => ∀ hc, Expr.Tuple.elim (motive_1 := fun _ => Bool) e hc f = true → C e) e hc (fun v0 v1 v2 _ h => k v0 v1 v2 h) hc h
noncomputable def cLst (e : Expr) (f : List Expr → Pos → Bool) : Bool := dite (e.ctorIdx = 24) (fun h => Expr.List.elim (motive_1 := fun _ => Bool) e h f) (fun _ => false)
@[elab_as_elim] theorem cLst_inv {e : Expr} {f : List Expr → Pos → Bool} {C : Expr → Prop} (h : cLst e f = true) (k : ∀ v0 v1, f v0 v1 = true → C (.List v0 v1)) : C e :=
  (dite_inv h).elim fun hc h => Expr.List.elim (motive_1 := fun e => ∀ hc, Expr.List.elim (motive_1 := fun _ => Bool) e hc f = true → C e) e hc (fun v0 v1 _ h => k v0 v1 h) hc h
noncomputable def cSub (e : Expr) (f : Expr → Expr → Pos → Bool) : Bool := dite (e.ctorIdx = 21) (fun h => Expr.Subscript.elim (motive_1 := fun _ => Bool) e h f) (fun _ => false)
@[elab_as_elim] theorem cSub_inv {e : Expr} {f : Expr → Expr → Pos → Bool} {C : Expr → Prop} (h : cSub e f = true) (k : ∀ v0 v1 v2, f v0 v1 v2 = true → C (.Subscript v0 v1 v2)) : C e :=
  (dite_inv h).elim fun hc h => Expr.Subscript.elim (motive_1 := fun e => ∀ hc, Expr.Subscript.elim (motive_1 := fun _ => Bool) e hc f = true → C e) e hc (fun v0 v1 v2 _ h => k v0 v1 v2 h) hc h
noncomputable def cSlice (e : Expr) (f : Option Expr → Option Expr → Option Expr → Pos → Bool) : Bool := dite (e.ctorIdx = 26) (fun h => Expr.Slice.elim (motive_1 := fun _ => Bool) e h f) (fun _ => false)
@[elab_as_elim] theorem cSlice_inv {e : Expr} {f : Option Expr → Option Expr → Option Expr → Pos → Bool} {C : Expr → Prop} (h : cSlice e f = true) (k : ∀ v0 v1 v2 v3, f v0 v1 v2 v3 = true → C (.Slice v0 v1 v2 v3)) : C e :=
  (dite_inv h).elim fun hc h => Expr.Slice.elim (motive_1 := fun e => ∀ hc, Expr.Slice.elim (motive_1 := fun _ => Bool) e hc f = true → C e) e hc (fun v0 v1 v2 v3 _ h => k v0 v1 v2 v3 h) hc h
noncomputable def cCmp (e : Expr) (f : Expr → List CmpOp → List Expr → Pos → Bool) : Bool := dite (e.ctorIdx = 15) (fun h => Expr.Compare.elim (motive_1 := fun _ => Bool) e h f) (fun _ => false)
@[elab_as_elim] theorem cCmp_inv {e : Expr} {f : Expr → List CmpOp → List Expr → Pos → Bool} {C : Expr → Prop} (h : cCmp e f = true) (k : ∀ v0 v1 v2 v3, f v0 v1 v2 v3 = true → C (.Compare v0 v1 v2 v3)) : C e :=
  (dite_inv h).elim fun hc h => Expr.Compare.elim (motive_1 := fun e => ∀ hc, Expr.Compare.elim (motive_1 := fun _ => Bool) e hc f = true → C e) e hc (fun v0 v1 v2 v3 _ h => k v0 v1 v2 v3 h) hc h
noncomputable def cCall (e : Expr) (f : Expr → List Expr → List Keyword → Pos → Bool) : Bool := dite (e.ctorIdx = 16) (fun h => Expr.Call.elim (motive_1 := fun _ => Bool) e h f) (fun _ => false)
@[elab_as_elim] theorem cCall_inv {e : Expr} {f : Expr → List Expr → List Keyword → Pos → Bool} {C : Expr → Prop} (h : cCall e f = true) (k : ∀ v0 v1 v2 v3, f v0 v1 v2 v3 = true → C (.Call v0 v1 v2 v3)) : C e :=
  (dite_inv h).elim fun hc h => Expr.Call.elim (motive_1 := fun e => ∀ hc, Expr.Call.elim (motive_1 := fun _ => Bool) e hc f = true → C e) e hc (fun v0 v1 v2 v3 _ h => k v0 v1 v2 v3 h) hc h
noncomputable def cLC (e : Expr) (f : Expr → List Comprehension → Scope → Pos → Bool) : Bool := dite (e.ctorIdx = 8) (fun h => Expr.ListComp.elim (motive_1 := fun _ => Bool) e h f) (fun _ => false)
@[elab_as_elim] theorem cLC_inv {e : Expr} {f : Expr → List Comprehension → Scope → Pos → Bool} {C : Expr → Prop} (h : cLC e f = true) (k : ∀ v0 v1 v2 v3, f v0 v1 v2 v3 = true → C (.ListComp v0 v1 v2 v3)) : C e :=
  (dite_inv h).elim fun hc h => Expr.ListComp.elim (motive_1 := fun e => ∀ hc, Expr.ListComp.elim (motive_1 := fun _ => Bool) e hc f = true → C e) e hc (fun v0 v1 v2 v3 _ h => k v0 v1 v2 v3 h) hc h
noncomputable def cDict (e : Expr) (f : List (Option Expr) → List Expr → Pos → Bool) : Bool := dite (e.ctorIdx = 6) (fun h => Expr.Dict.elim (motive_1 := fun _ => Bool) e h f) (fun _ => false)
@[elab_as_elim] theorem cDict_inv {e : Expr} {f : List (Option Expr) → List Expr → Pos → Bool} {C : Expr → Prop} (h : cDict e f = true) (k : ∀ v0 v1 v2, f v0 v1 v2 = true → C (.Dict v0 v1 v2)) : C e :=
  (dite_inv h).elim fun hc h => Expr.Dict.elim (motive_1 := fun e => ∀ hc, Expr.Dict.elim (motive_1 := fun _ => Bool) e hc f = true → C e) e hc (fun v0 v1 v2 _ h => k v0 v1 v2 h) hc h
noncomputable def cAttr (e : Expr) (f : Expr → Str → Pos → Bool) : Bool := dite (e.ctorIdx = 20) (fun h => Expr.Attribute.elim (motive_1 := fun _ => Bool) e h f) (fun _ => false)
@[elab_as_elim] theorem cAttr_inv {e : Expr} {f : Expr → Str → Pos → Bool} {C : Expr → Prop} (h : cAttr e f = true) (k : ∀ v0 v1 v2, f v0 v1 v2 = true → C (.Attribute v0 v1 v2)) : C e :=
  (dite_inv h).elim fun hc h => Expr.Attribute.elim (motive_1 := fun e => ∀ hc, Expr.Attribute.elim (motive_1 := fun _ => Bool) e hc f = true → C e) e hc (fun v0 v1 v2 _ h => k v0 v1 v2 h) hc h
mutual
noncomputable def chkE (k : KD) (e : Expr) (me : ME) : Bool := match me with
  | .var x => cName e fun y _ => y == Str.ofString x && isVar k y
  | .glob x => cName e fun y _ => y == Str.ofString x && isGlob k y
  | .int i => cConst e fun c _ _ => c == .int i
  | .str s => cConst e fun c _ _ => c == .str (Str.ofString s)
  | .bool b => cConst e fun c _ _ => c == .bool b
  | .none => cConst e fun c _ _ => c == .none
  | .bin op a b => cBin e fun l op' r _ => op == op' && chkE k l a && chkE k r b
  | .cmp op a b => cCmp e fun l os rs _ => os == [op] && c1 rs fun r => notSet r && chkE k l a && chkE k r b
  | .bop op es => cBool e fun op' vs _ => op == op' && chkEs k vs es
  | .not a => cUn e fun o x _ => o == .Not && chkE k x a
  | .neg a => cUn e fun o x _ => o == .USub && chkE k x a
  | .tup es => cTup e fun vs _ _ => chkEs k vs es
  | .lst es => cLst e fun vs _ => chkEs k vs es
  | .dct ks vs => cDict e fun kes ves _ => kes.all Option.isSome && chkEs k (kes.filterMap id) ks && chkEs k ves vs
  | .sub a i => cSub e fun v s _ => notSlice s && chkE k v a && chkE k s i
  | .sl a lo hi => cSub e fun v s _ => cSlice s fun l u t _ => t.isNone && chkE k v a && (match l with | Option.none => lo.isNone | some x => chkE k x lo) && (match u with | Option.none => hi.isNone | some x => chkE k x hi)
  | .comp elt x src cs => cLC e fun t gs scope _ => c1 gs fun g => g.is_async == 0 && cName g.target fun y _ => y == Str.ofString x && notSet g.iter && okScope k scope y && chkE k g.iter src && chkE (kindC k scope) t elt && chkEs (kindC k scope) g.ifs cs
  | .call f args => cCall e fun g as ks _ => ks.isEmpty && cName g fun g _ => g == Str.ofString f && isGlob k g && chkEs k as args
  | .isi a T => cCall e fun g as ks _ => ks.isEmpty && c2 as fun x t => cName g fun g _ => cName t fun t _ => g == Str.ofString "isinstance" && isGlob k g && t == Str.ofString T && isGlob k t && chkE k x a
  | .blt f args => cCall e fun g as ks _ => ks.isEmpty && cName g fun g _ => g == Str.ofString f && isGlob k g && chkEs k as args
  | .lcp a => cCall e fun g as ks _ => ks.isEmpty && cName g fun g _ => g == Str.ofString "list" && isGlob k g && c1 as fun x => chkE k x a
  | .rev a => cSub e fun v s _ => cSlice s fun l u t _ => l.isNone && u.isNone && (cOpt t fun t => cUn t fun o x _ => o == .USub && cConst x fun c _ _ => c == .int 1) && chkE k v a
termination_by structural me
noncomputable def chkEs (k : KD) (es : List Expr) (ms : List ME) : Bool := match ms with
  | [] => es.isEmpty
  | a :: r => (match es with | e :: es' => chkE k e a && chkEs k es' r | [] => false)
termination_by structural ms
end

theorem cs_nil (k : KD) (es : List Expr) : chkEs k es [] = es.isEmpty := rfl
theorem cs_cons (k : KD) (e : Expr) (es : List Expr) (a : ME) (r : List ME) : chkEs k (e :: es) (a :: r) = (chkE k e a && chkEs k es r) := rfl
theorem cs_consn (k : KD) (a : ME) (r : List ME) : chkEs k [] (a :: r) = false := rfl

section
variable {k : KD} {e : Expr}
inductive IVar (k : KD) (x : String) : Expr → Prop
  | mk {p} (h : isVar k (Str.ofString x) = true) : IVar k x (.Name (Str.ofString x) p)
theorem inv_var {x : String} (h : chkE k e (.var x) = true) : IVar k x e :=
  cName_inv h fun y p h => and2 h fun h1 => eqb h1 fun h2 => ⟨h2⟩
inductive IGlob (k : KD) (x : String) : Expr → Prop
  | mk {p} (h : isGlob k (Str.ofString x) = true) : IGlob k x (.Name (Str.ofString x) p)
theorem inv_glob {x : String} (h : chkE k e (.glob x) = true) : IGlob k x e :=
  cName_inv h fun y p h => and2 h fun h1 => eqb h1 fun h2 => ⟨h2⟩
inductive IConst (c : Const) : Expr → Prop
  | mk {n p} : IConst c (.Constant c n p)
theorem inv_const {c : Const} (h : (cConst e fun c' _ _ => c' == c) = true) : IConst c e :=
  cConst_inv h fun c n p h => eqb h ⟨⟩
theorem inv_int {i : Int} (h : chkE k e (.int i) = true) : IConst (.int i) e := inv_const h
theorem inv_str {i : String} (h : chkE k e (.str i) = true) : IConst (.str (Str.ofString i)) e := inv_const h
theorem inv_bool {i : Bool} (h : chkE k e (.bool i) = true) : IConst (.bool i) e := inv_const h
theorem inv_none (h : chkE k e .none = true) : IConst .none e := inv_const h
inductive IBin (k : KD) (op : Operator) (a b : ME) : Expr → Prop
  | mk {l r p} (h1 : chkE k l a = true) (h2 : chkE k r b = true) : IBin k op a b (.BinOp l op r p)
theorem inv_bin {op : Operator} {a b : ME} (h : chkE k e (.bin op a b) = true) : IBin k op a b e :=
  cBin_inv h fun l op' r p h => and3 h fun h1 h2 h3 => eqb' h1 ⟨h2, h3⟩
inductive ICmp (k : KD) (op : CmpOp) (a b : ME) : Expr → Prop
  | mk {l r p} (hs : notSet r = true) (h1 : chkE k l a = true) (h2 : chkE k r b = true) : ICmp k op a b (.Compare l [op] [r] p)
theorem inv_cmp {op : CmpOp} {a b : ME} (h : chkE k e (.cmp op a b) = true) : ICmp k op a b e :=
  cCmp_inv h fun l os rs p h => and2 h fun h1 h => eqb h1 (c1_inv h fun r h => and3 h fun h2 h3 h4 => ⟨h2, h3, h4⟩)
inductive IBop (k : KD) (op : BoolOp) (es : List ME) : Expr → Prop
  | mk {vs p} (h : chkEs k vs es = true) : IBop k op es (.BoolOp op vs p)
theorem inv_bop {op : BoolOp} {es : List ME} (h : chkE k e (.bop op es) = true) : IBop k op es e :=
  cBool_inv h fun op' vs p h => and2 h fun h1 h2 => eqb' h1 ⟨h2⟩
inductive IUn (k : KD) (o : UnaryOp) (a : ME) : Expr → Prop
  | mk {x p} (h : chkE k x a = true) : IUn k o a (.UnaryOp o x p)
theorem inv_un {o : UnaryOp} {a : ME} (h : (cUn e fun o' x _ => o' == o && chkE k x a) = true) : IUn k o a e :=
  cUn_inv h fun o' x p h => and2 h fun h1 h2 => eqb h1 ⟨h2⟩
theorem inv_not {a : ME} (h : chkE k e (.not a) = true) : IUn k .Not a e := inv_un h
theorem inv_neg {a : ME} (h : chkE k e (.neg a) = true) : IUn k .USub a e := inv_un h
inductive ITup (k : KD) (es : List ME) : Expr → Prop
  | mk {vs n p} (h : chkEs k vs es = true) : ITup k es (.Tuple vs n p)
theorem inv_tup {es : List ME} (h : chkE k e (.tup es) = true) : ITup k es e :=
  cTup_inv h fun _ _ _ h => ⟨h⟩
inductive ILst (k : KD) (es : List ME) : Expr → Prop
  | mk {vs p} (h : chkEs k vs es = true) : ILst k es (.List vs p)
theorem inv_lst {es : List ME} (h : chkE k e (.lst es) = true) : ILst k es e :=
  cLst_inv h fun _ _ h => ⟨h⟩
theorem somes : ∀ {l : List (Option Expr)}, l.all Option.isSome = true → l = (l.filterMap id).map some
  | [], _ => rfl
  | none :: l, h => by simp at h
  | some x :: l, h => by simp at h; simp; exact somes (by simpa using h)
inductive IDct (k : KD) (ks vs : List ME) : Expr → Prop
  | mk {kes ves p} (h1 : chkEs k kes ks = true) (h2 : chkEs k ves vs = true) : IDct k ks vs (.Dict (kes.map some) ves p)
theorem inv_dct {ks vs : List ME} (h : chkE k e (.dct ks vs) = true) : IDct k ks vs e :=
  cDict_inv h fun kes ves p h => and3 h fun h1 h2 h3 => (somes h1).symm ▸ ⟨h2, h3⟩
theorem notSlice_inv {s : Expr} (h : notSlice s = true) : ∀ a b c p, s = .Slice a b c p → False := by
  rintro a b c p rfl; cases h
inductive ISub (k : KD) (a i : ME) : Expr → Prop
  | mk {v s p} (hn : ∀ a b c p, s = .Slice a b c p → False) (h1 : chkE k v a = true) (h2 : chkE k s i = true) : ISub k a i (.Subscript v s p)
theorem inv_sub {a i : ME} (h : chkE k e (.sub a i) = true) : ISub k a i e :=
  cSub_inv h fun _ _ _ h => and3 h fun h1 h2 h3 => ⟨notSlice_inv h1, h2, h3⟩
noncomputable def chkO (k : KD) (l : Option Expr) (lo : ME) : Bool := match l with | Option.none => lo.isNone | some x => chkE k x lo
inductive ISl (k : KD) (a lo hi : ME) : Expr → Prop
  | mk {v l u p pos} (h1 : chkE k v a = true) (h2 : chkO k l lo = true) (h3 : chkO k u hi = true) : ISl k a lo hi (.Subscript v (.Slice l u Option.none p) pos)
theorem inv_sl {a lo hi : ME} (h : chkE k e (.sl a lo hi) = true) : ISl k a lo hi e :=
  cSub_inv h fun v s p h => cSlice_inv h fun l u t p h => and4 h fun h1 h2 h3 h4 => (Option.isNone_iff_eq_none.mp h1).symm ▸ ⟨h2, h3, h4⟩
inductive IRev (k : KD) (a : ME) : Expr → Prop
  | mk {v t p pos} (h1 : chkE k v a = true) (h2 : chkE k t (.neg (.int 1)) = true) : IRev k a (.Subscript v (.Slice Option.none Option.none (some t) p) pos)
theorem inv_rev {a : ME} (h : chkE k e (.rev a) = true) : IRev k a e :=
  cSub_inv h fun v s p h => cSlice_inv h fun l u t p h => and4 h fun h1 h2 h3 h4 => (Option.isNone_iff_eq_none.mp h1).symm ▸ (Option.isNone_iff_eq_none.mp h2).symm ▸ cOpt_inv (l := t) h3 fun t h3 => ⟨h4, h3⟩
inductive IComp (k : KD) (elt : ME) (x : String) (src : ME) (cs : List ME) : Expr → Prop
  | mk {t py it ifs scope lp} (hn : notSet it = true) (hs : okScope k scope (Str.ofString x) = true) (h1 : chkE k it src = true) (h2 : chkE (kindC k scope) t elt = true) (h3 : chkEs (kindC k scope) ifs cs = true) :
    IComp k elt x src cs (.ListComp t [⟨.Name (Str.ofString x) py, it, ifs, 0⟩] scope lp)
theorem inv_comp {elt src : ME} {x : String} {cs : List ME} (h : chkE k e (.comp elt x src cs) = true) : IComp k elt x src cs e :=
  cLC_inv h fun t gs scope p h => c1_inv h fun g => Comprehension.casesOn g fun tg it ifs z h => and2 h fun h1 h => eqb (a := z) h1 (cName_inv (e := tg) h fun y py h => and6 h fun h2 => eqb h2 fun h3 h4 h5 h6 h7 => ⟨h3, h4, h5, h6, h7⟩)
inductive ICall (k : KD) (f : String) (args : List ME) : Expr → Prop
  | mk {gp as pos} (hg : isGlob k (Str.ofString f) = true) (h : chkEs k as args = true) : ICall k f args (.Call (.Name (Str.ofString f) gp) as [] pos)
theorem inv_call {f : String} {args : List ME} (h : chkE k e (.call f args) = true) : ICall k f args e :=
  cCall_inv h fun g as ks p h => and2 h fun h1 h => nilb h1 (cName_inv h fun y py h => and3 h fun h2 => eqb h2 fun h3 h4 => ⟨h3, h4⟩)
theorem inv_blt {f : String} {args : List ME} (h : chkE k e (.blt f args) = true) : ICall k f args e := inv_call h
inductive ICall1 (k : KD) (f : String) (P : Expr → Prop) : Expr → Prop
  | mk {gp x pos} (hg : isGlob k (Str.ofString f) = true) (h : P x) : ICall1 k f P (.Call (.Name (Str.ofString f) gp) [x] [] pos)
theorem inv_call1 {f : String} {g : Expr → Bool} {P : Expr → Prop} (hP : ∀ x, g x = true → P x) (h : (cCall e fun n as ks _ => ks.isEmpty && cName n fun n _ => n == Str.ofString f && isGlob k n && c1 as g) = true) : ICall1 k f P e :=
  cCall_inv h fun n as ks p h => and2 h fun h1 h => nilb h1 (cName_inv h fun y py h => and3 h fun h2 => eqb h2 fun h3 h4 => c1_inv h4 fun x h4 => ⟨h3, hP _ h4⟩)
theorem inv_lcp {a : ME} (h : chkE k e (.lcp a) = true) : ICall1 k "list" (fun x => chkE k x a = true) e := inv_call1 (fun _ h => h) h
inductive IIsi (k : KD) (a : ME) (T : String) : Expr → Prop
  | mk {gp x tp pos} (hg : isGlob k (Str.ofString "isinstance") = true) (ht : isGlob k (Str.ofString T) = true) (h : chkE k x a = true) : IIsi k a T (.Call (.Name (Str.ofString "isinstance") gp) [x, .Name (Str.ofString T) tp] [] pos)
theorem inv_isi {a : ME} {T : String} (h : chkE k e (.isi a T) = true) : IIsi k a T e :=
  cCall_inv h fun g as ks p h => and2 h fun h1 h => nilb h1 (c2_inv h fun x t h => cName_inv (e := g) h fun y py h => cName_inv (e := t) h fun z pz h => and5 h fun h2 => eqb h2 fun h3 h4 => eqb h4 fun h5 h6 => ⟨h3, h5, h6⟩)
end
end Mine
namespace Mine
open PySem
noncomputable def fin (r : Option (Fl × St)) : Option (D × Bool) := match r with
  | some (.ret fr d, _) => some (d, fr)
  | some (.next, _) => some (.none, false)
  | _ => none
theorem call_eq {P : List (String × Fn)} {X : CF} {f : String} {fn : Fn} (n : Nat) (args : List D) (h : P.lookup f = some fn) (hl : args.length = fn.params.length) :
    (callN P X (n + 1)).call f args = fin (exSs (callN P X n) fn.body ((fn.params.zip args).map fun p => (p.1, (false, p.2)))) := by
  simp only [callN, h, hl, if_true, fin]
  all_goals (split <;> rename_i q <;> simp [q])
theorem glob_x (P : List (String × Fn)) (X : CF) (n : Nat) (x : String) : (callN P X n).glob x = X.glob x := by cases n <;> rfl

noncomputable def thenS (r : Option (Fl × St)) (k : St → Option (Fl × St)) : Option (Fl × St) := match r with
  | some (.next, σ) => k σ
  | x => x
theorem x_nil (cf : CF) (σ : St) : exSs cf [] σ = some (.next, σ) := by simp [xss_nil, xss_cons]
theorem x_cons (cf : CF) (s : MS) (r : List MS) (σ : St) : exSs cf (s :: r) σ = thenS (exS cf s σ) (exSs cf r) := by
  simp only [xss_nil, xss_cons, thenS]
  all_goals (split <;> rename_i q <;> simp_all)
theorem x_app (cf : CF) (a b : List MS) (σ : St) : exSs cf (a ++ b) σ = thenS (exSs cf a σ) (exSs cf b) := by
  induction a generalizing σ with
  | nil => simp [x_nil, thenS]
  | cons s a ih =>
    rw [List.cons_append, x_cons, x_cons]
    generalize exS cf s σ = z
    unfold thenS
    cases z with
    | none => rfl
    | some p =>
      obtain ⟨fl, σ'⟩ := p
      cases fl <;> simp [ih, thenS]
theorem x_go {cf : CF} {s : MS} {r : List MS} {σ σ' : St} (h : exS cf s σ = some (.next, σ')) : exSs cf (s :: r) σ = exSs cf r σ' := by rw [x_cons, h]; rfl
theorem x_end {cf : CF} {s : MS} {r : List MS} {σ σ' : St} {fr : Bool} {d : D} (h : exS cf s σ = some (.ret fr d, σ')) : exSs cf (s :: r) σ = some (.ret fr d, σ') := by rw [x_cons, h]; rfl
theorem x_iteb {cf : CF} {c : ME} {t f r : List MS} {σ : St} {d : D} {k : Bool} (h : evE cf (vis σ) c = some d) (ht : truth d = some k) : exSs cf (.ite c t f :: r) σ = if k = true then exSs cf (t ++ r) σ else exSs cf (f ++ r) σ := by
  rw [x_cons, xs_ite, h]; dsimp only; rw [ht, x_app, x_app]
  cases k <;> rfl
noncomputable def bodyF (cf : CF) (body : List MS) (x : String) : D → St → Option (Fl × St) := fun it σ => exSs cf body (setv σ x (false, it))
noncomputable def loopS (r : Option (Fl × St)) (k : St → Option (Fl × St)) : Option (Fl × St) := match r with
  | some (.next, σ) => k σ
  | x => x
theorem forB_cons (cf : CF) (body : List MS) (x : String) (it : D) (r : List D) (σ : St) : forD (bodyF cf body x) (it :: r) σ = loopS (exSs cf body (setv σ x (false, it))) (forD (bodyF cf body x) r) := by
  show (match exSs cf body (setv σ x (false, it)) with
    | some (.next, σ') => forD (bodyF cf body x) r σ'
    | x => x) = _
  generalize exSs cf body (setv σ x (false, it)) = z
  unfold loopS
  split <;> rfl
theorem x_for {cf : CF} {x : String} {src : ME} {body : List MS} {r : List MS} {σ : St} {d : D} {its : List D} (h : evE cf (vis σ) src = some d) (hi : d.items = some its) : exSs cf (.for_ x src body :: r) σ = thenS (forD (bodyF cf body x) its (freeze src.names σ)) (exSs cf r) := by
  rw [x_cons, xs_for_, h]; dsimp only; rw [hi]; rfl
theorem x_rv {cf : CF} {e : ME} {σ : St} {d : D} {fr : Bool} (hv : e.varOf = none) (h : evF cf (vis σ) e = some (d, fr)) : exS cf (.ret e) σ = some (.ret fr d, σ) := by
  rw [xs_ret, hv]; dsimp only; rw [h]
theorem x_rx {cf : CF} {z : String} {σ : St} {d : D} {fr : Bool} (h : σ.lookup z = some (fr, d)) : exS cf (.ret (.var z)) σ = some (.ret fr d, σ) := by
  rw [xs_ret]; show (match σ.lookup z with | some (fr, d) => some (Fl.ret fr d, σ) | none => none) = _; rw [h]
end Mine
namespace Mine
open PySem
theorem vI {cf : CF} {ρ : List (String × D)} {i : Int} : evE cf ρ (.int i) = some (.int i) := rfl
theorem vS {cf : CF} {ρ : List (String × D)} {i : String} : evE cf ρ (.str i) = some (.str (Str.ofString i)) := rfl
theorem vB {cf : CF} {ρ : List (String × D)} {i : Bool} : evE cf ρ (.bool i) = some (.bool i) := rfl
theorem vN {cf : CF} {ρ : List (String × D)} : evEs cf ρ [] = some [] := rfl
theorem dtt {p : Prop} [Decidable p] (h : decide p = true) : p := of_decide_eq_true h
section
variable (cf : CF) (ρ : List (String × D))
theorem e_glob (x : String) : evE cf ρ (.glob x) = cf.glob x := rfl
theorem e_none : evE cf ρ .none = some .none := rfl
noncomputable def o2 (f : D → D → Option D) (a b : Option D) : Option D := match a with
  | some x => (match b with | some y => f x y | none => none)
  | none => none
theorem e_bin (op : Operator) (a b : ME) : evE cf ρ (.bin op a b) = o2 (binD op) (evE cf ρ a) (evE cf ρ b) := rfl
theorem e_cmp (op : CmpOp) (a b : ME) : evE cf ρ (.cmp op a b) = o2 (cmpD op) (evE cf ρ a) (evE cf ρ b) := rfl
theorem e_sub (a b : ME) : evE cf ρ (.sub a b) = o2 subD (evE cf ρ a) (evE cf ρ b) := rfl
theorem e_bop (op : BoolOp) (es : List ME) : evE cf ρ (.bop op es) = evBop cf ρ op es := rfl
noncomputable def o1 (f : D → Option D) (a : Option D) : Option D := match a with
  | some x => f x
  | none => none
theorem e_not (a : ME) : evE cf ρ (.not a) = o1 (fun x => (truth x).map fun t => .bool (!t)) (evE cf ρ a) := rfl
noncomputable def oL (f : List D → Option D) (a : Option (List D)) : Option D := match a with
  | some x => f x
  | none => none
theorem e_tup (es : List ME) : evE cf ρ (.tup es) = oL (fun ds => if ds.length ≤ big then some (.tup ds) else none) (evEs cf ρ es) := rfl
theorem e_lst (es : List ME) : evE cf ρ (.lst es) = oL (fun ds => if ds.length ≤ big then some (.list ds) else none) (evEs cf ρ es) := rfl
theorem e_dct (ks vs : List ME) : evE cf ρ (.dct ks vs) = (match evEs cf ρ ks with
    | some ds => (match evEs cf ρ vs with
      | some es => if (ds.all D.isCell && ds.length == es.length && decide (ds.length ≤ 15)) = true then some (.dict (dputs ds es).1 (dputs ds es).2) else none
      | none => none)
    | none => none) := rfl
theorem e_blt (f : String) (es : List ME) : evE cf ρ (.blt f es) = oL (bltD f) (evEs cf ρ es) := rfl
theorem e_call (f : String) (es : List ME) : evE cf ρ (.call f es) = oL (fun ds => (cf.call f ds).map (·.1)) (evEs cf ρ es) := rfl
theorem e_lcp (a : ME) : evE cf ρ (.lcp a) = o1 (fun x => (lstD x).map .list) (evE cf ρ a) := rfl
theorem e_isi (a : ME) (T : String) : evE cf ρ (.isi a T) = o1 (fun x => (isiD x T).map .bool) (evE cf ρ a) := rfl
theorem e_sl (a l h : ME) : evE cf ρ (.sl a l h) = o1 (fun x => o2 (slD x) (evE cf ρ l) (evE cf ρ h)) (evE cf ρ a) := rfl
noncomputable def compF (elt : ME) (x : String) (cs : List ME) : D → Option (Option D) := fun it => match evCs cf ((x, it) :: ρ) cs with
  | some true => (match evE cf ((x, it) :: ρ) elt with | some y => some (some y) | none => none)
  | some false => some none
  | none => none
theorem e_comp (elt : ME) (x : String) (src : ME) (cs : List ME) : evE cf ρ (.comp elt x src cs) = o1 (fun d => (match d.items with
      | some its => if its.length ≤ big then (compM (compF cf ρ elt x cs) its).map .list else none
      | none => none)) (evE cf ρ src) := rfl
noncomputable def oC (a : Option D) (b : Option (List D)) : Option (List D) := match a with
  | some d => (match b with | some ds => some (d :: ds) | none => none)
  | none => none
theorem es_cons (e : ME) (r : List ME) : evEs cf ρ (e :: r) = oC (evE cf ρ e) (evEs cf ρ r) := rfl
noncomputable def oB (s : Bool) (r : Option D) (a : Option D) : Option D := match a with
  | some d => (match truth d with
    | some t => if t = s then some d else r
    | none => none)
  | none => none
theorem oB_bool (s : Bool) (r : Option D) (t : Bool) : oB s r (some (.bool t)) = if t = s then some (.bool s) else r := by
  unfold oB truth
  by_cases h : t = s
  · subst h; rfl
  · simp [h]
theorem b_and (e e2 : ME) (r : List ME) : evBop cf ρ .And (e :: e2 :: r) = oB false (evBop cf ρ .And (e2 :: r)) (evE cf ρ e) := rfl
theorem b_or (e e2 : ME) (r : List ME) : evBop cf ρ .Or (e :: e2 :: r) = oB true (evBop cf ρ .Or (e2 :: r)) (evE cf ρ e) := rfl
theorem c_nil : evCs cf ρ [] = some true := rfl
end
theorem compM_ok (f : D → Option (Option D)) (Q : D → D → Prop) : ∀ (its : List D), (∀ it ∈ its, ∃ d, Q it d ∧ f it = some (some d)) → ∃ ds, compM f its = some ds ∧ ds.length = its.length ∧ ∀ d ∈ ds, ∃ it ∈ its, Q it d
  | [], _ => ⟨[], rfl, rfl, fun _ h => nomatch h⟩
  | it :: r, h => by
    obtain ⟨d, q, e⟩ := h it (by simp)
    obtain ⟨ds, e2, hl, hq⟩ := compM_ok f Q r fun i hi => h i (by simp [hi])
    refine ⟨d :: ds, by simp [compM, e, e2], by simp [hl], ?_⟩
    intro d' hd
    rcases List.mem_cons.mp hd with rfl | hd
    · exact ⟨it, by simp, q⟩
    · obtain ⟨i, hi, q'⟩ := hq d' hd
      exact ⟨i, by simp [hi], q'⟩
theorem compM_map (f : D → Option (Option D)) (g : D → D) : ∀ (its : List D), (∀ it ∈ its, f it = some (some (g it))) → compM f its = some (its.map g)
  | [], _ => rfl
  | it :: r, h => by simp [compM, h it (by simp), compM_map f g r fun i hi => h i (by simp [hi])]
theorem compF_nil {cf : CF} {ρ : List (String × D)} {elt : ME} {x : String} {it d : D} (h : evE cf ((x, it) :: ρ) elt = some d) : compF cf ρ elt x [] it = some (some d) := by
  unfold compF; simp [c_nil, h]
theorem items_rng (n : Nat) : D.items (.rng 0 n) = some ((List.range n).map fun (i : Nat) => D.int (i : Int)) := by
  simp [D.items]
end Mine
namespace Mine
open PySem

noncomputable def Ex (h : Heap) (H : Addr → Prop) : Prop := ∀ a, H a → ∃ b o, @LE.le Nat _ a b ∧ gat h b = some o
theorem Ex.fresh {h : Heap} {H : Addr → Prop} (x : Ex h H) : ¬ H h.objs.size := fun e => by
  obtain ⟨b, o, hb, ho⟩ := x _ e
  exact Nat.lt_irrefl _ (Nat.lt_of_le_of_lt hb (Heap.gt_lt ho))
theorem Ex.keeps {h h' : Heap} {H : Addr → Prop} (x : Ex h H) (hk : KH h h') : Ex h' H := fun a e => by
  obtain ⟨b, o, hb, ho⟩ := x _ e
  exact ⟨b, o, hb, hk _ _ ho⟩

inductive Keeps (s : Shared) : Shared → Prop
  | mk (h tk dr) (k : KH s.heap h) : Keeps s { s with heap := h, toks := tk, drawn := dr }
theorem Kp.refl (s : Shared) : Keeps s s := .mk s.heap s.toks s.drawn fun _ _ e => e
theorem Kp.tok (s : Shared) (t : Nat) : Keeps s { s with toks := t } := .mk s.heap t s.drawn fun _ _ e => e
theorem Kp.push (s : Shared) (o : Obj) : Keeps s { s with heap := s.heap.push o } := .mk _ s.toks s.drawn fun _ _ e => Heap.gt_push_of_some _ e
theorem Kp.trans {s s' s'' : Shared} (a : Keeps s s') (b : Keeps s' s'') : Keeps s s'' := Keeps.rec (motive := fun s' _ => ∀ s'', Keeps s' s'' → Keeps s s'') (fun _ _ _ k _ b => b.rec fun h t d k' => .mk h t d fun x o e => k' x o (k x o e)) a s'' b
theorem Kp.heap {s s' : Shared} (a : Keeps s s') : KH s.heap s'.heap := a.rec fun _ _ _ k => k

inductive Post (w : World) (s : Shared) (H : Addr → Prop) (d : D) (v : Value) (s' : Shared) : Prop
  | mk (k : Keeps s s') (r : Rep w.params s'.heap H v d)
theorem Post.k {w : World} {s : Shared} {H : Addr → Prop} {d : D} {v : Value} {s' : Shared} (q : Post w s H d v s') : Keeps s s' := q.rec fun k _ => k
theorem Post.r {w : World} {s : Shared} {H : Addr → Prop} {d : D} {v : Value} {s' : Shared} (q : Post w s H d v s') : Rep w.params s'.heap H v d := q.rec fun _ r => r
theorem Post.tr {w : World} {s s₁ s₂ : Shared} {H : Addr → Prop} {d : D} {v : Value} (k : Keeps s s₁) (q : Post w s₁ H d v s₂) : Post w s H d v s₂ := ⟨Kp.trans k q.k, q.r⟩
inductive PostB (s : Shared) (t b : Bool) (s' : Shared) : Prop
  | mk (k : Keeps s s') (e : b = t)
theorem PostB.k {s : Shared} {t b : Bool} {s' : Shared} (q : PostB s t b s') : Keeps s s' := q.rec fun k _ => k
theorem PostB.e {s : Shared} {t b : Bool} {s' : Shared} (q : PostB s t b s') : b = t := q.rec fun _ e => e
theorem PostB.tr {s s₁ : Shared} {t b : Bool} {s' : Shared} (k : Keeps s s₁) (q : PostB s₁ t b s') : PostB s t b s' := ⟨Kp.trans k q.k, q.e⟩

inductive OwnL (P : Params) (h : Heap) (H : Addr → Prop) (a : Addr) (ds : List D) : Prop
  | mk {vs n} (ho : h.get? a = some (lstO vs n)) (hl : ds.length ≤ big) (hr : RepAll P h (fun b => H b ∨ b = a) vs.toList ds)
inductive OwnM (P : Params) (h : Heap) (H : Addr → Prop) (a : Addr) (ks vs : List D) : Prop
  | mk {es n} (ho : h.get? a = some (dicO es n)) (hl : ks.length ≤ big) (h1 : RepAll P h (fun b => H b ∨ b = a) (es.toList.map (·.key)) ks) (h2 : RepAll P h (fun b => H b ∨ b = a) (es.toList.map (·.val)) vs) (hh : es.toList.map (·.hash) = ks.map (hashK P)) (hk : ks.all D.isKey = true) (hd : ks.Nodup) (hs : (a == sysModules) = false)
noncomputable def OwnD (P : Params) (h : Heap) (H : Addr → Prop) (a : Addr) (d : D) : Prop := match d with
  | .list ds => OwnL P h H a ds
  | .dict ks vs => OwnM P h H a ks vs
  | _ => False
section
variable {P : Params} {h h' : Heap} {H H' : Addr → Prop} {a : Addr} {d : D} {ds ks vs : List D}
@[elab_as_elim] theorem OwnD.cases {C : D → Prop} (o : OwnD P h H a d) (hl : ∀ ds, OwnL P h H a ds → C (.list ds)) (hm : ∀ ks vs, OwnM P h H a ks vs → C (.dict ks vs)) : C d :=
  D.casesOn (motive_1 := fun d => OwnD P h H a d → C d) d (fun o => o.elim) (fun _ o => o.elim) (fun _ o => o.elim) (fun _ o => o.elim) (fun _ o => o.elim) hl hm (fun _ _ o => o.elim)
    (fun _ o => o.elim)
    o
theorem OwnL.rep (o : OwnL P h H a ds) (hn : ¬ H a) : Rep P h H (.ref a) (.list ds) := o.rec fun ho hl hr => .mk ho hn hl (hr.mono (fun _ _ _ e => e) fun _ _ _ q => .inl q)
theorem OwnM.rep (o : OwnM P h H a ks vs) (hn : ¬ H a) : Rep P h H (.ref a) (.dict ks vs) := o.rec fun ho hl h1 h2 hh hk hd hs => .mk ho hn hl (h1.mono (fun _ _ _ e => e) fun _ _ _ q => .inl q) (h2.mono (fun _ _ _ e => e) fun _ _ _ q => .inl q) hh hk hd hs
theorem OwnD.rep (o : OwnD P h H a d) (hn : ¬ H a) : Rep P h H (.ref a) d := o.cases (fun _ o => o.rep hn) fun _ _ o => o.rep hn
theorem OwnD.off {h' : Heap} {H' : Addr → Prop} (o : OwnD P h H a d) : Rep P h' H' (.ref a) d → ¬ H' a := o.cases (C := fun d => Rep P h' H' (.ref a) d → ¬ H' a) (fun _ _ r => RSeq.off (mkO := lstO) r rfl) fun _ _ _ r => RDct.rec (motive := fun v _ => v = .ref a → ¬ H' a) (fun _ hn _ _ _ _ _ _ _ e => ref_off hn e) r rfl
theorem OwnD.obj (o : OwnD P h H a d) : ∃ o, h.get? a = some o ∧ isTab o = false := o.cases (C := fun _ => ∃ o, h.get? a = some o ∧ isTab o = false) (fun _ o => o.rec fun ho _ _ => ⟨_, ho, rfl⟩) fun _ _ o => o.rec fun ho _ _ _ _ _ _ _ => ⟨_, ho, rfl⟩
theorem OwnD.ex (o : OwnD P h H a d) : ∃ o, gat h a = some o := o.obj.elim fun o q => ⟨o, Heap.gt_of q.1 q.2⟩
theorem OwnD.notTab (o : OwnD P h H a d) : ∀ o, h.get? a = some o → isTab o = false := o.obj.elim fun _ q => notTab_at q.1 q.2
theorem OwnD.scalar (o : OwnD P h H a d) : d.scalar = false := o.cases (fun _ _ => rfl) fun _ _ _ => rfl
noncomputable abbrev Less' (h : Heap) (H H' : Addr → Prop) (a : Addr) : Prop := ∀ b o, gat h b = some o → H' b → H b ∨ b = a
theorem own_rep (hk : Kept h H h') (hH : Less' h H H' a) {l : List Value} (r : RepAll P h (fun b => H b ∨ b = a) l ds) : RepAll P h' (fun b => H' b ∨ b = a) l ds := r.mono (fun b o hn e => hk b o (fun q => hn (.inl q)) e) fun b o e q => q.elim (hH b o e) .inr
theorem OwnL.mono (o : OwnL P h H a ds) (ha : ∀ o, gat h a = some o → gat h' a = some o) (hk : Kept h H h') (hH : Less' h H H' a) : OwnL P h' H' a ds := o.rec fun ho hl hr => ⟨Heap.of_gt (ha _ (Heap.gt_of ho)), hl, own_rep hk hH hr⟩
theorem OwnM.mono (o : OwnM P h H a ks vs) (ha : ∀ o, gat h a = some o → gat h' a = some o) (hk : Kept h H h') (hH : Less' h H H' a) : OwnM P h' H' a ks vs := o.rec fun ho hl h1 h2 hh hK hd hs => ⟨Heap.of_gt (ha _ (Heap.gt_of ho)), hl, own_rep hk hH h1, own_rep hk hH h2, hh, hK, hd, hs⟩
theorem OwnD.mono (o : OwnD P h H a d) (ha : ∀ o, gat h a = some o → gat h' a = some o) (hk : Kept h H h') (hH : Less' h H H' a) : OwnD P h' H' a d := o.cases (fun _ o => o.mono ha hk hH) fun _ _ o => o.mono ha hk hH
theorem OwnD.sub (o : OwnD P h H a d) (hH : ∀ b, H' b → H b) : OwnD P h H' a d := o.mono (fun _ e => e) (fun _ _ _ e => e) fun b _ _ q => .inl (hH b q)
end
theorem no_sn {α : Type} {o : Option α} {x : α} {C : Prop} (h : o = some x) (h' : o = none) : C := by cases h.symm.trans h'
theorem none_of {h h' : Heap} {a : Addr} (hx : ∀ o, gat h a = some o → ∃ o', gat h' a = some o') (e : gat h' a = none) : gat h a = none := by
  cases q : gat h a with
  | none => rfl
  | some o => exact (hx o q).elim fun o' e' => no_sn e' e
theorem none_up {h h' : Heap} {a : Addr} (hk : KH h h') (e : gat h' a = none) : gat h a = none := none_of (fun o q => ⟨o, hk a o q⟩) e
inductive Fr (P : Params) (h0 h : Heap) (H : Addr → Prop) (d : D) : Value → Prop
  | mk {a} (e : gat h0 a = none) (o : OwnD P h H a d) : Fr P h0 h H d (.ref a)
theorem Fr.old {P : Params} {h0 h0' h : Heap} {H : Addr → Prop} {d : D} {v : Value} (f : Fr P h0 h H d v) (hk : KH h0' h0) : Fr P h0' h H d v := f.rec fun e o => ⟨none_up hk e, o⟩
theorem Fr.sub {P : Params} {h0 h : Heap} {H H' : Addr → Prop} {d : D} {v : Value} (f : Fr P h0 h H d v) (hH : ∀ b, H' b → H b) : Fr P h0 h H' d v := f.rec fun e o => ⟨e, o.sub hH⟩
inductive PostF (w : World) (s : Shared) (H : Addr → Prop) (d : D) (fr : Bool) (v : Value) (s' : Shared) : Prop
  | mk (k : Keeps s s') (r : Rep w.params s'.heap H v d) (f : fr = true → Fr w.params s.heap s'.heap H d v)
theorem PostF.post {w : World} {s s' : Shared} {H : Addr → Prop} {d : D} {fr : Bool} {v : Value} (q : PostF w s H d fr v s') : Post w s H d v s' := q.rec fun k r _ => ⟨k, r⟩
theorem PostF.tr {w : World} {s s₁ s₂ : Shared} {H : Addr → Prop} {d : D} {fr : Bool} {v : Value} (k : Keeps s s₁) (q : PostF w s₁ H d fr v s₂) : PostF w s H d fr v s₂ := q.rec fun k' r f => ⟨Kp.trans k k', r, fun e => (f e).old (Kp.heap k)⟩
theorem Post.pf {w : World} {s s₂ : Shared} {H : Addr → Prop} {d : D} {fr : Bool} {v : Value} (q : Post w s H d v s₂) (h : fr = false) : PostF w s H d fr v s₂ := ⟨q.k, q.r, fun e => nomatch h.symm.trans e⟩
theorem fresh_size (h : Heap) : gat h h.objs.size = none := Heap.gt_none_of_le (Nat.le_refl _)
theorem not_size {h : Heap} {a : Addr} {o : Obj} {C : Prop} (e : gat h a = some o) (q : a = h.objs.size) : C := no_sn e (q ▸ fresh_size h)
theorem pf_list {w : World} {s : Shared} {H : Addr → Prop} {vs : Array Value} {ds : List D} {h' : Heap} {n tk : Nat} {dr : Drawn} (hH : Ex s.heap H) (hl : ds.length ≤ big) (hr : RepAll w.params s.heap H vs.toList ds) (hk : KH s.heap h')
    (ho : h'.get? s.heap.objs.size = some (lstO vs n)) : PostF w s H (.list ds) true (.ref s.heap.objs.size) { s with heap := h', toks := tk, drawn := dr } :=
  have own : OwnL w.params h' H s.heap.objs.size ds := ⟨ho, hl, hr.mono (fun a o _ e => hk a o e) fun a o e q => q.elim id (not_size e)⟩
  ⟨.mk h' tk dr hk, own.rep hH.fresh, fun _ => ⟨fresh_size _, own⟩⟩
theorem fin_none {C : Prop} {α : Type} {x : α} (h : Option.none = some x) : C := by cases h
theorem if_inv {α : Type} {c : Prop} [Decidable c] {x d : α} {C : Prop} (h : (if c then some x else none) = some d) (k : c → x = d → C) : C := by
  by_cases hc : c
  · rw [if_pos hc] at h; exact k hc (Option.some.inj h)
  · rw [if_neg hc] at h; exact fin_none h
theorem if_inv' {α : Type} {c : Prop} [Decidable c] {x : Option α} {d : α} {C : Prop} (h : (if c then x else none) = some d) (k : c → x = some d → C) : C := by
  by_cases hc : c
  · rw [if_pos hc] at h; exact k hc h
  · rw [if_neg hc] at h; exact fin_none h
theorem if_inv2 {α : Type} {c : Prop} [Decidable c] {x y : Option α} {d : α} {C : Prop} (h : (if c then x else y) = some d) (k : c → x = some d → C) (k' : ¬ c → y = some d → C) : C := by
  by_cases hc : c
  · rw [if_pos hc] at h; exact k hc h
  · rw [if_neg hc] at h; exact k' hc h
theorem ob_inv {α β : Type} {o : Option α} {f : α → Option β} {b : β} {C : Prop} (h : o.bind f = some b) (k : ∀ a, o = some a → f a = some b → C) : C := by
  cases o with
  | none => exact fin_none h
  | some a => exact k a rfl h
theorem om_inv {α β : Type} {o : Option α} {f : α → β} {b : β} {C : Prop} (h : o.map f = some b) (k : ∀ a, o = some a → f a = b → C) : C := by
  cases o with
  | none => exact fin_none h
  | some a => exact k a rfl (Option.some.inj h)
section
variable {α : Type} {r : α} {d : D} {C : D → Prop}
@[elab_as_elim] theorem onI_inv {f : Int → Option α} (h : onI d f = some r) (k : ∀ i, f i = some r → C (.int i)) : C d :=
  D.casesOn (motive_1 := fun d => onI d f = some r → C d) d (fun h => fin_none h) (fun _ h => fin_none h) k (fun _ h => fin_none h) (fun _ h => fin_none h) (fun _ h => fin_none h) (fun _ _ h => fin_none h) (fun _ _ h => fin_none h)
    (fun _ h => fin_none h)
    h
@[elab_as_elim] theorem onS_inv {f : Str → Option α} (h : onS d f = some r) (k : ∀ i, f i = some r → C (.str i)) : C d :=
  D.casesOn (motive_1 := fun d => onS d f = some r → C d) d (fun h => fin_none h) (fun _ h => fin_none h) (fun _ h => fin_none h) k (fun _ h => fin_none h) (fun _ h => fin_none h) (fun _ _ h => fin_none h) (fun _ _ h => fin_none h)
    (fun _ h => fin_none h)
    h
@[elab_as_elim] theorem onB_inv {f : Bool → Option α} (h : onB d f = some r) (k : ∀ i, f i = some r → C (.bool i)) : C d :=
  D.casesOn (motive_1 := fun d => onB d f = some r → C d) d (fun h => fin_none h) k (fun _ h => fin_none h) (fun _ h => fin_none h) (fun _ h => fin_none h) (fun _ h => fin_none h) (fun _ _ h => fin_none h) (fun _ _ h => fin_none h)
    (fun _ h => fin_none h)
    h
@[elab_as_elim] theorem onT_inv {f : List D → Option α} (h : onT d f = some r) (k : ∀ i, f i = some r → C (.tup i)) : C d :=
  D.casesOn (motive_1 := fun d => onT d f = some r → C d) d (fun h => fin_none h) (fun _ h => fin_none h) (fun _ h => fin_none h) (fun _ h => fin_none h) k (fun _ h => fin_none h) (fun _ _ h => fin_none h) (fun _ _ h => fin_none h)
    (fun _ h => fin_none h)
    h
@[elab_as_elim] theorem onL_inv {f : List D → Option α} (h : onL d f = some r) (k : ∀ i, f i = some r → C (.list i)) : C d :=
  D.casesOn (motive_1 := fun d => onL d f = some r → C d) d (fun h => fin_none h) (fun _ h => fin_none h) (fun _ h => fin_none h) (fun _ h => fin_none h) (fun _ h => fin_none h) k (fun _ _ h => fin_none h) (fun _ _ h => fin_none h)
    (fun _ h => fin_none h)
    h
@[elab_as_elim] theorem onC_inv {f : Int → Option α} {g : Str → Option α} (h : onC d f g = some r) (k : ∀ i, f i = some r → C (.int i)) (k' : ∀ x, g x = some r → C (.str x)) : C d :=
  D.casesOn (motive_1 := fun d => onC d f g = some r → C d) d (fun h => fin_none h) (fun _ h => fin_none h) k k' (fun _ h => fin_none h) (fun _ h => fin_none h) (fun _ _ h => fin_none h) (fun _ _ h => fin_none h)
    (fun _ h => fin_none h)
    h
end
section
variable {P : Params} {h : Heap} {H : Addr → Prop} {v : Value} {C : Value → Prop}
@[elab_as_elim] theorem Rep.intE {i : Int} (r : Rep P h H v (.int i)) (k : ∀ t, C (.int i t)) : C v := RInt.rec (motive := fun v _ => C v) k r
@[elab_as_elim] theorem Rep.strE {x : Str} (r : Rep P h H v (.str x)) (k : ∀ t, C (.str x t)) : C v := RStr.rec (motive := fun v _ => C v) k r
@[elab_as_elim] theorem Rep.boolE {b : Bool} (r : Rep P h H v (.bool b)) (k : C (.bool b)) : C v := (show v = .bool b from r) ▸ k
@[elab_as_elim] theorem Rep.noneE (r : Rep P h H v .none) (k : C .none) : C v := (show v = .none from r) ▸ k
@[elab_as_elim] theorem Rep.tupE {ds : List D} (r : Rep P h H v (.tup ds)) (k : ∀ a vs n, h.get? a = some (tupO vs n) → ¬ H a → ds.length ≤ big → RepAll P h H vs.toList ds → C (.ref a)) : C v := RSeq.rec (motive := fun v _ => C v) (fun ho hn hl hr => k _ _ _ ho hn hl hr) r
@[elab_as_elim] theorem Rep.listE {ds : List D} (r : Rep P h H v (.list ds)) (k : ∀ a vs n, h.get? a = some (lstO vs n) → ¬ H a → ds.length ≤ big → RepAll P h H vs.toList ds → C (.ref a)) : C v := RSeq.rec (motive := fun v _ => C v) (fun ho hn hl hr => k _ _ _ ho hn hl hr) r
end

section
variable {prog : Program} {w : World} {A : Around} {E : Value → Shared → Prop} {s : Shared} {H : Addr → Prop}

theorem bits_of {a : Int} {k : Nat} (h : a.natAbs < 2 ^ k) : Builtin.Int.intBits a ≤ k := by
  unfold Builtin.Int.intBits
  split
  · exact Nat.zero_le _
  · rename_i hh
    exact (Nat.log2_lt fun e => hh (by simp; omega)).mpr h
theorem abs_lt {a n : Int} {m : Nat} (e : (m : Int) = n) (h : -n < a ∧ a < n) : a.natAbs < m := by subst e; omega
theorem bits_le {a : Int} (h : -lim < a ∧ a < lim) : Builtin.Int.intBits a ≤ 64 := bits_of (abs_lt (Int.natCast_pow 2 64) h)
theorem bits_le1000 {a : Int} (h : -powLim < a ∧ a < powLim) : Builtin.Int.intBits a ≤ 1000 := bits_of (abs_lt (Int.natCast_pow 2 1000) h)

theorem RepAll.appendA {P : Params} {h : Heap} {vs ws : Array Value} {ds es : List D} (r : RepAll P h H vs.toList ds) (k : RepAll P h H ws.toList es) : RepAll P h H (vs ++ ws).toList (ds ++ es) := by rw [Array.toList_append]; exact r.append k
theorem rep_newTup {vs : Array Value} {ds : List D} (hH : Ex s.heap H) (hl : ds.length ≤ big) (hr : RepAll w.params s.heap H vs.toList ds) :
    Rep w.params (s.heap.push (tupO vs 0)) H (.ref s.heap.objs.size) (.tup ds) :=
  .mk (Heap.get?_push_size _ rfl) hH.fresh hl (hr.keeps fun _ _ e => Heap.gt_push_of_some _ e)
theorem p_int {i : Int} {t : Tok} {k : Nat} : Post w s H (.int i) (.int i t) { s with toks := k } := ⟨Kp.tok _ _, .mk t⟩
theorem p_str {i : Str} {t : Tok} {k : Nat} : Post w s H (.str i) (.str i t) { s with toks := k } := ⟨Kp.tok _ _, .mk t⟩
theorem p_bool {b : Bool} {k : Nat} : Post w s H (.bool b) (.bool b) { s with toks := k } := ⟨Kp.tok _ _, rfl⟩

theorem binI_snd {op : Operator} {i j : Int} {t u : Tok} {d : D} (he : binI op i j = some d) : wpAny (model prog w) A (binaryOp op (.int i t) (.int j u)) (Post w s H d) E s := by
  cases op with
  | Add => exact Option.some.inj he ▸ PyProof.Rows.add_int p_int
  | Sub => exact Option.some.inj he ▸ PyProof.Rows.sub_int p_int
  | Mult => exact if_inv he fun hc e => e ▸ PyProof.Rows.mul_int p_int (hc.elim (fun h => .of_left (bits_le h)) fun h => .of_right (bits_le h))
  | Mod => exact if_inv he fun hc e => e ▸ PyProof.Rows.mod_int (Int.ne_of_gt hc) (Int.fmod_eq_emod_of_nonneg i (Int.le_of_lt hc) ▸ p_int)
  | Pow => exact if_inv he fun hc e => e ▸ PyProof.Rows.pow_int hc.2.2.1 (Int.le_trans (Int.mul_le_mul (Int.ofNat_le.mpr (bits_le1000 ⟨hc.1, hc.2.1⟩)) hc.2.2.2 hc.2.2.1 (by decide)) (by decide)) p_int
  | FloorDiv => exact if_inv he fun hc e => e ▸ PyProof.Rows.floordiv_int (Int.ne_of_gt hc.1) (Int.fdiv_eq_ediv_of_nonneg i (Int.le_of_lt hc.1) ▸ p_int) (.inl (PyProof.noPylong_of_log2 (Nat.lt_trans ((Nat.log2_lt (by omega)).mpr (abs_lt (Int.natCast_pow 2 64) ⟨Int.lt_trans (by decide) hc.1, hc.2⟩)) (by decide))))
  | _ => exact fin_none he
theorem binS_snd {op : Operator} {x : Str} {t : Tok} {y : Value} {b d : D} (hy : Rep w.params s.heap H y b) (he : binS op x b = some d) : wpAny (model prog w) A (binaryOp op (.str x t) y) (Post w s H d) E s := by
  cases op with
  | Add => exact onS_inv (C := fun b => Rep w.params s.heap H y b → _) he (fun z he hy => if_inv he fun hc e => e ▸ hy.strE fun u => PyProof.Rows.add_str (fun t' tk => p_str) hc) hy
  | Mult =>
    refine onI_inv (C := fun b => Rep w.params s.heap H y b → _) he (fun n he hy => if_inv he fun hc e => e ▸ hy.intE fun u => SB.mul ⟨by simp; exact om55 hc, fun g1 _ => ?_, fun g1 _ => ?_⟩ fun t' k => p_str) hy
    · have : (1000 : Int) ≤ (2 ^ 63 - 1) / n := (Int.le_ediv_iff_mul_le (om56 g1)).mpr (om57 hc)
      exact om58 hc this
    · exact decide_eq_false (Nat.not_lt.mpr (Nat.le_trans (Nat.mul_le_mul hc.2.2 (Int.toNat_le.mpr hc.2.1)) (by decide)))
  | _ => exact fin_none he
theorem rep_flat {P : Params} {h : Heap} {vs : Array Value} {ds : List D} (r : RepAll P h H vs.toList ds) (k : Nat) {acc : Array Value} {es : List D} (ra : RepAll P h H acc.toList es) : RepAll P h H (List.foldl (fun x1 x2 => x1 ++ x2) acc (List.replicate k vs)).toList (es ++ (List.replicate k ds).flatten) := by
  induction k generalizing acc es with
  | zero => exact (List.append_nil es).symm ▸ ra
  | succ k ih =>
    rw [List.replicate_succ, List.replicate_succ, List.foldl_cons, List.flatten_cons, ← List.append_assoc]
    exact ih (ra.appendA r)
theorem rep_rep {P : Params} {h : Heap} {vs : Array Value} {ds : List D} (r : RepAll P h H vs.toList ds) (k : Nat) : RepAll P h H (List.foldl (fun x1 x2 => x1 ++ x2) #[] (List.replicate (if vs.isEmpty = true then 0 else k) vs)).toList (repL ds k) := by
  by_cases hv : vs.isEmpty = true
  · rw [if_pos hv]
    have e : ds = [] := List.eq_nil_of_length_eq_zero (r.size ▸ Array.size_eq_zero_iff.mpr (Array.isEmpty_iff.mp hv))
    subst e
    have : repL ([] : List D) k = [] := by unfold repL; induction k with | zero => rfl | succ k ih => rw [List.replicate_succ, List.flatten_cons, ih]; rfl
    rw [this]
    rfl
  · rw [if_neg hv]
    exact rep_flat r k (acc := #[]) (es := []) rfl
theorem repL_len (ds : List D) (k : Nat) : (repL ds k).length = ds.length * k := by
  unfold repL
  induction k with
  | zero => rfl
  | succ k ih => rw [List.replicate_succ, List.flatten_cons, List.length_append, ih, Nat.mul_succ, Nat.add_comm]
theorem binL_snd {op : Operator} {x y : Value} {as : List D} {b d : D} (hx : Rep w.params s.heap H x (.list as)) (hy : Rep w.params s.heap H y b) (hH : Ex s.heap H) (he : binL op as b = some d) :
    wpAny (model prog w) A (binaryOp op x y) (PostF w s H d d.isList) E s := by
  cases op with
  | Add => exact onL_inv (C := fun b => Rep w.params s.heap H y b → _) he (fun bs he hy => if_inv he fun hc e => e ▸ hx.listE fun _ _ _ o1 _ _ r1 => hy.listE fun _ _ _ o2 _ _ r2 =>
      P.add_list o1 o2 (pf_list hH (List.length_append ▸ hc) (r1.appendA r2) (fun _ _ e => Heap.gt_push_of_some _ e) (Heap.get?_push_size _ rfl)) (r1.size ▸ r2.size ▸ hc)) hy
  | Mult => exact onI_inv (C := fun b => Rep w.params s.heap H y b → _) he (fun n he hy => if_inv he fun hc e => e ▸ hx.listE fun l vs k o1 _ _ r1 => hy.intE fun u =>
      have hs : vs.size * n.toNat ≤ 2 ^ 24 := r1.size.symm ▸ hc.2.2
      wpAny_binaryOp_repeat_ref (T := "list") (U := "int") (by decide) ⟨_, o1, rfl⟩ (fun s' => typeIs_int s' n u) noFill_list_mul F.fills_int_mul F.slot_int_rmul repeat_list F.slot_int_index.lookup
        (call_meets F.slot_int_rmul (typeIs_int s n u) F.entry_int_rmul (F.args_int_rmul_2 _ _) (int___rmul___int_list n u l vs k)
          ⟨o1, rfl, ⟨_, o1, rfl⟩, call_meets F.slot_list_mul ⟨_, o1, rfl⟩ F.entry_list_mul (F.args_list_mul_2 _ _)
            (AutoListH.list___mul___list_int_3 l vs k n u (by simp [Builtin.List.listFitsIndex]; omega) (by omega) (by simp [Builtin.List.listTooLong, sizeLine]; omega))
            ⟨o1, pf_list hH (repL_len as n.toNat ▸ hc.2.2) (rep_rep r1 n.toNat) (fun _ _ e => Heap.gt_push_of_some _ e) (Heap.get?_push_size _ rfl)⟩⟩)) hy
  | _ => exact fin_none he
theorem nil_of_size {P : Params} {h : Heap} {vs : Array Value} {ds : List D} (r : RepAll P h H vs.toList ds) (hv : vs.isEmpty = true) : ds = [] := List.eq_nil_of_length_eq_zero (r.size ▸ Array.size_eq_zero_iff.mpr (Array.isEmpty_iff.mp hv))
theorem binT_snd {op : Operator} {x y : Value} {as : List D} {b d : D} (hx : Rep w.params s.heap H x (.tup as)) (hy : Rep w.params s.heap H y b) (hH : Ex s.heap H) (he : binT op as b = some d) :
    wpAny (model prog w) A (binaryOp op x y) (Post w s H d) E s := by
  cases op with
  | Add =>
    refine onT_inv (C := fun b => Rep w.params s.heap H y b → _) he (fun bs he hy => if_inv he fun hc e => e ▸ hx.tupE fun a1 v1 n1 o1 q1 l1 r1 => hy.tupE fun a2 v2 n2 o2 q2 l2 r2 => ?_) hy
    by_cases hv : v1.isEmpty = true
    · exact concat_meets ⟨_, o1, rfl⟩ ⟨_, o2, rfl⟩ noFill_tuple_add seq_tuple_add PySem.F.slot_tuple_add PySem.F.entry_tuple_add (PySem.F.args_tuple_add_2 _ _) (AutoSeq1.tuple___add___tuple_tuple_0 _ _ _ _ _ _ hv) ⟨o1, o2, Kp.refl _, (nil_of_size r1 hv).symm ▸ .mk o2 q2 l2 r2⟩
    · by_cases hv2 : v2.isEmpty = true
      · exact concat_meets ⟨_, o1, rfl⟩ ⟨_, o2, rfl⟩ noFill_tuple_add seq_tuple_add PySem.F.slot_tuple_add PySem.F.entry_tuple_add (PySem.F.args_tuple_add_2 _ _) (AutoSeq1.tuple___add___tuple_tuple_1 _ _ _ _ _ _ hv hv2) ⟨o1, o2, Kp.refl _, (nil_of_size r2 hv2).symm ▸ (List.append_nil as).symm ▸ .mk o1 q1 l1 r1⟩
      · exact P.add_tuple o1 o2 hv hv2 ⟨Kp.push _ _, rep_newTup hH (List.length_append ▸ hc) (r1.appendA r2)⟩ (r1.size ▸ r2.size ▸ hc)
  | _ => exact fin_none he
theorem binI_plain {op : Operator} {i j : Int} {d : D} (he : binI op i j = some d) : d.isList = false := by
  cases op with
  | Add | Sub => exact Option.some.inj he ▸ rfl
  | Mult | Mod | Pow | FloorDiv => exact if_inv he fun _ e => e ▸ rfl
  | _ => exact fin_none he
theorem binS_plain {op : Operator} {x : Str} {b d : D} (he : binS op x b = some d) : d.isList = false := by
  cases op with
  | Add => exact onS_inv (C := fun _ => d.isList = false) he fun _ he => if_inv he fun _ e => e ▸ rfl
  | Mult => exact onI_inv (C := fun _ => d.isList = false) he fun _ he => if_inv he fun _ e => e ▸ rfl
  | _ => exact fin_none he
theorem binT_plain {op : Operator} {x : List D} {b d : D} (he : binT op x b = some d) : d.isList = false := by
  cases op with
  | Add => exact onT_inv (C := fun _ => d.isList = false) he fun _ he => if_inv he fun _ e => e ▸ rfl
  | _ => exact fin_none he
theorem wp_m {α : Type} {M : Model} {c : Sem α} {Q Q' : α → Shared → Prop} (h : wpAny M A c Q E s) (k : ∀ v s', Q v s' → Q' v s') : wpAny M A c Q' E s := wpAny_mono h k fun _ _ e => e
theorem bin_snd {op : Operator} {x y : Value} {a b d : D} (hx : Rep w.params s.heap H x a) (hy : Rep w.params s.heap H y b) (hH : Ex s.heap H) (he : binD op a b = some d) :
    wpAny (model prog w) A (binaryOp op x y) (PostF w s H d d.isList) E s := by
  cases a with
  | int i => exact onI_inv (C := fun b => Rep w.params s.heap H y b → _) he (fun j he hy => wp_m (hx.intE fun _ => hy.intE fun _ => binI_snd he) fun _ _ q => q.pf (binI_plain he)) hy
  | str x => exact wp_m (hx.strE fun _ => binS_snd hy he) fun _ _ q => q.pf (binS_plain he)
  | tup as => exact wp_m (binT_snd hx hy hH he) fun _ _ q => q.pf (binT_plain he)
  | list as => exact binL_snd hx hy hH he
  | _ => exact fin_none he
end
end Mine
namespace Mine
open PySem PySem.SeqAt

section
variable {prog : Program} {w : World} {A : Around} {E : Value → Shared → Prop} {s : Shared} {H H' : Addr → Prop}
theorem eqS_inv {C : D → D → Bool → Prop} {a b : D} {k : Bool} (he : eqS a b = some k) (hb : ∀ x y, C (.bool x) (.bool y) (x == y)) (hii : ∀ x y, C (.int x) (.int y) (x == y)) (his : ∀ x y, C (.int x) (.str y) false) (hsi : ∀ x y, C (.str x) (.int y) false) (hss : ∀ x y, C (.str x) (.str y) (x == y)) : C a b k := by
  cases a with
  | bool x => exact onB_inv (C := fun b => C (.bool x) b k) he fun y e => Option.some.inj e ▸ hb x y
  | int x => exact onC_inv (C := fun b => C (.int x) b k) he (fun y e => Option.some.inj e ▸ hii x y) fun y e => Option.some.inj e ▸ his x y
  | str x => exact onC_inv (C := fun b => C (.str x) b k) he (fun y e => Option.some.inj e ▸ hsi x y) fun y e => Option.some.inj e ▸ hss x y
  | _ => exact fin_none he
structure Eq3 (x y : Value) (k : Bool) : Prop where
  e : ∀ A s, EqAt A s x y k
  r : ∀ A s, RcAt A s x y k
  n : ∀ A s, RcNeAt A s x y (!k)
theorem eqS_snd {P : Params} {h : Heap} {x y : Value} {a b : D} {k : Bool} (hx : Rep P h H x a) (hy : Rep P h H' y b) (he : eqS a b = some k) : Eq3 x y k :=
  eqS_inv (C := fun a b k => Rep P h H x a → Rep P h H' y b → Eq3 x y k) he
    (fun _ _ hx hy => hx.boolE (hy.boolE ⟨fun _ _ => EqAt.bool_bool _ _, fun _ _ => RcAt.bool_bool _ _, fun _ _ => RcNeAt.bool_bool _ _⟩))
    (fun _ _ hx hy => hx.intE fun _ => hy.intE fun _ => ⟨fun _ _ => EqAt.int_int _ _ _ _, fun _ _ => RcAt.int_int _ _ _ _, fun _ _ => RcNeAt.int_int _ _ _ _⟩)
    (fun _ _ hx hy => hx.intE fun _ => hy.strE fun _ => ⟨fun _ _ => EqAt.int_str _ _ _ _, fun _ _ => RcAt.int_str _ _ _ _, fun _ _ => RcNeAt.int_str _ _ _ _⟩)
    (fun _ _ hx hy => hx.strE fun _ => hy.intE fun _ => ⟨fun _ _ => EqAt.str_int _ _ _ _, fun _ _ => RcAt.str_int _ _ _ _, fun _ _ => RcNeAt.str_int _ _ _ _⟩)
    (fun _ _ hx hy => hx.strE fun _ => hy.strE fun _ => ⟨fun _ _ => EqAt.str_str _ _ _ _, fun _ _ => RcAt.str_str _ _ _ _, fun _ _ => RcNeAt.str_str _ _ _ _⟩) hx hy
theorem isList_of {h : Heap} {a : Addr} {vs : Array Value} {n : Nat} (ho : h.get? a = some (lstO vs n)) : h.IsList a vs := ⟨_, ho, rfl, n, rfl⟩
theorem isTuple_of {h : Heap} {a : Addr} {vs : Array Value} {n : Nat} (ho : h.get? a = some (tupO vs n)) : h.IsTuple a vs := ⟨_, ho, rfl, n, rfl⟩
theorem isTup_of {h : Heap} {a : Addr} {vs : Array Value} {n : Nat} (ho : h.get? a = some (tupO vs n)) : PyProof.Rows.IsTup h a vs := ⟨_, ho, rfl, n, rfl⟩
structure Rc2 (A : Around) (s : Shared) (x y : Value) (k : Bool) : Prop where
  r : RcAt A s x y k
  n : RcNeAt A s x y (!k)
theorem Eq3.rc {x y : Value} {k : Bool} (q : Eq3 x y k) : Rc2 A s x y k := ⟨q.r A s, q.n A s⟩
structure Eq2 (prog : Program) (w : World) (A : Around) (E : Value → Shared → Prop) (s : Shared) (H : Addr → Prop) (x y : Value) (k : Bool) : Prop where
  e : wpAny (model prog w) A (compareOp .Eq x y) (Post w s H (.bool k)) E s
  n : wpAny (model prog w) A (compareOp .NotEq x y) (Post w s H (.bool (!k))) E s
theorem p_b0 {b : Bool} : Post w s H (.bool b) (.bool b) s := ⟨Kp.refl _, rfl⟩
theorem Rc2.two {x y : Value} {k : Bool} (q : Rc2 A s x y k) : Eq2 prog w A E s H x y k := ⟨q.r prog w E _ p_b0, q.n prog w E _ p_b0⟩
noncomputable def EqEach (xs ys : List Value) (e : Nat → Bool) : Prop := ∀ j (h1 : j < xs.length) (h2 : j < ys.length) A s, EqAt A s xs[j] ys[j] (e j)
theorem eqAll_snd {P : Params} {h : Heap} {xs ys : List Value} {ds es : List D} {k : Bool} (hx : RepAll P h H xs ds) (hy : RepAll P h H' ys es) (hl : ds.length = es.length) (he : eqAll ds es = some k) :
    ∃ e : Nat → Bool, (List.range ds.length).all e = k ∧ EqEach xs ys e := by
  induction ds generalizing xs ys es k with
  | nil =>
    cases es with
    | nil => exact ⟨fun _ => true, Option.some.inj he, fun j h1 => by rw [show xs = [] from hx] at h1; exact absurd h1 (Nat.not_lt_zero _)⟩
    | cons => cases hl
  | cons d ds ih =>
    cases es with
    | nil => cases hl
    | cons e es =>
      refine ob_inv he fun b1 h1 he => om_inv he fun b2 h2 he => RCons.rec (motive := fun xs _ => ∃ e : Nat → Bool, (List.range (d :: ds).length).all e = k ∧ EqEach xs ys e) (fun hx hxs => RCons.rec (motive := fun ys _ => ∃ e : Nat → Bool, (List.range (d :: ds).length).all e = k ∧ EqEach _ ys e) (fun hy hys => ?_) hy) hx
      refine (ih hxs hys (Nat.succ.inj hl) h2).elim fun e q => ⟨fun j => Nat.casesOn j b1 e, ?_, fun j h1' h2' A s => ?_⟩
      · rw [List.length_cons, List.range_succ_eq_map, List.all_cons, List.all_map]
        exact (congrArg (b1 && ·) q.1).trans he
      · cases j with
        | zero => exact (eqS_snd hx hy h1).e A s
        | succ j => exact q.2 j (Nat.lt_of_succ_lt_succ h1') (Nat.lt_of_succ_lt_succ h2') A s
theorem EqEach.arr {v1 v2 : Array Value} {e : Nat → Bool} (q : EqEach v1.toList v2.toList e) {A : Around} {s : Shared} (j : Nat) (q1 : j < v1.size) (q2 : j < v2.size) : EqAt A s v1[j] v2[j] (e j) := q j q1 q2 A s
theorem eqL_snd {l1 l2 : Addr} {v1 v2 : Array Value} {n1 n2 : Nat} {d1 d2 : List D} {k : Bool} (h1 : s.heap.get? l1 = some (lstO v1 n1)) (h2 : s.heap.get? l2 = some (lstO v2 n2)) (r1 : RepAll w.params s.heap H v1.toList d1) (r2 : RepAll w.params s.heap H' v2.toList d2)
    (hu : A.units < cLine) (he : (if d1.length = d2.length then eqAll d1 d2 else some false) = some k) : Rc2 A s (.ref l1) (.ref l2) k :=
  if_inv2 he (fun hl he => (eqAll_snd r1 r2 hl he).elim fun e q =>
      have hs : v1.size = v2.size := r1.size.trans (hl.trans r2.size.symm)
      have ek : (List.range v1.size).all e = k := r1.size.symm ▸ q.1
      ek ▸ ⟨RcAt.lists (isList_of h1) (isList_of h2) hs hu q.2.arr, RcNeAt.lists (isList_of h1) (isList_of h2) hs hu q.2.arr⟩)
    fun hl he =>
      have hne : (v1.size != v2.size) = true := bne_iff_ne.mpr fun e => hl (r1.size.symm.trans (e.trans r2.size))
      Option.some.inj he ▸ ⟨RcAt.lists_lengths (isList_of h1) (isList_of h2) hne hu, RcNeAt.lists_lengths (isList_of h1) (isList_of h2) hne hu⟩
theorem eqT_core {l1 l2 : Addr} {v1 v2 : Array Value} {n1 n2 : Nat} {k : Bool} {e : Nat → Bool} (h1 : s.heap.get? l1 = some (tupO v1 n1)) (h2 : s.heap.get? l2 = some (tupO v2 n2)) (hu : A.units < cLine) (q : ∀ j (q1 : j < v1.size) (q2 : j < v2.size), EqAt A.in1 s v1[j] v2[j] (e j)) (ek : ((List.range (min v1.size v2.size)).all e && v1.size == v2.size) = k) : Rc2 A s (.ref l1) (.ref l2) k :=
  ek ▸ ⟨RcAt.tuples (isTuple_of h1) (isTuple_of h2) hu q, RcNeAt.tuples (isTuple_of h1) (isTuple_of h2) hu q⟩
theorem eqT_snd {l1 l2 : Addr} {v1 v2 : Array Value} {n1 n2 : Nat} {d1 d2 : List D} {k : Bool} (h1 : s.heap.get? l1 = some (tupO v1 n1)) (h2 : s.heap.get? l2 = some (tupO v2 n2)) (r1 : RepAll w.params s.heap H v1.toList d1) (r2 : RepAll w.params s.heap H' v2.toList d2)
    (hu : A.units < cLine) (hl : d1.length = d2.length) (he : eqAll d1 d2 = some k) : Rc2 A s (.ref l1) (.ref l2) k :=
  (eqAll_snd r1 r2 hl he).elim fun e q => eqT_core h1 h2 hu q.2.arr (by rw [r1.size, r2.size, ← hl, Nat.min_self, q.1, beq_self_eq_true, Bool.and_true])
theorem eqT_nil {l1 l2 : Addr} {v1 v2 : Array Value} {n1 n2 : Nat} {d1 d2 : List D} (h1 : s.heap.get? l1 = some (tupO v1 n1)) (h2 : s.heap.get? l2 = some (tupO v2 n2)) (r1 : RepAll w.params s.heap H v1.toList d1) (r2 : RepAll w.params s.heap H' v2.toList d2)
    (hu : A.units < cLine) (hl : ¬ d1.length = d2.length) (h0 : d2.length = 0) : Rc2 A s (.ref l1) (.ref l2) false :=
  eqT_core (e := fun _ => true) h1 h2 hu (fun j q1 q2 => absurd q2 (by rw [r2.size, h0]; exact Nat.not_lt_zero _)) (by rw [r1.size, r2.size, beq_eq_false_iff_ne.mpr hl, Bool.and_false])
theorem eqD_snd {x y : Value} {a b : D} {k : Bool} (hx : Rep w.params s.heap H x a) (hy : Rep w.params s.heap H' y b) (hu : A.units < cLine) (he : eqD a b = some k) : Rc2 A s x y k := by
  cases a with
  | tup ds => exact onT_inv (C := fun b => Rep w.params s.heap H' y b → Rc2 A s x y k) he (fun es he hy => hx.tupE fun _ _ _ h1 _ _ r1 => hy.tupE fun _ _ _ h2 _ _ r2 => if_inv2 he (eqT_snd h1 h2 r1 r2 hu) fun hl he => if_inv he fun h0 e => e ▸ eqT_nil h1 h2 r1 r2 hu hl h0) hy
  | list ds => exact onL_inv (C := fun b => Rep w.params s.heap H' y b → Rc2 A s x y k) he (fun es he hy => hx.listE fun _ _ _ h1 _ _ r1 => hy.listE fun _ _ _ h2 _ _ r2 => eqL_snd h1 h2 r1 r2 hu he) hy
  | _ => exact (eqS_snd hx hy he).rc
@[elab_as_elim] theorem dict_at {y : Value} {h : Heap} {ks vs : List D} {C : Value → Prop} (hy : Rep w.params h H y (.dict ks vs)) (hk : ks.all D.isCell = true) (k : ∀ a es n (cs : List CK), ks = cs.map ofCK → h.get? a = some (dicO es n) → h.DictOf (cellKind prog w) a (cs.zip (es.toList.map (·.val))) → RepAll w.params h H (es.toList.map (·.val)) vs → (a == sysModules) = false → cs.length = (es.toList.map (·.val)).length → cs.Nodup → C (.ref a)) : C y :=
  (cells_ck hk).elim fun cs e => RDct.rec (motive := fun v _ => C v) (fun ho hn hl h1 h2 hh hk hd hs => k _ _ _ cs e ho (dictOf_rep ho (e ▸ h1) (e ▸ hh) (e ▸ hd)) h2 hs ((List.length_map (as := cs) ofCK).symm.trans ((e ▸ h1.length.symm : (cs.map ofCK).length = _).trans (by rw [List.length_map, List.length_map]))) ((List.pairwise_map.mp (e ▸ hd)).imp fun h e => h (congrArg ofCK e))) hy
theorem notIn_of_in {M : Model} {x c : Value} {Q' Q : Value → Shared → Prop} (h : wpAny M A (compareOp .In x c) Q' E s) (hQ : ∀ b s', Q' (.bool b) s' → Q (.bool (!b)) s') : wpAny M A (compareOp .NotIn x c) Q E s := by
  intro Γ p hΓ
  have h0 := h Γ p hΓ
  change Sem.wp _ Γ (Sem.bind (contains c x) fun r => Sem.pure (Value.bool r)) _ _ p s at h0
  show Sem.wp _ Γ (Sem.bind (contains c x) fun r => Sem.pure (Value.bool (!r))) _ _ p s
  rw [Sem.wp_bind] at h0 ⊢
  exact Sem.wp_mono _ Γ _ (fun r p' s' q => hQ r s' q) (fun _ _ _ q => q) p s h0
theorem keyOk_inv {k : D} {ks : List D} {C : Prop} (h : keyOk k ks = true) (h1 : k.isCell = true → ks.all D.isCell = true → C) : C := (Bool.or_eq_true_iff.mp h).elim (fun h => and2 h h1) fun h => nomatch h
theorem in_dict {x y : Value} {k : D} {ks vs : List D} (hx : Rep w.params s.heap H x k) (hy : Rep w.params s.heap H y (.dict ks vs)) (hu : A.units + 1 < cLine) (hc : keyOk k ks = true) :
    wpAny (model prog w) A (compareOp .In x y) (Post w s H (.bool (ks.any fun x => keyEq x k))) E s := by
  refine keyOk_inv hc fun h1 h2 => (cell_ck h1).elim fun c e => ?_
  · subst e
    exact dict_at (prog := prog) hy h2 fun a es n cs e ho hD hv hs hl _ => wpAny_in_of (knd := cellKind prog w) (rep_ck hx) hs hD.mapOf (by rw [any_valueAt hl, e]; exact p_bool)
theorem cellEq_snd {P : Params} {h : Heap} {x y : Value} {a b : D} (hx : Rep P h H x a) (hy : Rep P h H' y b) (ha : a.isCell = true) (hb : b.isCell = true) : ∀ A s, EqAt A s x y (cellEq a b) := by
  obtain ⟨c, rfl⟩ := cell_ck ha
  obtain ⟨c', rfl⟩ := cell_ck hb
  exact (eqS_snd hx hy (by cases c <;> cases c' <;> rfl)).e
noncomputable def valCell : Value → D
  | .int i _ => .int i
  | .str x _ => .str x
  | _ => .none
theorem valCell_rep {P : Params} {h : Heap} {v : Value} {d : D} (r : Rep P h H v d) (hc : d.isCell = true) : valCell v = d := by
  obtain ⟨c, rfl⟩ := cell_ck hc
  cases c
  · exact Rep.intE (C := fun v => valCell v = _) r fun _ => rfl
  · exact Rep.strE (C := fun v => valCell v = _) r fun _ => rfl
theorem eqv_any {P : Params} {h : Heap} {b : D} {vs : List Value} {ds : List D} (r : RepAll P h H vs ds) (hc : ds.all D.isCell = true) : vs.any (fun v => cellEq (valCell v) b) = ds.any fun x => cellEq x b := by
  induction ds generalizing vs with
  | nil => rw [show vs = [] from r]; rfl
  | cons d ds ih => exact RCons.rec (motive := fun vs _ => vs.any (fun v => cellEq (valCell v) b) = (d :: ds).any fun x => cellEq x b) (fun hv hr => and2 hc fun h1 h2 => by rw [List.any_cons, List.any_cons, ih hr h2, valCell_rep hv h1]) r
theorem mem_eqv {P : Params} {h : Heap} {x : Value} {k : D} (hx : Rep P h H x k) (hk : k.isCell = true) {A : Around} {s : Shared} {vs : List Value} {ds : List D} (r : RepAll P h H vs ds) (hc : ds.all D.isCell = true) : ∀ v ∈ vs, EqAt A s v x (cellEq (valCell v) k) := by
  induction ds generalizing vs with
  | nil => rw [show vs = [] from r]; exact fun _ hm => nomatch hm
  | cons d ds ih => exact RCons.rec (motive := fun vs _ => ∀ v ∈ vs, EqAt A s v x (cellEq (valCell v) k)) (fun hv hr v hm => and2 hc fun h1 h2 => (List.mem_cons.mp hm).elim (fun e => e ▸ (valCell_rep hv h1).symm ▸ cellEq_snd hv hx h1 hk A s) (ih hr h2 v)) r
theorem in_tup {x y : Value} {k : D} {ds : List D} (hx : Rep w.params s.heap H x k) (hy : Rep w.params s.heap H y (.tup ds)) (hc : (k.isCell && ds.all D.isCell) = true) :
    wpAny (model prog w) A (compareOp .In x y) (Post w s H (.bool (ds.any fun x => cellEq x k))) E s :=
  and2 hc fun h1 h2 => hy.tupE fun a vs n ho hn hl hr => in_tupleAt (fun v => cellEq (valCell v) k) (isTuple_of ho) (fun v hv => mem_eqv hx h1 hr h2 v (Array.mem_toList_iff.mpr hv)) (by rw [← Array.any_toList, eqv_any hr h2]; exact p_b0)
theorem mem_snd {x y : Value} {a b : D} {k : Bool} (hx : Rep w.params s.heap H x a) (hy : Rep w.params s.heap H y b) (hu : A.units + 1 < cLine) (he : memD a b = some k) :
    wpAny (model prog w) A (compareOp .In x y) (Post w s H (.bool k)) E s := by
  cases b with
  | tup ds => exact if_inv he fun hc e => e ▸ in_tup hx hy hc
  | dict ks vs => exact if_inv he fun hc e => e ▸ in_dict hx hy hu hc
  | _ => exact fin_none he
theorem ord_snd {op : CmpOp} {x y : Value} {a b d : D} (hx : Rep w.params s.heap H x a) (hy : Rep w.params s.heap H y b) (he : ordD op a b = some d) : wpAny (model prog w) A (compareOp op x y) (Post w s H d) E s := by
  cases a with
  | int i =>
    refine onI_inv (C := fun b => Rep w.params s.heap H y b → _) he (fun j he hy => hx.intE fun _ => hy.intE fun _ => ?_) hy
    cases op with
    | Lt => exact Option.some.inj he ▸ PyProof.Rows.lt_int p_b0
    | LtE => exact Option.some.inj he ▸ PyProof.Rows.le_int p_b0
    | Gt => exact Option.some.inj he ▸ PyProof.Rows.gt_int p_b0
    | GtE => exact Option.some.inj he ▸ PyProof.Rows.ge_int p_b0
    | _ => exact fin_none he
  | str x =>
    refine onS_inv (C := fun b => Rep w.params s.heap H y b → _) he (fun j he hy => hx.strE fun _ => hy.strE fun _ => ?_) hy
    cases op with
    | Lt => exact Option.some.inj he ▸ PyProof.Rows.lt_str p_b0
    | _ => exact fin_none he
  | _ => exact fin_none he
theorem eqX_snd {x y : Value} {a b : D} {k : Bool} (hx : Rep w.params s.heap H x a) (hy : Rep w.params s.heap H y b) (hu : A.units + 2 < cLine) (he : eqX a b = some k) : Eq2 prog w A E s H x y k := (eqD_snd hx hy (Nat.lt_of_le_of_lt (Nat.le_add_right _ 2) hu) he).two
theorem cmp_snd {op : CmpOp} {x y : Value} {a b d : D} (hx : Rep w.params s.heap H x a) (hy : Rep w.params s.heap H y b) (hu : A.units + 2 < cLine) (he : cmpD op a b = some d) :
    wpAny (model prog w) A (compareOp op x y) (Post w s H d) E s := by
  cases op with
  | Eq => exact om_inv he fun k hk e => e ▸ (eqX_snd hx hy hu hk).e
  | NotEq => exact om_inv he fun k hk e => e ▸ (eqX_snd hx hy hu hk).n
  | In => exact om_inv he fun k hk e => e ▸ mem_snd hx hy (Nat.lt_of_succ_lt hu) hk
  | NotIn => exact om_inv he fun k hk e => e ▸ notIn_of_in (mem_snd hx hy (Nat.lt_of_succ_lt hu) hk) fun b s' q => ⟨q.k, by cases q.r; rfl⟩
  | _ => exact ord_snd hx hy he

theorem lt63 {n : Nat} (h : n ≤ big) : (n : Int) < 2 ^ 63 := Int.lt_of_le_of_lt (Int.ofNat_le.mpr h) (by decide)
theorem empty_of {P : Params} {h : Heap} {vs : Array Value} {ds : List D} (r : RepAll P h H vs.toList ds) : vs.isEmpty = ds.isEmpty := by
  rw [Bool.eq_iff_iff, Array.isEmpty_iff, List.isEmpty_iff, ← Array.size_eq_zero_iff, ← List.length_eq_zero_iff, r.size]

theorem truth_snd {x : Value} {a : D} {t : Bool} (hx : Rep w.params s.heap H x a) (he : truth a = some t) :
    wpAny (model prog w) A (truthy x) (PostB s t) E s := by
  cases a with
  | none => exact hx.noneE (PyProof.Rows.truthy_none ⟨Kp.refl _, Option.some.inj he⟩)
  | bool b => exact hx.boolE (wpAny_truthy_bool ⟨Kp.refl _, Option.some.inj he⟩)
  | int i => exact hx.intE fun _ => PyProof.Rows.truthy_int ⟨Kp.refl _, Option.some.inj he⟩
  | tup ds => exact hx.tupE fun a vs n ho _ hl hr => PyProof.Rows.truthy_tuple (isTup_of ho) (hr.size.symm ▸ lt63 hl) ⟨Kp.tok _ _, (congrArg _ (empty_of hr)).trans (Option.some.inj he)⟩
  | list ds => exact hx.listE fun a vs n ho _ hl hr => wpAny_truthy_list (isList_of ho) (hr.size.symm ▸ lt63 hl) ⟨Kp.tok _ _, (congrArg _ (empty_of hr)).trans (Option.some.inj he)⟩
  | _ => exact fin_none he

theorem idx_inv {k : Int} {n j : Nat} {C : Prop} (h : idx k n = some j) (k1 : 0 ≤ k → k < n → k.toNat = j → C) (k2 : -(n : Int) ≤ k → k < 0 → (k + n).toNat = j → C) : C :=
  if_inv2 h (fun hc e => k1 hc.1 hc.2 (Option.some.inj e)) fun _ h => if_inv h fun hc e => k2 hc.1 hc.2 e
theorem idx_seq {k : Int} {n j : Nat} (h : idx k n = some j) : seqIndex? k n = some j ∧ -(n : Int) ≤ k ∧ k < n := by
  unfold seqIndex?
  refine idx_inv h (fun h1 h2 e => ?_) fun h1 h2 e => ?_
  · subst e
    have e : ¬ k < 0 := Int.not_lt.mpr h1
    simp only [e, if_false]
    simp [h1, h2]; exact om59 h1
  · subst e
    simp only [h2, if_true]
    have h3 : 0 ≤ k + n := by exact om60 h1
    have h4 : k + n < n := by exact om61 h2
    simp [h3, h4]; exact om62 h1 h2
noncomputable def HasGet (s : Shared) (x : Value) : Prop := ∃ T id, s.TypeIs x T ∧ typeLookup (.type T) "__getitem__" = pure (some (.builtin id))
theorem get_str {x : Str} {t u : Tok} {k : Int} (hc : 0 ≤ k ∧ k < x.length ∧ x.length ≤ big) : wpAny (model prog w) A (getItem (.str x t) (.int k u)) (Post w s H (.str (charAt x k.toNat))) E s := by
  refine PyProof.Rows.getItem_str (c := x.cps.getD k.toNat 0) ?_ ?_ p_str
  · have := lt63 hc.2.2
    simp; exact om63 hc this
  · have h1 : idx k x.length = some k.toNat := if_pos ⟨hc.1, hc.2.1⟩
    rw [(idx_seq h1).1]
    have h2 : k.toNat < x.cps.size := (Int.toNat_lt hc.1).mpr hc.2.1
    simp [Array.getD, h2]
theorem get_seq {l : Addr} {vs : Array Value} {n j : Nat} {ds : List D} {k : Int} {u : Tok} {v : Value} {d : D} (ho : s.heap.get? l = some (lstO vs n)) (hl : ds.length ≤ big) (hr : RepAll w.params s.heap H vs.toList ds) (hj : idx k ds.length = some j) (hv : vs.toList[j]? = some v) (r : Rep w.params s.heap H v d) :
    wpAny (model prog w) A (getItem (.ref l) (.int k u)) (Post w s H d) E s := by
  have hb := lt63 hl
  have hv : vs[j]? = some v := Array.getElem?_toList.symm.trans hv
  refine idx_inv hj (fun h1 h2 e => ?_) fun h1 h2 e => ?_
  · exact wpAny_getItem_list (isList_of ho) h1 (Int.lt_trans h2 hb) (e ▸ hv) ⟨Kp.refl _, r⟩
  · exact wpAny_getItem_list_neg (isList_of ho) h2 (hr.size.symm ▸ h1) (om64 hb h1) (hr.size.symm ▸ e ▸ hv) ⟨Kp.refl _, r⟩
theorem getItem_snd {x i : Value} {a b d : D} (hu : A.units + 1 < cLine) (hx : Rep w.params s.heap H x a) (hi : Rep w.params s.heap H i b) (he : subD a b = some d) :
    wpAny (model prog w) A (getItem x i) (Post w s H d) E s ∧ HasGet s x := by
  cases a with
  | str x => exact onI_inv (C := fun b => Rep w.params s.heap H i b → _) he (fun k he hi => if_inv he fun hc e => e ▸ hx.strE fun _ => hi.intE fun _ => ⟨get_str hc, "str", _, typeIs_str _ _ _, F.slot_str_getitem.lookup⟩) hi
  | tup ds => exact onI_inv (C := fun b => Rep w.params s.heap H i b → _) he (fun k he hi => ob_inv he fun j hj he => hx.tupE fun a vs n ho hn hl hr => hi.intE fun _ => (hr.get j he).elim fun v q =>
      have h := idx_seq hj
      have hb := lt63 hl
      ⟨PyProof.Rows.getItem_tuple (isTup_of ho) (Int.le_trans (om65 hb) h.2.1) (Int.lt_trans h.2.2 hb) (hr.size.symm ▸ h.1) (Array.getElem?_toList.symm.trans q.1) ⟨Kp.refl _, q.2⟩, "tuple", _, (isTup_of ho).typeIs, F.slot_tuple_getitem.lookup⟩) hi
  | list ds => exact onI_inv (C := fun b => Rep w.params s.heap H i b → _) he (fun k he hi => ob_inv he fun j hj he => hx.listE fun a vs n ho hn hl hr => hi.intE fun _ => (hr.get j he).elim fun v q =>
      ⟨get_seq ho hl hr hj q.1 q.2, "list", _, (isList_of ho).typeIs, F.slot_list_getitem.lookup⟩) hi
  | dict ks vs =>
    refine if_inv' he fun hc he => keyOk_inv hc fun h1 h2 => (cell_ck h1).elim fun c e => ?_
    · subst e
      exact dict_at (prog := prog) hx h2 fun a es n cs e ho hD hv hs hl _ => (dget_valueAt hv (e ▸ he)).elim fun v q => ⟨wpAny_getItem_of (knd := cellKind prog w) (rep_ck hi) hD.mapOf q.1 ⟨Kp.tok _ _, q.2⟩, "dict", _, hD.mapOf.typeIs, slot_dict_getitem.lookup⟩
  | _ => exact fin_none he
end
end Mine
namespace Mine
open PySem PySem.SeqAt

section
variable {prog : Program} {w : World} {A : Around} {E : Value → Shared → Prop} {s : Shared} {H H' : Addr → Prop}

theorem isi_T {T : String} {C : String → Prop} (h : T = "str" ∨ T = "bool" ∨ T = "int" ∨ T = "tuple" ∨ T = "list") (h1 : C "str") (h2 : C "bool") (h3 : C "int") (h4 : C "tuple") (h5 : C "list") : C T :=
  h.elim (fun e => e ▸ h1) fun h => h.elim (fun e => e ▸ h2) fun h => h.elim (fun e => e ▸ h3) fun h => h.elim (fun e => e ▸ h4) fun e => e ▸ h5
theorem isi_snd {x : Value} {a : D} {T : String} {t : Bool} (hx : Rep w.params s.heap H x a) (he : isiD a T = some t) :
    wpAny (model prog w) A (call (.builtin "isinstance") [x, .type T]) (Post w s H (.bool t)) E s := by
  unfold isiD at he
  refine if_inv' he fun hT he => ?_
  cases a with
  | bool b => exact Option.some.inj he ▸ hx.boolE (isi_T (C := fun T => wpAny (model prog w) A (call (.builtin "isinstance") [.bool b, .type T]) (Post w s H (.bool (T == "int" || T == "bool"))) E s) hT (IsiPair.bool_str p_bool) (IsiPair.bool_bool p_b0) (IsiPair.bool_int p_b0) (IsiPair.bool_tuple p_bool) (IsiPair.bool_list p_bool))
  | int i => exact Option.some.inj he ▸ hx.intE fun u => isi_T (C := fun T => wpAny (model prog w) A (call (.builtin "isinstance") [.int i u, .type T]) (Post w s H (.bool (T == "int"))) E s) hT (IsiPair.int_str p_bool) (IsiPair.int_bool p_bool) (IsiPair.int_int p_b0) (IsiPair.int_tuple p_bool) (IsiPair.int_list p_bool)
  | str x => exact Option.some.inj he ▸ hx.strE fun u => isi_T (C := fun T => wpAny (model prog w) A (call (.builtin "isinstance") [.str x u, .type T]) (Post w s H (.bool (T == "str"))) E s) hT (IsiPair.str_str p_b0) (IsiPair.str_bool p_bool) (IsiPair.str_int p_bool) (IsiPair.str_tuple p_bool) (IsiPair.str_list p_bool)
  | tup ds => exact Option.some.inj he ▸ hx.tupE fun a vs n ho _ _ _ => isi_T (C := fun T => wpAny (model prog w) A (call (.builtin "isinstance") [.ref a, .type T]) (Post w s H (.bool (T == "tuple"))) E s) hT (IsiPair.tuple_str ho rfl p_bool) (IsiPair.tuple_bool ho rfl p_bool) (IsiPair.tuple_int ho rfl p_bool) (IsiPair.tuple_tuple ho rfl p_b0) (IsiPair.tuple_list ho rfl p_bool)
  | list ds => exact Option.some.inj he ▸ hx.listE fun a vs n ho _ _ _ => isi_T (C := fun T => wpAny (model prog w) A (call (.builtin "isinstance") [.ref a, .type T]) (Post w s H (.bool (T == "list"))) E s) hT (IsiPair.list_str ho rfl p_bool) (IsiPair.list_bool ho rfl p_bool) (IsiPair.list_int ho rfl p_bool) (IsiPair.list_tuple ho rfl p_bool) (IsiPair.list_list ho rfl p_b0)
  | _ => exact fin_none he

noncomputable def bltFns : List String := ["len", "isinstance", "sum", "max", "min", "sorted"]
noncomputable def bltVal (f : String) : Value := cond (bltFns.contains f) (.builtin f) (.type f)

theorem natAbs_log2 {i : Int} (h : -strLim < i ∧ i < strLim) : i.natAbs.log2 < 1920 := by
  have h2 := abs_lt (Int.natCast_pow 10 100) h
  by_cases h3 : i.natAbs = 0
  · rw [h3]; decide
  · exact (Nat.log2_lt h3).mpr (Nat.lt_trans h2 (by decide +kernel))

theorem len_snd {x : Value} {a d : D} (hx : Rep w.params s.heap H x a) (he : lenD a = some d) : wpAny (model prog w) A (call (.builtin "len") [x]) (Post w s H d) E s := by
  cases a with
  | str x => exact if_inv he fun hc e => e ▸ hx.strE fun _ => PyProof.Rows.len_str (Int.not_le.mpr (lt63 hc)) p_int
  | tup ds => exact Option.some.inj he ▸ hx.tupE fun a vs n ho _ hl hr => hr.size ▸ PyProof.Rows.len_tuple (isTup_of ho) (hr.size.symm ▸ lt63 hl) p_int
  | list ds => exact Option.some.inj he ▸ hx.listE fun a vs n ho _ hl hr => hr.size ▸ PyProof.Rows.len_list (isList_of ho) (hr.size.symm ▸ lt63 hl) p_int
  | _ => exact fin_none he
theorem kp_push (s : Shared) (o : Obj) (t : Nat) (d : Drawn) : Keeps s { s with heap := s.heap.push o, toks := t, drawn := d } := .mk _ _ _ fun _ _ e => Heap.gt_push_of_some _ e
theorem bltI_snd {f : String} {i : Int} {t : Tok} {d : D} (hH : Ex s.heap H) (he : bltI f i = some d) : wpAny (model prog w) A (call (bltVal f) [.int i t]) (Post w s H d) E s :=
  if_inv2 he (fun hf he => if_inv he fun hc e => hf ▸ e ▸ call_range_1 ⟨kp_push _ _ _ _, .mk (IsRange.new _ _ _ _ _ _ _) hH.fresh ⟨hc.2.1, hc.2.2, hc.1⟩⟩)
    fun _ he => if_inv' he fun hf he => if_inv he fun hc e => hf ▸ e ▸ P.str_of_int (natAbs_log2 hc) p_str
theorem bltI2_snd {f : String} {i j : Int} {t u : Tok} {d : D} (hh : A.handled = none) (hH : Ex s.heap H) (he : bltI2 f i j = some d) : wpAny (model prog w) A (call (bltVal f) [.int i t, .int j u]) (Post w s H d) E s := fin_none he
theorem tupL_snd {x : Value} {ds : List D} (hx : Rep w.params s.heap H x (.list ds)) (hH : Ex s.heap H) : wpAny (model prog w) A (call (.type "tuple") [x]) (Post w s H (.tup ds)) E s :=
  hx.listE fun a vs n ho hn hl hr => call_tuple_list (isList_of ho) (fun h' hk => have hk := Heap.gt_up hk; ⟨.mk _ _ _ fun _ _ q => Heap.gt_push_of_some _ (hk _ _ q), .mk (Heap.get?_push_size _ rfl) (hH.keeps hk).fresh hl (hr.keeps fun _ _ q => Heap.gt_push_of_some _ (hk _ _ q))⟩) (hr.size.symm ▸ hl)
theorem blt1_snd {f : String} {x : Value} {a d : D} (hh : A.handled = none) (hx : Rep w.params s.heap H x a) (hH : Ex s.heap H) (he : bltD f [a] = some d) : wpAny (model prog w) A (call (bltVal f) [x]) (Post w s H d) E s := by
  refine if_inv2 (c := f = "len") he (fun hf he => hf ▸ len_snd hx he) fun _ he => ?_
  cases a with
  | int i => exact hx.intE fun _ => bltI_snd hH he
  | bool b => exact if_inv he fun hf e => hf ▸ e ▸ hx.boolE (call_int_bool p_int)
  | str x => exact if_inv he fun hf e => hf ▸ e ▸ hx.strE fun _ => P.str_of_str ⟨Kp.refl _, .mk _⟩
  | list ds => exact if_inv he fun hf e => hf ▸ e ▸ tupL_snd hx hH
  | _ => exact fin_none he
theorem blt_snd {f : String} {xs : List Value} {as : List D} {d : D} (hh : A.handled = none) (hx : RepAll w.params s.heap H xs as) (hH : Ex s.heap H) (he : bltD f as = some d) :
    wpAny (model prog w) A (call (bltVal f) xs) (Post w s H d) E s := by
  cases as with
  | nil => exact fin_none he
  | cons a as => exact RCons.rec (motive := fun xs _ => wpAny (model prog w) A (call (bltVal f) xs) (Post w s H d) E s) (fun {v vs} h1 h2 => by
      cases as with
      | nil => rw [show vs = [] from h2]; exact blt1_snd hh h1 hH he
      | cons b as => exact RCons.rec (motive := fun vs _ => wpAny (model prog w) A (call (bltVal f) (v :: vs)) (Post w s H d) E s) (fun {u us} h4 h3 => by
          cases as with
          | nil => rw [show us = [] from h3]; exact onI_inv (C := fun a => Rep w.params s.heap H v a → _) he (fun i he h1 => onI_inv (C := fun b => Rep w.params s.heap H u b → _) he (fun j he h4 => h1.intE fun _ => h4.intE fun _ => bltI2_snd hh hH he) h4) h1
          | cons => exact fin_none he) h2) hx
theorem reps_keys {P : Params} {h : Heap} {vs : List Value} {cs : List CK} (hl : vs.length = cs.length) (hv : ∀ (j : Nat) (v : Value), vs[j]? = some v → ∃ k, cs[j]? = some k ∧ CK.is k v = true) : RepAll P h H vs (cs.map ofCK) := by
  induction cs generalizing vs with
  | nil => exact List.eq_nil_of_length_eq_zero hl
  | cons c cs ih => cases vs with
    | nil => cases hl
    | cons v vs => exact .mk ((hv 0 v rfl).elim fun k q => ck_rep (Option.some.inj q.1 ▸ q.2)) (ih (Nat.succ.inj hl) fun j v' e => hv (j + 1) v' e)
theorem lst_snd {x : Value} {a : D} {ds : List D} (hh : A.handled = none) (hx : Rep w.params s.heap H x a) (hH : Ex s.heap H) (he : lstD a = some ds) :
    wpAny (model prog w) A (call (.type "list") [x]) (PostF w s H (.list ds) true) E s := by
  cases a with
  | tup es => exact Option.some.inj he ▸ hx.tupE fun a vs n ho hn hl hr => call_list_seq _ (.inr rfl) ho rfl rfl (fun h' c' hk hD => pf_list hH hl hr (Heap.gt_up hk) hD) (hr.size.symm ▸ hl)
  | list es => exact Option.some.inj he ▸ hx.listE fun a vs n ho hn hl hr => call_list_seq _ (.inl rfl) ho rfl rfl (fun h' c' hk hD => pf_list hH hl hr (Heap.gt_up hk) hD) (hr.size.symm ▸ hl)
  | dict ks vs =>
    refine if_inv he fun hc e => e ▸ ?_
    have hlk : ks.length ≤ big := RDct.rec (motive := fun _ _ => ks.length ≤ big) (fun _ _ hl _ _ _ _ _ _ => hl) hx
    refine dict_at (prog := prog) hx hc fun a es n cs ek ho hD hv hs hl _ => ?_
    obtain ⟨ep, hm⟩ := hD.dictAt
    have el : (cs.zip (es.toList.map (·.val))).length = cs.length := by rw [List.length_zip, ← hl, Nat.min_self]
    have ekl : ks.length = cs.length := by rw [ek, List.length_map]
    refine PySem.W.kdl_call (PySem.W.kdl_dict hs) hh hm (by rw [el, ← ekl]; exact Nat.le_trans hlk (by decide)) fun h' tk acc' c' hk hD hacc => ?_
    exact pf_list hH hlk (ek ▸ reps_keys (by rw [Array.length_toList, hacc.1, el]) fun j v e => (hacc.2 j v (by rw [← Array.getElem?_toList]; exact e)).elim fun k q => q.elim fun x q => ⟨k, (List.getElem?_zip_eq_some.mp q.1).1, q.2⟩) (Heap.gt_up hk) hD
  | _ => exact fin_none he
end
end Mine
namespace Mine
open PySem PySem.SeqAt

section
variable {prog : Program} {w : World} {A : Around} {E : Value → Shared → Prop} {s : Shared} {H H' : Addr → Prop}

inductive IterW (prog : Program) (w : World) (A : Around) (h : Heap) (H : Addr → Prop) (its : List D) (I : Addr) (h₂ : Heap) : Prop
  | mk {fp P St} (W : Walks prog w A I fp [I] its.length P St) (st : St 0 h₂) (fpo : ∀ b ∈ fp, b = I ∨ (¬ H b ∧ ∃ o, gat h b = some o)) (item : ∀ i v, i < its.length → P i v → ∃ d, its[i]? = some d ∧ Rep w.params h H v d) (live : ∀ i h, St i h → ∃ o, gat h I = some o) (tab : ∀ b ∈ fp, ∀ i h o, St i h → h.get? b = some o → isTab o = false)
structure IterAt (prog : Program) (w : World) (A : Around) (s₁ : Shared) (H : Addr → Prop) (its : List D) (I : Addr) (s₂ : Shared) : Prop where
  keeps : Keeps s₁ s₂
  fresh : gat s₁.heap I = none
  ex : ∃ o, gat s₂.heap I = some o
  walk : IterW prog w A s₁.heap H its I s₂.heap
inductive PostI (prog : Program) (w : World) (A : Around) (s : Shared) (H : Addr → Prop) (its : List D) : Value → Shared → Prop
  | mk {I s₂} (q : IterAt prog w A s H its I s₂) : PostI prog w A s H its (.ref I) s₂

theorem walks_frame {I : Addr} {fp ch : List Addr} {n : Nat} {P : Nat → Value → Prop} {St : Nat → Heap → Prop} (W : Walks prog w A I fp ch n P St) (hT : ∀ b ∈ fp, ∀ i h o, St i h → h.get? b = some o → isTab o = false)
    (i : Nat) (h h' : Heap) (st : St i h) (hk : ∀ b ∈ fp, ∀ o, gat h b = some o → gat h' b = some o) : St i h' :=
  W.frame i h h' st fun b hb o e => Heap.of_gt (hk b hb o (Heap.gt_of e (hT b hb i h o st e))) (hT b hb i h o st e)
theorem walk_lift {I : Addr} {fp : List Addr} {n : Nat} {P : Nat → Value → Prop} {St : Nat → Heap → Prop} (W : Walks prog w A I fp [I] n P St) (hT : ∀ b ∈ fp, ∀ i h o, St i h → h.get? b = some o → isTab o = false)
    {i : Nat} {h h' : Heap} (st : St i h) (hk : ∀ b o, b ∉ [I] → h.get? b = some o → h'.get? b = some o) : ∀ b o, b ∉ [I] → gat h b = some o → gat h' b = some o :=
  Heap.gt_lift (fun b o e ht q => by rw [hT b (W.sub b q) i h o st e] at ht; cases ht) hk

theorem two_mem {α : Type} {a b x : α} {C : Prop} (h : x ∈ [a, b]) (h1 : x = a → C) (h2 : x = b → C) : C := (List.mem_cons.mp h).elim h1 fun h => h2 (List.mem_singleton.mp h)
theorem notTab_ty {o : Obj} {T : String} (h : o.cls = .type T) (hT : T ≠ "code") : isTab o = false := notTab_cls (by rw [h]; nofun) fun e => hT (Value.type.inj (h.symm.trans e))
theorem same_obj {h : Heap} {a : Addr} {o o' : Obj} (e : h.get? a = some o) (e' : h.get? a = some o') (ht : isTab o = false) : isTab o' = false := Option.some.inj (e.symm.trans e') ▸ ht
theorem item_of {P : Params} {h : Heap} {vs : Array Value} {ds : List D} (hr : RepAll P h H vs.toList ds) {i : Nat} {v : Value} (hi : i < ds.length) (hv : vs[i]? = some v) : ∃ d, ds[i]? = some d ∧ Rep P h H v d :=
  (hr.get i (List.getElem?_eq_getElem hi)).elim fun v' q => ⟨_, List.getElem?_eq_getElem hi, Option.some.inj (q.1.symm.trans (Array.getElem?_toList.trans hv)) ▸ q.2⟩
theorem iter_seq {T T' : String} {a I : Addr} {mkO : Array Value → Nat → Obj} {vs : Array Value} {n : Nat} {ds : List D} {h h₂ : Heap} {P : Nat → Value → Prop} {St : Nat → Heap → Prop} (W : Walks prog w A I [I, a] [I] vs.size P St) (st : St 0 h₂) (hr : RepAll w.params h H vs.toList ds) (ho : h.get? a = some (mkO vs n)) (ht : isTab (mkO vs n) = false) (hn : ¬ H a)
    (hP : ∀ i v, P i v → vs[i]? = some v) (h1 : ∀ i h, St i h → ∃ o, h.get? I = some o ∧ o.cls = .type T) (h2 : ∀ i h, St i h → ∃ o, h.get? a = some o ∧ o.cls = .type T') (hT : T ≠ "code") (hT' : T' ≠ "code") : IterW prog w A h H ds I h₂ :=
  ⟨hr.size ▸ W, st, fun b hb => two_mem hb .inl fun e => .inr (e ▸ ⟨hn, _, Heap.gt_of ho ht⟩), fun i v hi hv => item_of hr hi (hP i v hv), fun i h st => (h1 i h st).elim fun o q => ⟨o, Heap.gt_of q.1 (notTab_ty q.2 hT)⟩,
    fun b hb i h o st e => two_mem hb (fun q => (h1 i h st).elim fun o' z => same_obj (q ▸ z.1) e (notTab_ty z.2 hT)) fun q => (h2 i h st).elim fun o' z => same_obj (q ▸ z.1) e (notTab_ty z.2 hT')⟩
theorem iter_rng {lo hi : Int} {x : Value} (hx : Rep w.params s.heap H x (.rng lo hi)) (hh : A.handled = none) : wpAny (model prog w) A (pyIter x) (PostI prog w A s H ((List.range (hi - lo).toNat).map fun (i : Nat) => D.int (lo + (i : Int)))) E s :=
  RRng.rec (motive := fun x _ => wpAny (model prog w) A (pyIter x) (PostI prog w A s H ((List.range (hi - lo).toNat).map fun (i : Nat) => D.int (lo + (i : Int)))) E s) (fun {a t u v} hr hn hl => by
    have hsm : Builtin.Range.small lo hi 1 = true := by
      unfold big at hl; exact small_one (om68 hl) (om69 hl) (om70 hl) (om71 hl)
    have hsz : Builtin.Range.rangeSize lo hi 1 = ((hi - lo).toNat : Int) := by
      rw [rangeSize_one]; split <;> omega
    have hlen : ((List.range (hi - lo).toNat).map fun (i : Nat) => D.int (lo + (i : Int))).length = (hi - lo).toNat := by rw [List.length_map, List.length_range]
    refine wpAny_pyIter_range hr hsm ⟨Kp.push _ _, fresh_size _, ⟨_, Heap.gt_push_size _ rfl⟩, hlen.symm ▸ Walks.range hh s.heap.objs.size lo 1 (hi - lo).toNat, ?ga, fun b hb => .inl (List.mem_singleton.mp hb), fun i v hi q => q.elim fun t e => ⟨.int (lo + i), ?gb, ?gc⟩, fun i h e => ⟨_, Heap.gt_of e⟩, fun b hb i h o e1 e => ?gd⟩
    case ga =>
      show Heap.get? _ _ = _
      rw [Heap.get?_push_size _ rfl, hsz]
      simp [rawInt]
    case gb =>
      rw [hlen] at hi
      rw [List.getElem?_map, List.getElem?_range hi]; rfl
    case gc =>
      rw [e, Int.mul_one]
      exact .mk _
    case gd =>
      rw [List.mem_singleton.mp hb] at e
      exact same_obj e1 e rfl) hx
theorem iter_snd {x : Value} {d : D} {its : List D} (hx : Rep w.params s.heap H x d) (hh : A.handled = none) (he : d.items = some its) :
    wpAny (model prog w) A (pyIter x) (PostI prog w A s H its) E s := by
  cases d with
  | tup ds => exact Option.some.inj he ▸ hx.tupE fun a vs n ho hn hl hr => wpAny_pyIter_tuple (isTuple_of ho) ⟨Kp.push _ _, fresh_size _, ⟨_, Heap.gt_push_size _ rfl⟩, iter_seq (T := "tuple_iterator") (T' := "tuple") (mkO := tupO) (Walks.tuple hh s.heap.objs.size a (Nat.ne_of_lt (Heap.lt_size ho)) vs) ⟨⟨_, Heap.get?_push_size _ rfl, rfl, rfl⟩, (isTuple_of ho).push _⟩ hr ho rfl hn (fun _ _ h => h)
      (fun i h st => st.1.elim fun o q => ⟨o, q.1, q.2.1⟩) (fun i h st => st.2.elim fun o q => ⟨o, q.1, q.2.1⟩) (by decide) (by decide)⟩
  | list ds => exact Option.some.inj he ▸ hx.listE fun a vs n ho hn hl hr => wpAny_pyIter_list (isList_of ho) ⟨Kp.push _ _, fresh_size _, ⟨_, Heap.gt_push_size _ rfl⟩, iter_seq (T := "list_iterator") (T' := "list") (mkO := lstO) (Walks.list hh s.heap.objs.size a (Nat.ne_of_lt (Heap.lt_size ho)) vs) ⟨⟨_, Heap.get?_push_size _ rfl, rfl, rfl⟩, (isList_of ho).push _⟩ hr ho rfl hn (fun _ _ h => h)
      (fun i h st => st.1.elim fun o q => ⟨o, q.1, q.2.1⟩) (fun i h st => st.2.elim fun o q => ⟨o, q.1, q.2.1⟩) (by decide) (by decide)⟩
  | rng lo hi => exact Option.some.inj he ▸ iter_rng hx hh
  | _ => exact fin_none he
end
end Mine
namespace Mine
open PySem PySem.SeqAt

structure AOk (A : Around) (n : Nat) : Prop where
  handled : A.handled = none
  depth : A.depth + 2 * n + 20 < recursionLimit
  units : A.units + 13 * n + 100 < cLine
structure Near (A A' : Around) : Prop where
  handled : A'.handled = A.handled
  depth : A'.depth ≤ A.depth + 1
  units : A'.units ≤ A.units + 10
structure Room (A : Around) : Prop where
  units : A.units + 20 < cLine
  depth : A.depth + 2 < recursionLimit
theorem Room.u2 {A : Around} (r : Room A) : A.units + 2 < cLine := Nat.lt_of_le_of_lt (Nat.add_le_add_left (by decide) _) r.units
theorem Room.u1 {A : Around} (r : Room A) : A.units + 1 < cLine := Nat.lt_of_le_of_lt (Nat.add_le_add_left (by decide) _) r.units
theorem Near.refl (A : Around) : Near A A := ⟨rfl, Nat.le_succ _, Nat.le_add_right _ _⟩

structure EnvRep (h : Heap) (env : Env) (m : Str → Option Value) : Prop where
  kind : env.scope.kind = .function
  glob : env.globals = mainGlobals
  blt : env.builtins = builtinsNs
  loc : ∃ ml, h.Ns env.locals ml ∧ ∀ x, env.kindOf x = some .local → ml x = m x
  cell : ∀ x, env.kindOf x = some .cell ∨ env.kindOf x = some .free → ∃ c, env.cells.lookup x = some c ∧ h.IsCell c (m x)
  inj : ∀ x y c, env.cells.lookup x = some c → env.cells.lookup y = some c → x = y
  off : ∀ x c, env.cells.lookup x = some c → c ≠ env.locals
  ex : ∀ x c, env.cells.lookup x = some c → ∃ o, gat h c = some o
  lam : ordK env.kindOf = true → env.code = .ref oc ∧ env.qual = lamP

theorem Ns.keepAt {h h' : Heap} {a : Addr} {m : Str → Option Value} (hn : h.Ns a m) (hk : ∀ o, gat h a = some o → gat h' a = some o) : h'.Ns a m :=
  let ⟨o, es, ep, ho, hd, r⟩ := hn
  have ht : isTab o = false := notTab_of (by rw [hd]; nofun)
  ⟨o, es, ep, Heap.of_gt (hk _ (Heap.gt_of ho ht)) ht, hd, r⟩
theorem Cell.keepAt {h h' : Heap} {a : Addr} {v : Option Value} (hn : h.IsCell a v) (hk : ∀ o, gat h a = some o → gat h' a = some o) : h'.IsCell a v :=
  let ⟨o, ho, hd⟩ := hn
  have ht : isTab o = false := notTab_of (by rw [hd]; nofun)
  ⟨o, Heap.of_gt (hk _ (Heap.gt_of ho ht)) ht, hd⟩

theorem EnvRep.keeps {h h' : Heap} {env : Env} {m : Str → Option Value} (R : EnvRep h env m) (hk : KH h h') : EnvRep h' env m where
  kind := R.kind
  glob := R.glob
  blt := R.blt
  loc := let ⟨ml, h1, h2⟩ := R.loc; ⟨ml, Ns.keepAt h1 (hk _), h2⟩
  cell := fun x hx => let ⟨c, h1, h2⟩ := R.cell x hx; ⟨c, h1, Cell.keepAt h2 (hk _)⟩
  inj := R.inj
  off := R.off
  ex := fun x c hc => let ⟨o, ho⟩ := R.ex x c hc; ⟨o, hk _ _ ho⟩
  lam := R.lam

theorem EnvRep.keepsAt {h h' : Heap} {env : Env} {m : Str → Option Value} (R : EnvRep h env m) (hk : ∀ a o, (a = env.locals ∨ ∃ x, env.cells.lookup x = some a) → gat h a = some o → gat h' a = some o) : EnvRep h' env m where
  kind := R.kind
  glob := R.glob
  blt := R.blt
  loc := let ⟨ml, h1, h2⟩ := R.loc; ⟨ml, Ns.keepAt h1 fun o e => hk _ o (.inl rfl) e, h2⟩
  cell := fun x hx => let ⟨c, h1, h2⟩ := R.cell x hx; ⟨c, h1, Cell.keepAt h2 fun o e => hk _ o (.inr ⟨x, h1⟩) e⟩
  inj := R.inj
  off := R.off
  ex := fun x c hc => let ⟨o, ho⟩ := R.ex x c hc; ⟨o, hk _ _ (.inr ⟨x, hc⟩) ho⟩
  lam := R.lam

section
variable {M : Model} {A : Around} {E : Value → Shared → Prop} {s : Shared}

theorem load_snd {env : Env} {m : Str → Option Value} {x : Str} {v : Value} {pos : Pos} {Q : Value → Shared → Prop} (R : EnvRep s.heap env m) (hx : isVar env.kindOf x = true) (hv : m x = some v) (h : Q v s) :
    wpAny M A (eval (.Name x pos) env) Q E s := by
  unfold isVar at hx
  simp only [Bool.and_eq_true, Bool.or_eq_true, beq_iff_eq, bne_iff_ne] at hx
  obtain ⟨⟨⟨hk, hd⟩, hc⟩, _⟩ := hx
  have hd' : (x == ("__debug__" : Str)) = false := by simpa using hd
  have hc' : (x == ("__classdict__" : Str)) = false := by simpa using hc
  refine wpAny_Name ?_ hd'
  rcases hk with (hk | hk) | hk
  · obtain ⟨ml, h1, h2⟩ := R.loc
    exact wpAny_loadName_local R.kind hk h1 ((h2 x hk).trans hv) h
  · obtain ⟨c, h1, h2⟩ := R.cell x (.inl hk)
    exact wpAny_loadName_cell R.kind hk h1 (hv ▸ h2) h
  · obtain ⟨c, h1, h2⟩ := R.cell x (.inr hk)
    exact wpAny_loadName_free R.kind hk h1 (hv ▸ h2) h hc'

noncomputable def upd (m : Str → Option Value) (x : Str) (v : Value) : Str → Option Value := fun y => if y = x then some v else m y

theorem store_snd {env : Env} {m : Str → Option Value} {x : Str} {v : Value} {Q : Unit → Shared → Prop} (R : EnvRep s.heap env m) (hx : env.kindOf x = some .local ∨ env.kindOf x = some .cell)
    (h : ∀ h' tk dw a, EnvRep h' env (upd m x v) → (a = env.locals ∨ env.cells.lookup x = some a) → Heap.SB a s.heap h' → Q () { s with heap := h', toks := tk, drawn := dw }) :
    wpAny M A (storeName env x v) Q E s := by
  rcases hx with hk | hk
  · obtain ⟨ml, h1, h2⟩ := R.loc
    refine wpAny_storeName_local hk h1 (fun h' hn hs0 => have hs : Heap.SB env.locals s.heap h' := ⟨hs0, notTab_ns h1, notTab_ns hn⟩; h h' _ s.drawn env.locals ⟨R.kind, R.glob, R.blt, ⟨_, hn, fun y hy => ?_⟩, fun y hy => ?_, R.inj, R.off, fun y c hc => let ⟨o, ho⟩ := R.ex y c hc; ⟨o, (hs.g c (R.off y c hc)).trans ho⟩, R.lam⟩ (.inl rfl) hs) (by rw [R.kind]; rfl)
    · unfold upd; by_cases e : y = x
      · simp [e]
      · simp [e, h2 y hy]
    · obtain ⟨c, h3, h4⟩ := R.cell y hy
      have hne : y ≠ x := by rintro rfl; rw [hk] at hy; simp at hy
      refine ⟨c, h3, ?_⟩
      unfold upd; rw [if_neg hne]
      exact h4.sameBut hs.s (R.off y c h3)
  · obtain ⟨c, h3, h4⟩ := R.cell x (.inl hk)
    refine wpAny_storeName_cell R.kind hk h3 h4 fun h' hc hs0 => have hs : Heap.SB c s.heap h' := ⟨hs0, notTab_cell h4, notTab_cell hc⟩; h h' s.toks s.drawn c ⟨R.kind, R.glob, R.blt, ?_, fun y hy => ?_, R.inj, R.off, fun y c' hc' => ?_, R.lam⟩ (.inr h3) hs
    · obtain ⟨ml, h1, h2⟩ := R.loc
      refine ⟨ml, h1.sameBut hs.s (fun e => R.off x c h3 e.symm), fun y hy => ?_⟩
      have hne : y ≠ x := by rintro rfl; rw [hk] at hy; simp at hy
      unfold upd; rw [if_neg hne]; exact h2 y hy
    · obtain ⟨c', h5, h6⟩ := R.cell y hy
      by_cases e : y = x
      · subst e
        rw [h3] at h5; cases h5
        exact ⟨c, h3, by simpa [upd] using hc⟩
      · refine ⟨c', h5, ?_⟩
        unfold upd; rw [if_neg e]
        exact h6.sameBut hs.s fun q => e (R.inj y x c' h5 (q ▸ h3))
    · by_cases e : c' = c
      · obtain ⟨o, ho⟩ := gt_cell hc; exact ⟨_, e ▸ ho⟩
      · obtain ⟨o, ho⟩ := R.ex y c' hc'; exact ⟨o, (hs.g c' e).trans ho⟩

noncomputable def clGo (cells : List (Str × Addr)) : List (Str × NameKind) → List (Str × Addr) → List (Str × Addr)
  | [], acc => acc
  | (n, k) :: r, acc => if k == .free then (match cells.lookup n with | some c => clGo cells r ((n, c) :: acc) | none => clGo cells r acc) else clGo cells r acc

theorem closure_go {env : Env} (f : Str × NameKind → List (Str × Addr) → Sem (ForInStep (List (Str × Addr))))
    (hf : ∀ n k cs, f (n, k) cs = if k == .free then (do let c ← cellOf env n; pure (.yield ((n, c) :: cs))) else pure (.yield cs)) :
    ∀ (names : List (Str × NameKind)) (acc : List (Str × Addr)), (∀ p ∈ names, p.2 = .free → ∃ c, env.cells.lookup p.1 = some c) → forIn names acc f = pure (clGo env.cells names acc)
  | [], acc, _ => rfl
  | (n, k) :: r, acc, h => by
    have hr : ∀ p ∈ r, p.2 = .free → ∃ c, env.cells.lookup p.1 = some c := fun p hp => h p (List.mem_cons_of_mem _ hp)
    rw [List.forIn_cons, hf]
    unfold clGo
    by_cases hk : (k == NameKind.free) = true
    · obtain ⟨c, hc⟩ := h (n, k) List.mem_cons_self (by simpa using hk)
      rw [if_pos hk, if_pos hk]
      unfold cellOf
      simp only at hc
      rw [hc]
      simp only [pure_bind]
      exact closure_go f hf r _ hr
    · rw [if_neg hk, if_neg hk, pure_bind]
      exact closure_go f hf r _ hr

theorem closureFor_go {env : Env} {scope : Scope} (h : ∀ p ∈ scope.names, p.2 = .free → ∃ c, env.cells.lookup p.1 = some c) : closureFor scope env = pure (clGo env.cells scope.names []) := by
  unfold closureFor
  simp only []
  rw [closure_go (env := env) _ (fun n k cs => by
    by_cases hk : (k == NameKind.free) = true <;> simp [hk]) scope.names [] h]
  rfl

theorem lookup_cons' {α : Type} (x n : Str) (c : α) (l : List (Str × α)) : ((n, c) :: l).lookup x = if x = n then some c else l.lookup x := by
  rw [List.lookup_cons]
  by_cases h : x = n
  · simp [h]
  · have : (x == n) = false := by simpa using h
    simp [h, this]

theorem clGo_sound {cells : List (Str × Addr)} : ∀ (names : List (Str × NameKind)) (acc : List (Str × Addr)), (∀ x c, acc.lookup x = some c → cells.lookup x = some c) →
    ∀ x c, (clGo cells names acc).lookup x = some c → cells.lookup x = some c
  | [], acc, h => h
  | (n, k) :: r, acc, h => by
    unfold clGo
    split
    · cases hc : cells.lookup n with
      | none => exact clGo_sound r acc h
      | some c =>
        refine clGo_sound r _ fun x c' e => ?_
        rw [lookup_cons'] at e
        split at e
        · rename_i q; cases e; rw [q]; exact hc
        · exact h x c' e
    · exact clGo_sound r acc h

theorem clGo_mem {cells : List (Str × Addr)} : ∀ (names : List (Str × NameKind)) (acc : List (Str × Addr)) (x : Str) (c : Addr), (clGo cells names acc).lookup x = some c → (x, NameKind.free) ∈ names ∨ acc.lookup x = some c
  | [], acc, x, c, h => .inr h
  | (n, k) :: r, acc, x, c, h => by
    unfold clGo at h
    split at h
    · rename_i hk
      have hk' : k = .free := by simpa using hk
      subst hk'
      cases hc : cells.lookup n with
      | none => rw [hc] at h; exact (clGo_mem r acc x c h).imp (.tail _) id
      | some c' =>
        rw [hc] at h
        rcases clGo_mem r _ x c h with e | e
        · exact .inl (.tail _ e)
        · rw [lookup_cons'] at e
          split at e
          · rename_i q; exact .inl (q ▸ .head _)
          · exact .inr e
    · exact (clGo_mem r acc x c h).imp (.tail _) id

theorem clGo_has {cells : List (Str × Addr)} {x : Str} {c : Addr} (hx : cells.lookup x = some c) : ∀ (names : List (Str × NameKind)) (acc : List (Str × Addr)),
    ((x, NameKind.free) ∈ names ∨ acc.lookup x = some c) → (clGo cells names acc).lookup x = some c
  | [], acc, h => h.elim (fun e => nomatch e) id
  | (n, k) :: r, acc, h => by
    unfold clGo
    split
    · cases hc : cells.lookup n with
      | none =>
        refine clGo_has hx r acc (h.imp (fun e => ?_) id)
        rcases List.mem_cons.mp e with e | e
        · cases e; rw [hx] at hc; cases hc
        · exact e
      | some c' =>
        refine clGo_has hx r _ ?_
        rcases h with e | e
        · rcases List.mem_cons.mp e with e | e
          · cases e; rw [hx] at hc; cases hc
            exact .inr (by rw [lookup_cons', if_pos rfl])
          · exact .inl e
        · rw [lookup_cons']
          split
          · rename_i q; rw [← q, hx] at hc; cases hc; exact .inr rfl
          · exact .inr e
    · rename_i hk
      refine clGo_has hx r acc (h.imp (fun e => ?_) id)
      rcases List.mem_cons.mp e with e | e
      · cases e; simp at hk
      · exact e

theorem cellsFrom_app : ∀ (names : List (Str × NameKind)) (n : Nat) (acc : List (Str × Addr)), cellsFrom n names acc = cellsFrom n names [] ++ acc
  | [], _, _ => rfl
  | (x, k) :: r, n, acc => by
    unfold cellsFrom
    split
    · rw [cellsFrom_app r (n + 1) ((x, n) :: acc), cellsFrom_app r (n + 1) [(x, n)]]; simp
    · exact cellsFrom_app r n acc

theorem cellsFrom_mem : ∀ (names : List (Str × NameKind)) (n : Nat) (x : Str) (c : Addr), (x, c) ∈ cellsFrom n names [] → (x, NameKind.cell) ∈ names ∧ n ≤ c
  | [], _, _, _, h => nomatch h
  | (y, k) :: r, n, x, c, h => by
    unfold cellsFrom at h
    split at h
    · rename_i hk
      rw [cellsFrom_app] at h
      rcases List.mem_append.mp h with h | h
      · obtain ⟨h1, h2⟩ := cellsFrom_mem r (n + 1) x c h
        exact ⟨.tail _ h1, by exact om72 h2⟩
      · simp only [List.mem_cons, List.not_mem_nil, or_false, Prod.mk.injEq] at h
        obtain ⟨rfl, rfl⟩ := h
        have : k = .cell := by simpa using hk
        subst this
        exact ⟨.head _, Nat.le_refl _⟩
    · obtain ⟨h1, h2⟩ := cellsFrom_mem r n x c h
      exact ⟨.tail _ h1, h2⟩

theorem cellsFrom_has : ∀ (names : List (Str × NameKind)) (n : Nat) (x : Str), (x, NameKind.cell) ∈ names → ∃ c, (x, c) ∈ cellsFrom n names []
  | (y, k) :: r, n, x, h => by
    unfold cellsFrom
    rcases List.mem_cons.mp h with e | e
    · cases e
      simp only [beq_self_eq_true, if_true]
      rw [cellsFrom_app]
      exact ⟨n, List.mem_append_right _ (List.mem_singleton.mpr rfl)⟩
    · split
      · obtain ⟨c, hc⟩ := cellsFrom_has r (n + 1) x e
        rw [cellsFrom_app]
        exact ⟨c, List.mem_append_left _ hc⟩
      · exact cellsFrom_has r n x e

theorem lookup_some_of_mem {α : Type} : ∀ {l : List (Str × α)} {x : Str} {c : α}, (x, c) ∈ l → ∃ c', l.lookup x = some c'
  | (y, d) :: r, x, c, h => by
    rw [lookup_cons']
    split
    · exact ⟨_, rfl⟩
    · rename_i hne
      rcases List.mem_cons.mp h with e | e
      · cases e; exact absurd rfl hne
      · exact lookup_some_of_mem e

theorem lookup_app {α : Type} (x : Str) : ∀ (l l' : List (Str × α)), (l ++ l').lookup x = (l.lookup x).or (l'.lookup x)
  | [], l' => by simp
  | (y, c) :: r, l' => by
    rw [List.cons_append, lookup_cons', lookup_cons', lookup_app x r l']
    split <;> simp
end
end Mine
namespace Mine
open PySem PySem.SeqAt

theorem lookup_map {α β : Type} (g : Str → α → β) (x : Str) : ∀ (l : List (Str × α)), (l.map fun p => (p.1, g p.1 p.2)).lookup x = (l.lookup x).map (g x)
  | [] => rfl
  | (y, c) :: r => by
    rw [List.map_cons, lookup_cons', lookup_cons', lookup_map g x r]
    split
    · rename_i h; subst h; rfl
    · rfl

theorem kindC_eq (k : KD) (scope : Scope) (x : Str) : kindC k scope x = (scope.names.lookup x).map fun q => if q == .free && k x == some .cell then .cell else q := by
  unfold kindC
  rw [← lookup_map (fun n q => if q == NameKind.free && k n == some .cell then NameKind.cell else q) x scope.names]
  congr 1
  refine List.map_congr_left fun p _ => ?_
  by_cases h : (p.2 == NameKind.free && k p.1 == some .cell) = true
  · simp [h]
  · simp [h]

theorem relabel_kind {env : Env} {scope : Scope} (hk : env.scope.kind = .function) : (fun x => (relabel scope env).names.lookup x) = kindC env.kindOf scope := by
  funext x
  unfold relabel kindC
  simp only [hk]
  congr 1
  refine List.map_congr_left fun p _ => ?_
  obtain ⟨a, b⟩ := p
  simp

section
variable {M : Model} {A : Around} {E : Value → Shared → Prop} {s : Shared}
theorem newEnvA {scope : Scope} {globals : Addr} {cl : List (Str × Addr)} {qual : Str} {env : Env} {Q : Env → Shared → Prop}
    (h : Q { scope, locals := s.heap.objs.size, globals, cells := cellsFrom (s.heap.objs.size + 1) scope.names cl, qual, func := none, code := env.code, frame := env.frame, builtins := env.builtins }
      { s with heap := pushCells (s.heap.push { cls := .type "dict", data := .dict #[] }) scope.names }) :
    wpAny M A (newFunctionEnv scope globals cl [] qual none .none (some env)) Q E s := by
  simp only [newFunctionEnv, Option.isSome_some, if_true]
  refine wpAny_bind (wpAny_alloc ?_)
  refine wpAny_bind (wpAny_layCells _ (fun name kind cells => by cases hkc : kind == NameKind.cell <;> simp [hkc]) _ _ _ _ ?_)
  rw [show ({ s with heap := s.heap.push { cls := .type "dict", data := .dict #[] } } : Shared).heap.objs.size = s.heap.objs.size + 1 from Heap.size_push ..]
  exact wpAny_pure h
end

theorem cells_facts (h : Heap) (scope : Scope) (o : Obj) :
    CellsOk (pushCells (h.push o) scope.names) (h.objs.size + 1) (cellsFrom (h.objs.size + 1) scope.names []) := by
  have ok := cellsFrom_ok scope.names (h.push o) (h.objs.size + 1) [] ⟨fun _ _ hm => (nomatch hm), List.Pairwise.nil⟩ (by rw [Heap.size_push]; exact Nat.le_refl _)
  rwa [Heap.size_push] at ok

theorem names_uniq {l : List (Str × NameKind)} (hn : (l.map (·.1)).Nodup) {x : Str} {k : NameKind} (h : (x, k) ∈ l) : l.lookup x = some k := by
  induction l with
  | nil => nomatch h
  | cons q l ih =>
    have hn := List.nodup_cons.mp hn
    refine (lookup_cons' x q.1 q.2 l).trans ((List.mem_cons.mp h).elim (fun e => by rw [← e, if_pos rfl]) fun e => ?_)
    rw [if_neg (show ¬ x = q.1 from fun z => hn.1 (show q.1 ∈ l.map (·.1) from z ▸ List.mem_map_of_mem (f := (·.1)) e))]
    exact ih hn.2 e
theorem cells_own {names : List (Str × NameKind)} {cells : List (Str × Addr)} {n : Nat} {x : Str} {c : Addr} (hn : (names.map (·.1)).Nodup) (hc : (cellsFrom n names (clGo cells names [])).lookup x = some c) : (x, c) ∈ cellsFrom n names [] ∨ (names.lookup x = some .free ∧ cells.lookup x = some c) := by
  rw [cellsFrom_app, lookup_app] at hc
  cases hq : (cellsFrom n names []).lookup x with
  | some c' => rw [hq] at hc; exact .inl (Option.some.inj hc ▸ mem_of_lookup hq)
  | none =>
    rw [hq, Option.none_or] at hc
    exact .inr ⟨names_uniq hn ((clGo_mem names [] _ _ hc).elim id fun q => fin_none q), clGo_sound names [] (fun _ _ e => fin_none e) x c hc⟩
theorem okScope_inv {k : KD} {scope : Scope} {x : Str} {C : Prop} (h : okScope k scope x = true) (c : scope.kind = .function → (scope.names.map (·.1)).Nodup → (scope.names.lookup x = some .local ∨ scope.names.lookup x = some .cell) → (∀ p ∈ scope.names, p.2 = .free → k p.1 = some .cell ∨ k p.1 = some .free) → (∀ p ∈ scope.names, ((p.2 = .free ∨ p.2 = .globalImplicit) ∨ p.1 = x) ∨ p.1 = Str.ofString ".0") → ordK (kindC k scope) = false → C) : C := by
  refine and6 h fun h1 h2 h3 h4 h5 h6 => c (eq_of_beq h1) (of_decide_eq_true h2) ((Bool.or_eq_true_iff.mp h3).imp eq_of_beq eq_of_beq) (fun p hp e => ?_) (fun p hp => ?_) (by simpa using h6)
  · have q := List.all_eq_true.mp h4 p hp
    rw [e, bne_self_eq_false, Bool.false_or] at q
    exact (Bool.or_eq_true_iff.mp q).imp eq_of_beq eq_of_beq
  · have q := List.all_eq_true.mp h5 p hp
    simpa only [Bool.or_eq_true, beq_iff_eq] using q
theorem own_none {names : List (Str × NameKind)} {n : Nat} {x : Str} (hn : (names.map (·.1)).Nodup) (hx : names.lookup x = some .free) : (cellsFrom n names []).lookup x = none := by
  cases hc : (cellsFrom n names []).lookup x with
  | none => rfl
  | some c => exact nomatch hx.symm.trans (names_uniq hn (cellsFrom_mem _ _ _ _ (mem_of_lookup hc)).1)
theorem kindC_free {k : KD} {scope : Scope} {x : Str} (h : scope.names.lookup x = some .free) : kindC k scope x ≠ some .local := by
  rw [kindC_eq, h]
  show some (if _ then _ else _) ≠ _
  split <;> nofun
theorem kindC_inv {k : KD} {scope : Scope} {x : Str} (h : kindC k scope x = some .cell ∨ kindC k scope x = some .free) : scope.names.lookup x = some .free ∨ scope.names.lookup x = some .cell := by
  rw [kindC_eq] at h
  cases hq : scope.names.lookup x with
  | none => rw [hq] at h; exact h.elim (fun h => nomatch h) fun h => nomatch h
  | some q =>
    rw [hq] at h
    have h : some (if (q == .free && k x == some .cell) = true then NameKind.cell else q) = some .cell ∨ some (if (q == .free && k x == some .cell) = true then NameKind.cell else q) = some .free := h
    by_cases hc : (q == .free && k x == some .cell) = true
    · exact .inl (congrArg some (eq_of_beq (Bool.and_eq_true_iff.mp hc).1))
    · rw [if_neg hc] at h; exact h.symm
theorem compEnv_rep {h : Heap} {env : Env} {m : Str → Option Value} {scope : Scope} {y : Str} (R : EnvRep h env m) (hok : okScope env.kindOf scope y = true) :
    EnvRep (pushCells (h.push { cls := .type "dict", data := .dict #[] }) scope.names)
      { scope := relabel scope env, locals := h.objs.size, globals := env.globals, cells := cellsFrom (h.objs.size + 1) scope.names (clGo env.cells scope.names []), qual := env.qual, func := none, code := env.code, frame := env.frame, builtins := env.builtins }
      (fun x => if scope.names.lookup x = some .free then m x else none) := by
  refine okScope_inv hok fun hkind hnd hy hfree _ hord => ?_
  have ok := cells_facts h scope { cls := .type "dict", data := .dict #[] }
  have keep : KH h (pushCells (h.push { cls := .type "dict", data := .dict #[] }) scope.names) := fun b o e => Heap.gt_up (pushCells_keeps _ _) b o (Heap.gt_push_of_some _ e)
  have hk : ∀ x k, (relabel scope env).names.lookup x = k → kindC env.kindOf scope x = k := fun x k e => (congrFun (relabel_kind (scope := scope) R.kind) x).symm.trans e
  have out_lt : ∀ x c, env.cells.lookup x = some c → @LT.lt Nat _ c h.objs.size := fun x c hc => (R.ex x c hc).elim fun o ho => Heap.gt_lt ho
  have own_ge : ∀ x c, (x, c) ∈ cellsFrom (h.objs.size + 1) scope.names [] → @LT.lt Nat _ h.objs.size c := fun x c hc => (ok.empty x c hc).2
  have apart : ∀ {x z c} {C : Prop}, (x, c) ∈ cellsFrom (h.objs.size + 1) scope.names [] → env.cells.lookup z = some c → C := fun h1 h2 => absurd (Nat.lt_trans (own_ge _ _ h1) (out_lt _ _ h2)) (Nat.lt_irrefl _)
  refine ⟨hkind, R.glob, R.blt, ⟨fun _ => none, (Heap.Ns.new h (.type "dict")).keeps (pushCells_keeps _ _), fun x hx => ?_⟩, fun x hx => ?_, fun x z c h1 h2 => ?_, fun x c h1 e => ?_, fun x c h1 => ?_, fun ho => ?_⟩
  · exact (if_neg fun e => kindC_free e (hk x _ hx)).symm
  · refine (kindC_inv (hx.imp (hk x _) (hk x _))).elim (fun e => ?_) fun e => ?_
    · have hm := mem_of_lookup e
      refine (R.cell x (hfree _ hm rfl)).elim fun c q => ⟨c, ?_, ?_⟩
      · show (cellsFrom _ _ _).lookup x = some c
        rw [cellsFrom_app, lookup_app, own_none hnd e]
        exact clGo_has q.1 scope.names [] (.inl hm)
      · rw [if_pos e]; exact Cell.keepAt q.2 (keep _)
    · refine (cellsFrom_has scope.names (h.objs.size + 1) x (mem_of_lookup e)).elim fun c hc => (lookup_some_of_mem hc).elim fun c' hc' => ⟨c', ?_, ?_⟩
      · show (cellsFrom _ _ _).lookup x = some c'
        rw [cellsFrom_app, lookup_app, hc']; rfl
      · rw [if_neg (by rw [e]; nofun)]
        exact (ok.empty x c' (mem_of_lookup hc')).1
  · exact (cells_own hnd h1).elim (fun e1 => (cells_own hnd h2).elim (fun e2 => name_of_addr ok.apart e1 e2) fun e2 => apart e1 e2.2) fun e1 => (cells_own hnd h2).elim (fun e2 => apart e2 e1.2) fun e2 => R.inj x z c e1.2 e2.2
  · exact (cells_own hnd h1).elim (fun e1 => Nat.lt_irrefl _ (e ▸ own_ge x c e1)) fun e1 => Nat.lt_irrefl _ (e ▸ out_lt x c e1.2)
  · exact (cells_own hnd h1).elim (fun e1 => gt_cell (ok.empty x c e1).1) fun e1 => (R.ex x c e1.2).elim fun o ho => ⟨o, keep _ _ ho⟩
  · have ho : ordK (fun x => (relabel scope env).names.lookup x) = true := ho
    rw [relabel_kind R.kind, hord] at ho; cases ho
end Mine
namespace Mine
open PySem PySem.SeqAt

theorem compM_cons (f : D → Option (Option D)) (x : D) (l : List D) : compM f (x :: l) = (f x).bind fun o => (compM f l).map fun ds => match o with | Option.none => ds | some d => d :: ds := by
  show (match f x with | Option.none => Option.none | some o => match compM f l with | Option.none => Option.none | some ds => _) = _
  cases f x with
  | none => rfl
  | some o => cases compM f l <;> rfl
theorem compM_snoc (f : D → Option (Option D)) (l : List D) (x : D) : compM f (l ++ [x]) = (compM f l).bind fun ds => (f x).map fun o => match o with | Option.none => ds | some d => ds ++ [d] := by
  induction l with
  | nil =>
    rw [List.nil_append, compM_cons]
    cases f x with
    | none => rfl
    | some o => cases o <;> rfl
  | cons y l ih =>
    rw [List.cons_append, compM_cons, compM_cons, ih]
    cases f y with
    | none => rfl
    | some o =>
      cases compM f l with
      | none => rfl
      | some ds =>
        cases f x with
        | none => rfl
        | some o' => cases o' <;> cases o <;> rfl
theorem compM_pre {f : D → Option (Option D)} {a b : List D} {out : List D} (h : compM f (a ++ b) = some out) : ∃ o, compM f a = some o := by
  induction a generalizing out with
  | nil => exact ⟨[], rfl⟩
  | cons x a ih =>
    rw [List.cons_append, compM_cons] at h
    rw [compM_cons]
    exact ob_inv h fun o hx h => om_inv h fun ds hab _ => (ih hab).elim fun o' e => by rw [hx, e]; exact ⟨_, rfl⟩
theorem compM_len {f : D → Option (Option D)} {a : List D} {out : List D} (h : compM f a = some out) : out.length ≤ a.length := by
  induction a generalizing out with
  | nil => cases h; exact Nat.le_refl _
  | cons x a ih =>
    rw [compM_cons] at h
    refine ob_inv h fun o hx h => om_inv h fun ds hab e => ?_
    subst e
    cases o with
    | none => exact Nat.le_succ_of_le (ih hab)
    | some d => exact Nat.succ_le_succ (ih hab)
theorem compM_next {f : D → Option (Option D)} {done rest out o : List D} {d : D} (h : compM f (done ++ d :: rest) = some out) (ho : compM f done = some o) : ∃ r, f d = some r ∧ compM f (done ++ [d]) = some (match r with | some x => o ++ [x] | Option.none => o) := by
  rw [show done ++ d :: rest = (done ++ [d]) ++ rest from List.append_cons ..] at h
  refine (compM_pre h).elim fun o' e => ?_
  rw [compM_snoc, ho] at e ⊢
  refine om_inv e fun r hr _ => ⟨r, hr, ?_⟩
  rw [hr]
  cases r <;> rfl
theorem notSet_folded {e : Expr} {env : Env} (h : notSet e = true) : ∀ x, foldedSetIterable e env x = pure x := by
  intro x
  cases e with
  | Set => cases h
  | _ => rfl
theorem notSet_marks {e : Expr} {op : CmpOp} (h : notSet e = true) : behindInMarks op e = false := by
  cases e with
  | Set => cases h
  | _ => rfl
noncomputable abbrev Mv (c : Addr) (h h' : Heap) : Prop := ∀ b o, b ≠ c → gat h b = some o → gat h' b = some o
section
variable {P : Params} {h1 h h' : Heap} {H F : Addr → Prop} {c I L : Addr}
theorem mv_kh (Ff : ∀ b, F b → gat h1 b = none) (Fc : F c) (k : KH h1 h) (m : Mv c h h') : KH h1 h' := fun b o e => m b o (fun q => no_sn e (q ▸ Ff c Fc)) (k b o e)
theorem mv_rep (Fc : F c) (m : Mv c h h') {l : List Value} {ds : List D} (r : RepAll P h (fun b => H b ∨ F b) l ds) : RepAll P h' (fun b => H b ∨ F b) l ds := r.mono (fun b o hn e => m b o (fun q => hn (.inr (q ▸ Fc))) e) fun _ _ _ q => q
noncomputable abbrev FX (F : Addr → Prop) (I : Addr) (h : Heap) : Prop := ∀ b, F b → b ≠ I → ∃ o, gat h b = some o
theorem mv_fx (m : Mv c h h') (hc : c ≠ I → ∃ o, gat h' c = some o) (fx : FX F I h) : FX F I h' := fun b hb hI => (Classical.em (b = c)).elim (fun e => e ▸ hc (e ▸ hI)) fun e => (fx b hb hI).elim fun o q => ⟨o, m b o e q⟩
theorem mv_pl (m : Mv c h h') (hne : L ≠ c) {ys : Array Value} (a : h.PlainList L ys) : h'.PlainList L ys := a.elim fun n e => ⟨n, Heap.of_gt (m L _ hne (Heap.gt_of e))⟩
theorem kh_mv (k : KH h h') : Mv c h h' := fun b o _ e => k b o e
theorem sb_mv (s : Heap.SB c h h') : Mv c h h' := fun b _ n e => (s.g b n).trans e
end
section
variable {prog : Program} {w : World} {A : Around} {E : Value → Shared → Prop} {s : Shared} {H : Addr → Prop}

inductive CompI (P : Params) (h1 : Heap) (H F : Addr → Prop) (I L : Addr) (its : List D) (St : Nat → Heap → Prop) (f : D → Option (Option D)) (cenv : Env) (m : Str → Option Value) (free : Str → Prop) (s : Shared) (k : Nat) : Shared → Prop
  | mk {h tk dw done rest o ys mC} (dr : its = done ++ rest) (st : St done.length h) (acc : h.PlainList L ys) (out : compM f done = some o) (rep : RepAll P h (fun b => H b ∨ F b) ys.toList o) (env : EnvRep h cenv mC) (fv : ∀ x, free x → mC x = m x) (kh : KH h1 h)
    (fx : FX F I h) (kn : k = rest.length + 1) : CompI P h1 H F I L its St f cenv m free s k { s with heap := h, toks := tk, drawn := dw }
theorem wp_kp {α : Type} {M : Model} {c : Sem α} {b : α} {X : Shared → Prop} {Q : α → Shared → Prop} (hq : wpAny M A c (fun ok s' => Keeps s s' ∧ ok = b ∧ X s') E s) (k : ∀ h tk dw, KH s.heap h → X { s with heap := h, toks := tk, drawn := dw } → Q b { s with heap := h, toks := tk, drawn := dw }) : wpAny M A c Q E s :=
  wp_m hq fun ok s' q => Keeps.rec (motive := fun s' _ => X s' → Q ok s') (fun h tk dw hk x => q.2.1 ▸ k h tk dw hk x) q.1 q.2.2
theorem wp_post {M : Model} {c : Sem Value} {d : D} {Q : Value → Shared → Prop} (hq : wpAny M A c (Post w s H d) E s) (k : ∀ v h tk dw, KH s.heap h → Rep w.params h H v d → Q v { s with heap := h, toks := tk, drawn := dw }) : wpAny M A c Q E s :=
  wp_m hq fun v s' q => Keeps.rec (motive := fun s' _ => Rep w.params s'.heap H v d → Q v s') (fun h tk dw hk x => k v h tk dw hk x) q.k q.r
noncomputable def EltOk (prog : Program) (w : World) (A : Around) (s : Shared) (H : Addr → Prop) (its : List D) (f : D → Option (Option D)) (m : Str → Option Value) (free : Str → Prop) (y : Str) (elt : Expr) (ifs : List Expr) (cenv : Env) : Prop :=
  ∀ (s₂ : Shared) (mC : Str → Option Value) (H₂ : Addr → Prop) (v : Value) (dv : D) (r : Option D), dv ∈ its → f dv = some r → EnvRep s₂.heap cenv mC → mC y = some v → Rep w.params s₂.heap H₂ v dv →
    (∀ x, free x → mC x = m x) → Ex s₂.heap H₂ → Keeps s s₂ → Less s.heap H H₂ → ∀ E' : Value → Shared → Prop,
    wpAny (model prog w) A (forIn ifs true fun c r => if r = true then do let ok ← isTrue c cenv (eval c cenv); pure (ForInStep.yield ok) else pure (ForInStep.yield r))
      (fun ok s₃ => Keeps s₂ s₃ ∧ ok = r.isSome ∧ ∀ dr, r = some dr → wpAny (model prog w) A (eval elt cenv) (Post w s₃ H₂ dr) E' s₃) E' s₂
structure CompF (h1 : Heap) (H F : Addr → Prop) (I L : Addr) (cenv : Env) (y : Str) : Prop where
  FI : F I
  FL : F L
  FC : F cenv.locals
  Fy : ∀ c, cenv.cells.lookup y = some c → F c
  nIL : I ≠ L
  nIC : I ≠ cenv.locals
  nLC : L ≠ cenv.locals
  ncell : ∀ x c, cenv.cells.lookup x = some c → c ≠ L ∧ c ≠ I
  Ff : ∀ b, F b → gat h1 b = none
  IC : @LE.le Nat _ I cenv.locals
  hH : Ex h1 H
theorem st_mv {h1 h h' : Heap} {F : Addr → Prop} {I c : Addr} {its : List D} {fp : List Addr} {P : Nat → Value → Prop} {St : Nat → Heap → Prop} (W : Walks prog w A I fp [I] its.length P St) (hfp : ∀ b ∈ fp, b = I ∨ (¬ H b ∧ ∃ o, gat h1 b = some o)) (hT : ∀ b ∈ fp, ∀ i h o, St i h → h.get? b = some o → isTab o = false)
    (Ff : ∀ b, F b → gat h1 b = none) (Fc : F c) (hne : c ≠ I) (m : Mv c h h') {i : Nat} (st : St i h) : St i h' :=
  walks_frame W hT i h h' st fun b hb o e => m b o (fun q => (hfp b hb).elim (fun z => hne (q ▸ z)) fun z => z.2.elim fun o' e' => no_sn e' (q ▸ Ff c Fc)) e
theorem comp_turn {cenv : Env} {m : Str → Option Value} {free : Str → Prop} {y : Str} {py : Pos} {elt : Expr} {ifs : List Expr} {its out : List D} {f : D → Option (Option D)}
    {I L : Addr} {fp : List Addr} {P : Nat → Value → Prop} {St : Nat → Heap → Prop} {F : Addr → Prop} {h1 h : Heap} {tk : Nat} {dw : Drawn} {NE : Value → Shared → Prop}
    (W : Walks prog w A I fp [I] its.length P St) (hfp : ∀ b ∈ fp, b = I ∨ (¬ H b ∧ ∃ o, gat h1 b = some o)) (hP : ∀ i v, i < its.length → P i v → ∃ d, its[i]? = some d ∧ Rep w.params h1 H v d)
    (hT : ∀ b ∈ fp, ∀ i h o, St i h → h.get? b = some o → isTab o = false) (hky : cenv.kindOf y = some .local ∨ cenv.kindOf y = some .cell) (hyf : ¬ free y) (Z : CompF h1 H F I L cenv y) (k01 : KH s.heap h1)
    (hlen : its.length ≤ big) (hout : compM f its = some out) (helt : EltOk prog w A s H its f m free y elt ifs cenv)
    {done rest o : List D} {dv : D} {ys : Array Value} {mC : Str → Option Value} {k : Nat} (dr : its = done ++ dv :: rest) (st : St done.length h) (acc : h.PlainList L ys) (ho : compM f done = some o) (rep : RepAll w.params h (fun b => H b ∨ F b) ys.toList o) (env : EnvRep h cenv mC) (fv : ∀ x, free x → mC x = m x) (kh : KH h1 h) (fx : FX F I h) (kn : k = (dv :: rest).length + 1)
    {R : Shared → Prop} :
    wpAny (model prog w) A (pyNext (.ref I)) (fun r s₁ => match r with
      | none => R s₁
      | some v => wpAny (model prog w) A (assign (.Name y py) cenv v) (fun _ s₂ =>
          wpAny (model prog w) A (forIn ifs true fun c r => if r = true then do let ok ← isTrue c cenv (eval c cenv); pure (ForInStep.yield ok) else pure (ForInStep.yield r)) (fun ok s₃ =>
            if ok = true then wpAny (model prog w) A (eval elt cenv) (fun x s₄ =>
              wpAny (model prog w) A (call (.builtin "list.append") [.ref L, x]) (fun _ s₅ => ∃ m', m' < k ∧ CompI w.params h1 H F I L its St f cenv m free s m' s₅) NE s₄) NE s₃
            else ∃ m', m' < k ∧ CompI w.params h1 H F I L its St f cenv m free s m' s₃) NE s₂) NE s₁) NE { s with heap := h, toks := tk, drawn := dw } := by
  refine Z.rec fun FI FL FC Fy nIL nIC nLC ncell Ff IC hH => ?_
  clear Z
  have hlt : done.length < its.length := by rw [dr, List.length_append]; exact Nat.lt_add_of_pos_right (Nat.succ_pos _)
  refine W.item done.length _ _ _ hlt st fun v h₁ tk₁ hPv st₁ hk₁ => ?_
  have m1 : Mv I h h₁ := fun b o hb e => walk_lift W hT st hk₁ b o (fun q => hb (List.mem_singleton.mp q)) e
  have nfr : ∀ b, (b = cenv.locals ∨ ∃ x, cenv.cells.lookup x = some b) → b ≠ I ∧ b ≠ L := fun b hb => hb.elim (fun e => e ▸ ⟨nIC.symm, nLC.symm⟩) fun q => q.elim fun x e => ⟨(ncell x b e).2, (ncell x b e).1⟩
  refine wpAny_assign_Name (store_snd (s := { s with heap := h₁, toks := tk₁, drawn := dw }) (env.keepsAt fun a o' ha e => m1 a o' (nfr a ha).1 e) hky fun h₂ tk₂ dw₂ a RC₂ ha hs₂ => ?_)
  have na := nfr a (ha.imp id fun e => ⟨y, e⟩)
  have Fa : F a := ha.elim (fun e => e ▸ FC) (Fy a)
  have m2 := sb_mv hs₂
  have k2 : KH h1 h₂ := mv_kh Ff Fa (mv_kh Ff FI kh m1) m2
  have st₂ : St (done.length + 1) h₂ := st_mv W hfp hT Ff Fa na.1 m2 st₁
  have fx₂ : FX F I h₂ := mv_fx m2 (fun _ => ha.elim (fun e => RC₂.loc.elim fun _ q => e ▸ gt_ns q.1) fun e => RC₂.ex y a e) (mv_fx m1 (fun q => absurd rfl q) fx)
  have hmem : dv ∈ its := by rw [dr]; exact List.mem_append_right _ (.head _)
  have rep₂ := mv_rep Fa m2 (mv_rep FI m1 rep)
  have acc₂ := mv_pl m2 na.2.symm (mv_pl m1 nIL.symm acc)
  have fv₂ : ∀ x, free x → upd mC y v x = m x := fun x hx => (if_neg (show ¬ x = y from fun e => hyf (e ▸ hx))).trans (fv x hx)
  have ex₂ : Ex h₂ (fun b => H b ∨ F b) := fun b hb => hb.elim (fun q => (hH b q).elim fun b' z => z.elim fun o' z => ⟨b', o', z.1, k2 _ _ z.2⟩) fun q => (Classical.em (b = I)).elim (fun e => (fx₂ _ FC nIC.symm).elim fun o' z => ⟨_, o', e ▸ IC, z⟩) fun e => (fx₂ b q e).elim fun o' z => ⟨b, o', Nat.le_refl _, z⟩
  have lss : Less h1 H fun b => H b ∨ F b := fun b o' e q => q.elim id fun q => no_sn e (Ff b q)
  have rv : Rep w.params h₂ (fun b => H b ∨ F b) v dv := (hP _ v hlt hPv).elim fun d q => by
    have e : d = dv := by
      have e1 := q.1
      rw [dr, List.getElem?_append_right (Nat.le_refl _), Nat.sub_self] at e1
      exact (Option.some.inj e1).symm
    exact e ▸ q.2.mono (fun b o' _ e => k2 b o' e) lss
  have lt : rest.length + 1 < k := by rw [kn]; exact Nat.lt_succ_self _
  have dr' : its = (done ++ [dv]) ++ rest := dr.trans (List.append_cons ..)
  have sl : (done ++ [dv]).length = done.length + 1 := List.length_append
  rw [dr] at hout
  refine (compM_next hout ho).elim fun r q => wp_kp (s := { s with heap := h₂, toks := tk₂, drawn := dw₂ }) (helt { s with heap := h₂, toks := tk₂, drawn := dw₂ } (upd mC y v) (fun b => H b ∨ F b) v dv r hmem q.1 RC₂ (if_pos rfl) rv fv₂ ex₂ (.mk h₂ tk₂ dw₂ fun b o' e => k2 b o' (k01 b o' e)) (fun b o' e => lss b o' (k01 b o' e)) _) fun h₃ tk₃ dw₃ k23 he3 => ?_
  have m3 : Mv L h₂ h₃ := kh_mv k23
  have st₃ : St (done.length + 1) h₃ := walks_frame W hT _ _ h₃ st₂ fun b _ o' e => k23 b o' e
  cases r with
  | none => exact ⟨rest.length + 1, lt, .mk dr' (sl ▸ st₃) (acc₂.elim fun n e => ⟨n, Heap.of_gt (k23 _ _ (Heap.gt_of e))⟩) q.2 (rep₂.keeps k23) (RC₂.keeps k23) fv₂ (fun b o' e => k23 _ _ (k2 b o' e)) (fun b hb hbI => (fx₂ b hb hbI).elim fun o' e => ⟨o', k23 _ _ e⟩) rfl⟩
  | some dr₀ =>
    refine wp_post (s := { s with heap := h₃, toks := tk₃, drawn := dw₃ }) (he3 dr₀ rfl) fun x h₄ tk₄ dw₄ k34 rx => ?_
    have k24 : KH h₂ h₄ := fun b o' e => k34 b o' (k23 b o' e)
    have hacc₄ : h₄.PlainList L ys := acc₂.elim fun n e => ⟨n, Heap.of_gt (k24 _ _ (Heap.gt_of e))⟩
    refine wpAny_list_append_plain hacc₄ (fun h₅ hl₅ hs₅' => ?_) (by
      rw [rep.size]
      exact Nat.le_of_lt (Nat.lt_of_le_of_lt (compM_len ho) (Nat.lt_of_lt_of_le hlt hlen)))
    have m5 : Mv L h₄ h₅ := sb_mv ⟨hs₅', hacc₄.elim fun _ e => notTab_at e, hl₅.elim fun _ e => notTab_at e⟩
    refine ⟨rest.length + 1, lt, .mk dr' (sl ▸ st_mv W hfp hT Ff FL nIL.symm m5 (walks_frame W hT _ _ h₄ st₂ fun b _ o' e => k24 b o' e)) hl₅ q.2 ?_ ((RC₂.keeps k24).keepsAt fun b o' hb e => m5 b o' (nfr b hb).2 e) fv₂ (mv_kh Ff FL (fun b o' e => k24 b o' (k2 b o' e)) m5) (mv_fx m5 (fun _ => hl₅.elim fun _ e => ⟨_, Heap.gt_of e⟩) fun b hb hbI => (fx₂ b hb hbI).elim fun o' e => ⟨o', k24 _ _ e⟩) rfl⟩
    rw [Array.toList_push]
    exact mv_rep FL m5 ((rep₂.keeps k24).append (.cons rx rfl))
theorem comp_loop {cenv : Env} {m mC0 : Str → Option Value} {free : Str → Prop} {y : Str} {py pos : Pos} {it elt : Expr} {ifs : List Expr} {scope : Scope} {R : Result → Shared → Prop} {its out : List D} {f : D → Option (Option D)}
    {I L : Addr} {F : Addr → Prop} {h1 h4 : Heap} {tk4 : Nat} {dw4 : Drawn}
    (IW : IterW prog w A h1 H its I h4) (hky : cenv.kindOf y = some .local ∨ cenv.kindOf y = some .cell) (hyf : ¬ free y) (Z : CompF h1 H F I L cenv y)
    (hacc : h4.PlainList L #[]) (RC : EnvRep h4 cenv mC0) (hfv : ∀ x, free x → mC0 x = m x) (Fx : FX F I h4) (k01 : KH s.heap h1) (k14 : KH h1 h4)
    (hlen : its.length ≤ big) (hout : compM f its = some out) (helt : EltOk prog w A s H its f m free y elt ifs cenv)
    (hR : ∀ h' tk dw m', h'.Ns cenv.locals m' → OwnL w.params h' (fun b => H b ∨ F b) L out → (KH s.heap h') → R (.ok .next) { s with heap := h', toks := tk, drawn := dw }) :
    codeAny (model prog w) A (.compLoop (.ListComp elt [⟨.Name y py, it, ifs, 0⟩] scope pos) 0 (.ref I) (.ref L) cenv) R { s with heap := h4, toks := tk4, drawn := dw4 } := by
  refine IW.rec fun {fp P St} W hst hfp hP _ hT => ?_
  refine codeAny_compLoop_tests (CompI w.params h1 H F I L its St f cenv m free s) (fun k s' q => ?_) (its.length + 1) (.mk (done := []) (rest := its) (o := []) (ys := #[]) rfl hst hacc rfl rfl RC hfv k14 Fx rfl)
  clear hst hacc RC hfv k14 Fx IW
  refine CompI.rec (motive := fun s' _ => wpAny (model prog w) A (pyNext (.ref I)) _ _ s') (fun {h tk dw done rest o ys mC} dr st acc ho rep env fv kh fx kn => ?_) q
  cases rest with
  | cons dv rest => exact comp_turn W hfp hP hT hky hyf Z k01 hlen hout helt dr st acc ho rep env fv kh fx kn
  | nil =>
    rw [List.append_nil] at dr
    subst dr
    refine W.done _ _ _ st fun h' tk' hk' => ?_
    have m1 : Mv I h h' := fun b o hb e => walk_lift W hT st hk' b o (fun q => hb (List.mem_singleton.mp q)) e
    refine env.loc.elim fun ml hns => hR h' tk' dw ml (Ns.keepAt hns.1 fun o e => m1 _ o Z.nIC.symm e) ?_ fun b o e => mv_kh Z.Ff Z.FI kh m1 b o (k01 b o e)
    rw [hout] at ho
    cases ho
    exact (mv_pl m1 Z.nIL.symm acc).elim fun n e => ⟨e, Nat.le_trans (compM_len hout) hlen, (mv_rep Z.FI m1 rep).mono (fun _ _ _ e => e) fun a o' _ q => q.elim id fun q => .inr (q ▸ Z.FL)⟩
theorem wp_iter {M : Model} {c : Sem Value} {its : List D} {Q : Value → Shared → Prop} {sx : Shared} (hq : wpAny M A c (PostI prog w A s H its) E sx)
    (k : ∀ I h tk dw, KH s.heap h → gat s.heap I = none → (∃ o, gat h I = some o) → IterW prog w A s.heap H its I h → Q (.ref I) { s with heap := h, toks := tk, drawn := dw }) : wpAny M A c Q E sx :=
  wp_m hq fun v s' q => q.rec fun {I s₂} q => Keeps.rec (motive := fun s' _ => (∃ o, gat s'.heap I = some o) → IterW prog w A s.heap H its I s'.heap → Q (.ref I) s') (fun h tk dw hk x y => k I h tk dw hk q.fresh x y) q.keeps q.ex q.walk
theorem comp_core {env : Env} {m : Str → Option Value} {scope : Scope} {y : Str} {py pos ppos : Pos} {it elt : Expr} {ifs : List Expr} {use : Option (Value → Sem Unit)} {Q : Value → Shared → Prop} {d : D} {its out : List D} {f : D → Option (Option D)}
    (R : EnvRep s.heap env m) (hok : okScope env.kindOf scope y = true) (hset : notSet it = true) (hh : A.handled = none) (hH : Ex s.heap H)
    (hit : wpAny (model prog w) A (eval it env) (Post w s H d) E s) (hits : d.items = some its) (hlen : its.length ≤ big) (hout : compM f its = some out)
    (helt : ∀ cenv : Env, cenv.kindOf = kindC env.kindOf scope → EltOk prog w A s H its f m (fun x => scope.names.lookup x = some .free) y elt ifs cenv)
    (hQ : ∀ L C h' tk dw m', (∀ b o, gat s.heap b = some o → @LT.lt Nat _ b L) → gat s.heap C = none → L ≠ C → h'.Ns C m' → OwnL w.params h' (fun b => H b ∨ b = C) L out → (KH s.heap h') →
      compPost (model prog w) A E use Q (.ref L) C (.ok .next) { s with heap := h', toks := tk, drawn := dw }) :
    wpAny (model prog w) A (comprehension (.ListComp elt [⟨.Name y py, it, ifs, 0⟩] scope pos) scope env ppos (newList []) false (eval it env) use) Q E s := by
  refine okScope_inv hok fun hkind hnodup hy hfree _ _ => ?_
  refine wpAny_comprehension_free (cl := clGo env.cells scope.names []) rfl (notSet_folded hset) (closureFor_go fun p hp hf => (R.cell p.1 (hfree p hp hf)).elim fun c q => ⟨c, q.1⟩) hkind (fun x hx hl => by rw [names_uniq hnodup (k := x.2) hx, hl]) ?_
  refine wp_post hit fun xv h1 tk1 dw1 k01 rep1 => wp_iter (iter_snd (s := { s with heap := h1, toks := tk1, drawn := dw1 }) (prog := prog) (E := E) rep1 hh hits) fun I h2 tk2 dw2 k12 fresh ex IW => wpAny_newObj_type (newEnvA ?_)
  dsimp only at fresh IW k12 ⊢
  generalize hh3 : h2.push { cls := .type "list", dict := none, data := .seq ([] : List Value).toArray } = h3
  have k23 : KH h2 h3 := fun b o e => hh3 ▸ Heap.gt_push_of_some _ e
  have R1 := R.keeps k01
  have RC := compEnv_rep (y := y) ((R1.keeps k12).keeps k23) hok
  have size3 : @Eq Nat h3.objs.size (h2.objs.size + 1) := by rw [← hh3, Heap.size_push]
  have hL3 : h3.get? h2.objs.size = some (lstO #[] 0) := by rw [← hh3]; exact Heap.get?_push_size _ rfl
  clear hh3
  have I_lt : @LT.lt Nat _ I h2.objs.size := ex.elim fun _ q => Heap.gt_lt q
  have ok := cells_facts h3 scope { cls := .type "dict", data := .dict #[] }
  have k34 : KH h3 (pushCells (h3.push { cls := .type "dict", data := .dict #[] }) scope.names) := fun b o e => Heap.gt_up (pushCells_keeps _ _) b o (Heap.gt_push_of_some _ e)
  have lt1 : ∀ b o, gat h1 b = some o → @LT.lt Nat _ b h2.objs.size := fun b o e => Heap.gt_lt (k12 b o e)
  have own_ge : ∀ x c, (x, c) ∈ cellsFrom (h3.objs.size + 1) scope.names [] → @LT.lt Nat _ h3.objs.size c := fun x c hc => (ok.empty x c hc).2
  have L_lt : @LT.lt Nat _ h2.objs.size h3.objs.size := size3 ▸ Nat.lt_succ_self _
  have nFr : ∀ b o, gat h1 b = some o → b ≠ I := fun b o e q => no_sn e (q ▸ fresh)
  have Z : CompF h1 H (fun b => b = I ∨ b = h2.objs.size ∨ b = h3.objs.size ∨ ∃ x, (x, b) ∈ cellsFrom (h3.objs.size + 1) scope.names []) I h2.objs.size
      { scope := relabel scope env, locals := h3.objs.size, globals := env.globals, cells := cellsFrom (h3.objs.size + 1) scope.names (clGo env.cells scope.names []), qual := env.qual, func := none, code := env.code, frame := env.frame, builtins := env.builtins } y := by
    refine ⟨.inl rfl, .inr (.inl rfl), .inr (.inr (.inl rfl)), fun c hc => ?_, Nat.ne_of_lt I_lt, Nat.ne_of_lt (Nat.lt_trans I_lt L_lt), Nat.ne_of_lt L_lt, fun x c hc => ?_, fun b hb => ?_, Nat.le_of_lt (Nat.lt_trans I_lt L_lt), hH.keeps k01⟩
    · exact (cells_own hnodup hc).elim (fun e => .inr (.inr (.inr ⟨y, e⟩))) fun q => absurd q.1 (hy.elim (fun e => e ▸ nofun) fun e => e ▸ nofun)
    · exact (cells_own hnodup hc).elim (fun e => ⟨(Nat.ne_of_lt (Nat.lt_trans L_lt (own_ge x c e))).symm, (Nat.ne_of_lt (Nat.lt_trans (Nat.lt_trans I_lt L_lt) (own_ge x c e))).symm⟩) fun q => (R1.ex x c q.2).elim fun o e => ⟨Nat.ne_of_lt (lt1 c o e), nFr c o e⟩
    · cases e : gat h1 b with
      | none => rfl
      | some o =>
        have l := lt1 b o e
        exact hb.elim (fun q => absurd q (nFr b o e)) fun hb => hb.elim (fun q => absurd (q ▸ l) (Nat.lt_irrefl _)) fun hb => hb.elim (fun q => absurd (Nat.lt_trans (q ▸ l) L_lt) (Nat.lt_irrefl _)) fun hb => hb.elim fun x hx => absurd (Nat.lt_trans (own_ge x b hx) (Nat.lt_trans l L_lt)) (Nat.lt_irrefl _)
  have hkC : (fun x => (relabel scope env).names.lookup x) = kindC env.kindOf scope := relabel_kind R.kind
  have loop : ∀ tk4 dw4, codeAny (model prog w) A (.compLoop (.ListComp elt [⟨.Name y py, it, ifs, 0⟩] scope pos) 0 (.ref I) (.ref h2.objs.size)
      { scope := relabel scope env, locals := h3.objs.size, globals := env.globals, cells := cellsFrom (h3.objs.size + 1) scope.names (clGo env.cells scope.names []), qual := env.qual, func := none, code := env.code, frame := env.frame, builtins := env.builtins })
      (compPost (model prog w) A E use Q (.ref h2.objs.size) h3.objs.size) { s with heap := pushCells (h3.push { cls := .type "dict", data := .dict #[] }) scope.names, toks := tk4, drawn := dw4 } := fun tk4 dw4 => by
    refine comp_loop (s := s) (H := H) (m := m) (free := fun x => scope.names.lookup x = some .free) (IW.rec fun W st a b c d => ⟨W, walks_frame W d _ _ _ st fun b _ o e => k34 b o (k23 b o e), a, b, c, d⟩) ?_ (hy.elim (fun e => e ▸ nofun) fun e => e ▸ nofun) Z ⟨0, Heap.of_gt (k34 _ _ (Heap.gt_of hL3))⟩ RC (fun x hx => if_pos hx) (fun b hb hbI => ?_) k01 (fun b o e => k34 b o (k23 b o (k12 b o e))) hlen hout (helt _ hkC) fun h' tk dw m' hns hown hk => ?_
    · show (fun x => (relabel scope env).names.lookup x) y = _ ∨ (fun x => (relabel scope env).names.lookup x) y = _
      rw [hkC, kindC_eq]
      exact hy.imp (fun e => by rw [e]; rfl) fun e => by rw [e]; rfl
    · exact hb.elim (fun q => absurd q hbI) fun hb => hb.elim (fun q => ⟨_, q ▸ k34 _ _ (Heap.gt_of hL3)⟩) fun hb => hb.elim (fun q => RC.loc.elim fun _ e => q ▸ gt_ns e.1) fun hb => hb.elim fun x hx => gt_cell (ok.empty x b hx).1
    · exact hQ h2.objs.size h3.objs.size h' tk dw m' (fun b o e => lt1 _ o (k01 _ o e)) (none_up k01 (Z.Ff _ Z.FC)) (Nat.ne_of_lt L_lt) hns (hown.mono (fun _ e => e) (fun _ _ _ e => e) fun a o _ q => .inl (q.imp id fun q => .inr (.inr (.inl q)))) hk
  exact codeAny_compStart_list (loop _ _) (IW.rec fun W st a b c d => W.self 0 _ _ _ (walks_frame W d _ _ _ st fun b _ o e => k34 b o (k23 b o e)) (loop _ _))
end
end Mine
namespace Mine
open PySem PySem.SeqAt

noncomputable def bltNames : List String := ["len", "isinstance", "range", "tuple", "int", "str", "list", "bool", "set", "sum", "max", "min", "sorted", "reversed"]

structure GOk (mg mb : Str → Option Value) (h : Heap) : Prop where
  g : h.Ns mainGlobals mg
  b : h.Ns builtinsNs mb
  lim : h.NoLimit
  blt : ∀ f ∈ bltNames, mg (Str.ofString f) = none ∧ mb (Str.ofString f) = some (bltVal f)
  lam : h.IsCode oc tb #[] ∧ h.TableAt oc tb #[] ∧ h.BuiltinsAt mg tb

structure HOk (base h : Heap) (H : Addr → Prop) : Prop where
  keep : KH base h
  ex : Ex h H
  off : ∀ b o, gat base b = some o → ¬ H b
theorem HOk.keeps {base h h' : Heap} {H : Addr → Prop} (x : HOk base h H) (hk : KH h h') : HOk base h' H :=
  ⟨fun b o e => hk b o (x.keep b o e), x.ex.keeps hk, x.off⟩

theorem NoLimit.keepG {h h' : Heap} (x : h.NoLimit) (hk : KH h h') : h'.NoLimit := let ⟨mc, h1, h2⟩ := x; ⟨mc, Ns.keepAt h1 (hk _), h2⟩
inductive WTup (P : Params) (h0 h : Heap) (H : Addr → Prop) (q : D × D × List D × D) : Value → Prop
  | mk {t n v1 v2 L v4} (ho : h.get? t = some (tupO #[v1, v2, .ref L, v4] n)) (hL : gat h0 L = none) (hH : ¬ H L) (o : OwnL P h H L q.2.2.1) (r1 : Rep P h (fun b => H b ∨ b = L) v1 q.1) (r2 : Rep P h (fun b => H b ∨ b = L) v2 q.2.1) (r4 : Rep P h (fun b => H b ∨ b = L) v4 q.2.2.2) : WTup P h0 h H q (.ref t)
theorem WTup.old {P : Params} {h0 h0' h : Heap} {H : Addr → Prop} {q : D × D × List D × D} {v : Value} (x : WTup P h0 h H q v) (hk : KH h0' h0) : WTup P h0' h H q v := x.rec fun ho hL hH o r1 r2 r4 => ⟨ho, none_up hk hL, hH, o, r1, r2, r4⟩
inductive PostW (w : World) (s : Shared) (H : Addr → Prop) (q : D × D × List D × D) (v : Value) (s' : Shared) : Prop
  | mk (k : Keeps s s') (t : WTup w.params s.heap s'.heap H q v)
structure CSound (prog : Program) (w : World) (base : Heap) (mg : Str → Option Value) (cf : CF) (A : Around) : Prop where
  call : ∀ f ds d fr, cf.call f ds = some (d, fr) → ∃ a o fd, mg (Str.ofString f) = some (.ref a) ∧ gat base a = some o ∧ o.data = .func fd ∧
    ∀ A', Near A A' → ∀ (s : Shared) (H : Addr → Prop) (vs : List Value) (E : Value → Shared → Prop), HOk base s.heap H → RepAll w.params s.heap H vs ds →
      wpAny (model prog w) A' (PySem.call (.ref a) vs) (PostF w s H d fr) E s
  glob : ∀ x d, cf.glob x = some d → ∃ v, mg (Str.ofString x) = some v ∧ Rep w.params base (fun _ => False) v d
  callw : ∀ f ds q, cf.callw f ds = some q → ∃ a o fd, mg (Str.ofString f) = some (.ref a) ∧ gat base a = some o ∧ o.data = .func fd ∧
    ∀ A', Near A A' → ∀ (s : Shared) (H : Addr → Prop) (vs : List Value) (E : Value → Shared → Prop), HOk base s.heap H → RepAll w.params s.heap H vs ds →
      wpAny (model prog w) A' (PySem.call (.ref a) vs) (PostW w s H q) E s

noncomputable def CS0 (prog : Program) (w : World) (base : Heap) (mg : Str → Option Value) (cf : CF) (A : Around) : Prop := ∀ f ds d fr, cf.call f ds = some (d, fr) → ∃ a o fd, mg (Str.ofString f) = some (.ref a) ∧ gat base a = some o ∧ o.data = .func fd ∧
    ∀ (s : Shared) (H : Addr → Prop) (vs : List Value) (E : Value → Shared → Prop), HOk base s.heap H → RepAll w.params s.heap H vs ds →
      wpAny (model prog w) A (PySem.call (.ref a) vs) (PostF w s H d fr) E s
theorem CSound.at {prog : Program} {w : World} {base : Heap} {mg : Str → Option Value} {cf : CF} {A A' : Around} (C : CSound prog w base mg cf A) (hN : Near A A') : CS0 prog w base mg cf A' :=
  fun f ds d fr h => (C.call f ds d fr h).elim fun a q => q.elim fun o q => q.elim fun fd q => ⟨a, o, fd, q.1, q.2.1, q.2.2.1, q.2.2.2 A' hN⟩
noncomputable def NV (P : Params) (k : KD) (ns : List String) (ρ : List (String × D)) (m : Str → Option Value) (h : Heap) (H : Addr → Prop) : Prop :=
  ∀ x ∈ ns, isVar k (Str.ofString x) = true → ∀ d, ρ.lookup x = some d → ∃ v, m (Str.ofString x) = some v ∧ Rep P h H v d
structure Cc (w : World) (base : Heap) (s : Shared) (env : Env) (H : Addr → Prop) (ρ : List (String × D)) (m : Str → Option Value) (ns : List String) : Prop where
  R : EnvRep s.heap env m
  hw : HOk base s.heap H
  hn : NV w.params env.kindOf ns ρ m s.heap H

section
variable {prog : Program} {w : World} {A : Around} {s s' : Shared} {base : Heap} {mg mb : Str → Option Value} {cf : CF} {env : Env} {H : Addr → Prop} {ρ : List (String × D)} {m : Str → Option Value} {ns ns' : List String} {e : Expr} {E : Value → Shared → Prop} {a b : ME} {d : D} {C : Prop}
theorem Cc.k (c : Cc w base s env H ρ m ns) (k : Keeps s s') : Cc w base s' env H ρ m ns := ⟨c.R.keeps (Kp.heap k), c.hw.keeps (Kp.heap k), fun x hx hv d hd => (c.hn x hx hv d hd).elim fun v q => ⟨v, q.1, q.2.keeps (Kp.heap k)⟩⟩
theorem Cc.sub (c : Cc w base s env H ρ m ns) (hs : ∀ x ∈ ns', x ∈ ns) : Cc w base s env H ρ m ns' := ⟨c.R, c.hw, fun x hx => c.hn x (hs x hx)⟩
theorem Cc.l (c : Cc w base s env H ρ m (ns ++ ns')) : Cc w base s env H ρ m ns := c.sub fun _ => List.mem_append_left _
theorem Cc.r (c : Cc w base s env H ρ m (ns ++ ns')) : Cc w base s env H ρ m ns' := c.sub fun _ => List.mem_append_right _
theorem Cc.x (c : Cc w base s env H ρ m ns) : Ex s.heap H := c.hw.ex

noncomputable def SE (prog : Program) (w : World) (A : Around) (base : Heap) (cf : CF) (me : ME) : Prop :=
  ∀ (s : Shared) (env : Env) (e : Expr) (H : Addr → Prop) (ρ : List (String × D)) (m : Str → Option Value) (d : D) (E : Value → Shared → Prop), chkE env.kindOf e me = true → Cc w base s env H ρ m me.names → evE cf ρ me = some d → wpAny (model prog w) A (eval e env) (Post w s H d) E s
inductive PostA (w : World) (s : Shared) (H : Addr → Prop) (ds : List D) (vs : List Value) (s' : Shared) : Prop
  | mk (k : Keeps s s') (r : RepAll w.params s'.heap H vs ds)
noncomputable def SEs (prog : Program) (w : World) (A : Around) (base : Heap) (cf : CF) (ms : List ME) : Prop :=
  ∀ (s : Shared) (env : Env) (es : List Expr) (H : Addr → Prop) (ρ : List (String × D)) (m : Str → Option Value) (ds : List D) (E : Value → Shared → Prop), chkEs env.kindOf es ms = true → Cc w base s env H ρ m (namesL ms) → evEs cf ρ ms = some ds →
    wpAny (model prog w) A (spliced (es.map fun e => (false, eval e env))) (PostA w s H ds) E s
noncomputable def ST (prog : Program) (w : World) (A : Around) (base : Heap) (cf : CF) (me : ME) : Prop :=
  ∀ (s : Shared) (env : Env) (e : Expr) (H : Addr → Prop) (ρ : List (String × D)) (m : Str → Option Value) (d : D) (t : Bool) (E : Value → Shared → Prop), chkE env.kindOf e me = true → Cc w base s env H ρ m me.names → evE cf ρ me = some d → truth d = some t →
    wpAny (model prog w) A (isTrue e env (eval e env)) (PostB s t) E s
noncomputable def SB (prog : Program) (w : World) (A : Around) (base : Heap) (cf : CF) (ms : List ME) : Prop :=
  ∀ (s : Shared) (env : Env) (es : List Expr) (op : BoolOp) (pos : Pos) (H : Addr → Prop) (ρ : List (String × D)) (m : Str → Option Value) (d : D) (E : Value → Shared → Prop), chkEs env.kindOf es ms = true → Cc w base s env H ρ m (namesL ms) → evBop cf ρ op ms = some d →
    wpAny (model prog w) A (eval (.BoolOp op es pos) env) (Post w s H d) E s ∧ ∀ t whole, truth d = some t → wpAny (model prog w) A (isTrue (.BoolOp op es pos) env whole) (PostB s t) E s
noncomputable def SC (prog : Program) (w : World) (A : Around) (base : Heap) (cf : CF) (ms : List ME) : Prop :=
  ∀ (s : Shared) (env : Env) (es : List Expr) (H : Addr → Prop) (ρ : List (String × D)) (m : Str → Option Value) (t : Bool) (E : Value → Shared → Prop), chkEs env.kindOf es ms = true → Cc w base s env H ρ m (namesL ms) → evCs cf ρ ms = some t →
    wpAny (model prog w) A (forIn es true fun c r => if r = true then do let ok ← isTrue c env (eval c env); pure (ForInStep.yield ok) else pure (ForInStep.yield r)) (PostB s t) E s
noncomputable def SF (prog : Program) (w : World) (A : Around) (base : Heap) (cf : CF) (me : ME) : Prop :=
  ∀ (s : Shared) (env : Env) (e : Expr) (H : Addr → Prop) (ρ : List (String × D)) (m : Str → Option Value) (d : D) (fr : Bool) (E : Value → Shared → Prop), chkE env.kindOf e me = true → Cc w base s env H ρ m me.names → evF cf ρ me = some (d, fr) → wpAny (model prog w) A (eval e env) (PostF w s H d fr) E s
theorem SE.go {Q : Value → Shared → Prop} (ha : SE prog w A base cf a) (hc : chkE env.kindOf e a = true) (c : Cc w base s env H ρ m a.names) (he : evE cf ρ a = some d) (k : ∀ v s₁, Post w s H d v s₁ → Q v s₁) : wpAny (model prog w) A (eval e env) Q E s := wp_m (ha s env e H ρ m d E hc c he) k

theorem evi_bin {op : Operator} (h : evE cf ρ (.bin op a b) = some d) (k : ∀ x y, evE cf ρ a = some x → evE cf ρ b = some y → binD op x y = some d → C) : C := oE_inv (a := evE cf ρ a) (f := fun x => oE (evE cf ρ b) (binD op x)) h fun x hx h => oE_inv h fun y hy h => k x y hx hy h
theorem evi_cmp {op : CmpOp} (h : evE cf ρ (.cmp op a b) = some d) (k : ∀ x y, evE cf ρ a = some x → evE cf ρ b = some y → cmpD op x y = some d → C) : C := oE_inv (a := evE cf ρ a) (f := fun x => oE (evE cf ρ b) (cmpD op x)) h fun x hx h => oE_inv h fun y hy h => k x y hx hy h
theorem evi_sub (h : evE cf ρ (.sub a b) = some d) (k : ∀ x y, evE cf ρ a = some x → evE cf ρ b = some y → subD x y = some d → C) : C := oE_inv (a := evE cf ρ a) (f := fun x => oE (evE cf ρ b) (subD x)) h fun x hx h => oE_inv h fun y hy h => k x y hx hy h
theorem evi_not (h : evE cf ρ (.not a) = some d) (k : ∀ x t, evE cf ρ a = some x → truth x = some t → .bool (!t) = d → C) : C := oE_inv (a := evE cf ρ a) (f := fun x => (truth x).map fun t => D.bool (!t)) h fun x hx h => om_inv h fun t ht e => k x t hx ht e
theorem evi_neg (h : evE cf ρ (.neg a) = some d) (k : ∀ i, evE cf ρ a = some (.int i) → .int (-i) = d → C) : C := oE_inv (a := evE cf ρ a) (f := fun x => onI x fun i => some (D.int (-i))) h fun x hx h => onI_inv (C := fun x => evE cf ρ a = some x → C) h (fun i e hx => k i hx (Option.some.inj e)) hx
theorem evi_tup {es : List ME} (h : evE cf ρ (.tup es) = some d) (k : ∀ ds, evEs cf ρ es = some ds → ds.length ≤ big → .tup ds = d → C) : C := oEs_inv (a := evEs cf ρ es) (f := fun ds => if ds.length ≤ big then some (D.tup ds) else Option.none) h fun x hx h => if_inv h fun hl e => k x hx hl e
theorem evi_lst {es : List ME} (h : evE cf ρ (.lst es) = some d) (k : ∀ ds, evEs cf ρ es = some ds → ds.length ≤ big → .list ds = d → C) : C := oEs_inv (a := evEs cf ρ es) (f := fun ds => if ds.length ≤ big then some (D.list ds) else Option.none) h fun x hx h => if_inv h fun hl e => k x hx hl e
theorem evi_sl {l u : ME} (h : evE cf ρ (.sl a l u) = some d) (k : ∀ x y z, evE cf ρ a = some x → evE cf ρ l = some y → evE cf ρ u = some z → slD x y z = some d → C) : C := oE_inv (a := evE cf ρ a) (f := fun x => oE (evE cf ρ l) fun y => oE (evE cf ρ u) fun z => slD x y z) h fun x hx h => oE_inv h fun y hy h => oE_inv h fun z hz h => k x y z hx hy hz h
theorem evi_isi {T : String} (h : evE cf ρ (.isi a T) = some d) (k : ∀ x t, evE cf ρ a = some x → isiD x T = some t → .bool t = d → C) : C := oE_inv (a := evE cf ρ a) (f := fun x => (isiD x T).map D.bool) h fun x hx h => om_inv h fun t ht e => k x t hx ht e
theorem evi_lcp (h : evE cf ρ (.lcp a) = some d) (k : ∀ x ds, evE cf ρ a = some x → lstD x = some ds → .list ds = d → C) : C := oE_inv (a := evE cf ρ a) (f := fun x => (lstD x).map D.list) h fun x hx h => om_inv h fun t ht e => k x t hx ht e
theorem evi_rev (h : evE cf ρ (.rev a) = some d) (k : ∀ ds, evE cf ρ a = some (.list ds) → .list ds.reverse = d → C) : C := oE_inv (a := evE cf ρ a) (f := revD) h fun y hy h => onL_inv (C := fun y => evE cf ρ a = some y → C) h (fun x e hy => k x hy (Option.some.inj e)) hy
theorem evi_blt {f : String} {es : List ME} (h : evE cf ρ (.blt f es) = some d) (k : ∀ ds, evEs cf ρ es = some ds → bltD f ds = some d → C) : C := oEs_inv (a := evEs cf ρ es) (f := bltD f) h k
theorem evi_callF {f : String} {es : List ME} {r : D × Bool} (h : evF cf ρ (.call f es) = some r) (k : ∀ ds, evEs cf ρ es = some ds → cf.call f ds = some r → C) : C := oEs_inv (a := evEs cf ρ es) (f := cf.call f) h k
theorem evi_call {f : String} {es : List ME} (h : evE cf ρ (.call f es) = some d) (k : ∀ ds r, evEs cf ρ es = some ds → cf.call f ds = some r → r.1 = d → C) : C := oEs_inv (a := evEs cf ρ es) (f := fun ds => (cf.call f ds).map fun (r : D × Bool) => r.1) h fun x hx h => om_inv h fun r hr e => k x r hx hr e
theorem evi_cons {es : List ME} {ds : List D} (h : evEs cf ρ (a :: es) = some ds) (k : ∀ x xs, evE cf ρ a = some x → evEs cf ρ es = some xs → x :: xs = ds → C) : C := oE_inv (a := evE cf ρ a) (f := fun x => oEs (evEs cf ρ es) fun xs => some (x :: xs)) h fun x hx h => oEs_inv h fun y hy h => k x y hx hy (Option.some.inj h)
noncomputable def stopB (op : BoolOp) : Bool := match op with | .And => false | .Or => true
theorem evi_bop {op : BoolOp} {es : List ME} (h : evBop cf ρ op (a :: b :: es) = some d) (k : ∀ x t, evE cf ρ a = some x → truth x = some t → (if t = stopB op then some x else evBop cf ρ op (b :: es)) = some d → C) : C := oE_inv (a := evE cf ρ a) (f := fun x => oT (truth x) fun t => if t = stopB op then some x else evBop cf ρ op (b :: es)) h fun x hx h => oT_inv h fun y hy h => k x y hx hy h
theorem evi_cs {es : List ME} {t : Bool} (h : evCs cf ρ (a :: es) = some t) (k : ∀ x u, evE cf ρ a = some x → truth x = some u → (if u = true then evCs cf ρ es else some false) = some t → C) : C := oE_inv (a := evE cf ρ a) (f := fun x => oT (truth x) fun u => if u = true then evCs cf ρ es else some false) h fun x hx h => oT_inv h fun y hy h => k x y hx hy h
theorem evF_inv {fr : Bool} (h : evF cf ρ a = some (d, fr)) (h0 : isCallE a = none) (k : evE cf ρ a = some d → frF a d = fr → C) : C := by
  unfold evF at h
  rw [h0] at h
  exact om_inv h fun d' e q => k (e.trans (congrArg some (Prod.mk.inj q).1)) ((Prod.mk.inj q).1 ▸ (Prod.mk.inj q).2)

theorem se_var (x : String) : SE prog w A base cf (.var x) := fun s env e H ρ m d E hc c he =>
  IVar.rec (motive := fun e _ => wpAny (model prog w) A (eval e env) (Post w s H d) E s) (fun hv => (c.hn x (.head _) hv d he).elim fun v q => load_snd c.R hv q.1 ⟨Kp.refl _, q.2⟩) (inv_var hc)
theorem se_glob (G : GOk mg mb base) (C : CSound prog w base mg cf A) (x : String) : SE prog w A base cf (.glob x) := fun s env e H ρ m d E hc c he =>
  IGlob.rec (motive := fun e _ => wpAny (model prog w) A (eval e env) (Post w s H d) E s) (fun hg => (C.glob x d he).elim fun v q => Calls.Name_function_global c.R.kind (isGlob_of hg).1 (Calls.loadGlobal_global (mg := mg) (c.R.glob ▸ Ns.keepAt G.g (c.hw.keep _)) q.1 ⟨Kp.refl _, q.2.mono (fun a o _ e => c.hw.keep a o e) fun a o e q => absurd q (c.hw.off a o e)⟩) (by simpa using (isGlob_of hg).2)) (inv_glob hc)
theorem se_int (i : Int) : SE prog w A base cf (.int i) := fun s env e H ρ m d E hc c he =>
  IConst.rec (motive := fun e _ => wpAny (model prog w) A (eval e env) (Post w s H d) E s) (Option.some.inj he ▸ wpAny_Constant_int p_int) (inv_int hc)
theorem se_str (i : String) : SE prog w A base cf (.str i) := fun s env e H ρ m d E hc c he =>
  IConst.rec (motive := fun e _ => wpAny (model prog w) A (eval e env) (Post w s H d) E s) (Option.some.inj he ▸ Calls.Constant_str p_str) (inv_str hc)
theorem se_bool (i : Bool) : SE prog w A base cf (.bool i) := fun s env e H ρ m d E hc c he =>
  IConst.rec (motive := fun e _ => wpAny (model prog w) A (eval e env) (Post w s H d) E s) (Option.some.inj he ▸ PyProof.Rows.Constant_bool p_b0) (inv_bool hc)
theorem se_none : SE prog w A base cf .none := fun s env e H ρ m d E hc c he =>
  IConst.rec (motive := fun e _ => wpAny (model prog w) A (eval e env) (Post w s H d) E s) (Option.some.inj he ▸ PyProof.Rows.Constant_none ⟨Kp.refl _, rfl⟩) (inv_none hc)

noncomputable def ME.plain : ME → Bool
  | .not _ | .bop _ _ | .cmp _ _ _ => false
  | _ => true
noncomputable def ME.isComp (e : ME) : Bool := decide (e.ctorIdx = 16)
structure Looks (me : ME) (e : Expr) : Prop where
  star : ∀ es env, starEach (e :: es) env = (false, eval e env) :: starEach es env
  test : me.plain = true → ∀ env whole, isTrue e env whole = (do let v ← whole; standAt e.pos; holding [v] (truthy v))
  swap : me.isComp = false → ∀ t l env, swapsWith e t l env = pure false
theorem looks {k : KD} {e : Expr} {me : ME} (h : chkE k e me = true) : Looks me e := by
  cases me with
  | var => exact (inv_var h).rec fun _ => ⟨fun _ _ => rfl, fun _ _ _ => rfl, fun _ _ _ _ => rfl⟩
  | glob => exact (inv_glob h).rec fun _ => ⟨fun _ _ => rfl, fun _ _ _ => rfl, fun _ _ _ _ => rfl⟩
  | int => exact (inv_int h).rec ⟨fun _ _ => rfl, fun _ _ _ => rfl, fun _ _ _ _ => rfl⟩
  | str => exact (inv_str h).rec ⟨fun _ _ => rfl, fun _ _ _ => rfl, fun _ _ _ _ => rfl⟩
  | bool => exact (inv_bool h).rec ⟨fun _ _ => rfl, fun _ _ _ => rfl, fun _ _ _ _ => rfl⟩
  | none => exact (inv_none h).rec ⟨fun _ _ => rfl, fun _ _ _ => rfl, fun _ _ _ _ => rfl⟩
  | bin => exact (inv_bin h).rec fun _ _ => ⟨fun _ _ => rfl, fun _ _ _ => rfl, fun _ _ _ _ => rfl⟩
  | cmp => exact (inv_cmp h).rec fun _ _ _ => ⟨fun _ _ => rfl, nofun, fun _ _ _ _ => rfl⟩
  | bop => exact (inv_bop h).rec fun _ => ⟨fun _ _ => rfl, nofun, fun _ _ _ _ => rfl⟩
  | not => exact (inv_not h).rec fun _ => ⟨fun _ _ => rfl, nofun, fun _ _ _ _ => rfl⟩
  | neg => exact (inv_neg h).rec fun _ => ⟨fun _ _ => rfl, fun _ _ _ => rfl, fun _ _ _ _ => rfl⟩
  | tup => exact (inv_tup h).rec fun _ => ⟨fun _ _ => rfl, fun _ _ _ => rfl, fun _ _ _ _ => rfl⟩
  | lst => exact (inv_lst h).rec fun _ => ⟨fun _ _ => rfl, fun _ _ _ => rfl, fun _ _ _ _ => rfl⟩
  | dct => exact (inv_dct h).rec fun _ _ => ⟨fun _ _ => rfl, fun _ _ _ => rfl, fun _ _ _ _ => rfl⟩
  | sub => exact (inv_sub h).rec fun _ _ _ => ⟨fun _ _ => rfl, fun _ _ _ => rfl, fun _ _ _ _ => rfl⟩
  | sl => exact (inv_sl h).rec fun _ _ _ => ⟨fun _ _ => rfl, fun _ _ _ => rfl, fun _ _ _ _ => rfl⟩
  | comp => exact (inv_comp h).rec fun _ _ _ _ _ => ⟨fun _ _ => rfl, fun _ _ _ => rfl, nofun⟩
  | call => exact (inv_call h).rec fun _ _ => ⟨fun _ _ => rfl, fun _ _ _ => rfl, fun _ _ _ _ => rfl⟩
  | blt => exact (inv_blt h).rec fun _ _ => ⟨fun _ _ => rfl, fun _ _ _ => rfl, fun _ _ _ _ => rfl⟩
  | isi => exact (inv_isi h).rec fun _ _ _ => ⟨fun _ _ => rfl, fun _ _ _ => rfl, fun _ _ _ _ => rfl⟩
  | lcp => exact (inv_lcp h).rec fun _ _ => ⟨fun _ _ => rfl, fun _ _ _ => rfl, fun _ _ _ _ => rfl⟩
  | rev => exact (inv_rev h).rec fun _ _ => ⟨fun _ _ => rfl, fun _ _ _ => rfl, fun _ _ _ _ => rfl⟩
theorem chks_inv {k : KD} {es : List Expr} {ms : List ME} {C : List Expr → Prop} (h : chkEs k es (a :: ms) = true) (c : ∀ e es, chkE k e a = true → chkEs k es ms = true → C (e :: es)) : C es := by
  cases es with
  | nil => cases h
  | cons e es => exact and2 h (c e es)
theorem chks_nil {k : KD} {es : List Expr} {C : List Expr → Prop} (h : chkEs k es [] = true) (c : C []) : C es := nilb h c
theorem star_cons {k : KD} {e : Expr} {a : ME} (h : chkE k e a = true) {es : List Expr} {env : Env} : starEach (e :: es) env = (false, eval e env) :: starEach es env := (looks h).star es env
theorem spliced_ok {es : List Expr} {ms : List ME} {k : KD} (hc : chkEs k es ms = true) (env : Env) : starEach es env = es.map fun e => (false, eval e env) := by
  induction ms generalizing es with
  | nil => exact chks_nil (C := fun es => starEach es env = es.map fun e => (false, eval e env)) hc rfl
  | cons a r ih => exact chks_inv (C := fun es => starEach es env = es.map fun e => (false, eval e env)) hc fun e es h1 h2 => (star_cons h1).trans (congrArg _ (ih h2))
theorem backTo_ok (pos : Pos) (es : List Expr) (env : Env) : backTo pos (es.map fun e => (false, eval e env)) = es.map fun e => (false, eval e env) := List.map_map

theorem sf_bin {op : Operator} (ha : SE prog w A base cf a) (hb : SE prog w A base cf b) : SF prog w A base cf (.bin op a b) := fun s env e H ρ m d fr E hc c he =>
  evF_inv he rfl fun he hf => evi_bin he fun x y hx hy hd => IBin.rec (motive := fun e _ => wpAny (model prog w) A (eval e env) (PostF w s H d fr) E s) (fun h1 h2 => wpAny_BinOp (ha.go h1 c.l hx fun v s₁ q₁ => hb.go h2 (c.r.k q₁.k) hy fun v₂ s₂ q₂ =>
    have k := Kp.trans q₁.k q₂.k
    wp_m (bin_snd (q₁.r.keeps (Kp.heap q₂.k)) q₂.r (c.k k).x hd) fun v₃ s₃ q₃ => hf ▸ q₃.tr k)) (inv_bin hc)
theorem se_cmp {op : CmpOp} (hu : A.units + 2 < cLine) (ha : SE prog w A base cf a) (hb : SE prog w A base cf b) : SE prog w A base cf (.cmp op a b) := fun s env e H ρ m d E hc c he =>
  evi_cmp he fun x y hx hy hd => ICmp.rec (motive := fun e _ => wpAny (model prog w) A (eval e env) (Post w s H d) E s) (fun hs h1 h2 => wpAny_Compare1 (ha.go h1 c.l hx fun v s₁ q₁ => hb.go h2 (c.r.k q₁.k) hy fun v₂ s₂ q₂ =>
    wp_m (cmp_snd (q₁.r.keeps (Kp.heap q₂.k)) q₂.r hu hd) fun v₃ s₃ q₃ => q₃.tr (Kp.trans q₁.k q₂.k)) (notSet_marks hs)) (inv_cmp hc)
theorem st_cmp {op : CmpOp} (hu : A.units + 2 < cLine) (ha : SE prog w A base cf a) (hb : SE prog w A base cf b) : ST prog w A base cf (.cmp op a b) := fun s env e H ρ m d t E hc c he ht =>
  evi_cmp he fun x y hx hy hd => ICmp.rec (motive := fun e _ => wpAny (model prog w) A (isTrue e env (eval e env)) (PostB s t) E s) (fun hs h1 h2 => wpAny_isTrue_Compare1 (ha.go h1 c.l hx fun v s₁ q₁ => hb.go h2 (c.r.k q₁.k) hy fun v₂ s₂ q₂ =>
    wp_m (cmp_snd (q₁.r.keeps (Kp.heap q₂.k)) q₂.r hu hd) fun v₃ s₃ q₃ => wp_m (truth_snd q₃.r ht) fun v₄ s₄ q₄ => q₄.tr (Kp.trans (Kp.trans q₁.k q₂.k) q₃.k)) (notSet_marks hs)) (inv_cmp hc)
theorem se_not (ha : SE prog w A base cf a) : SE prog w A base cf (.not a) := fun s env e H ρ m d E hc c he =>
  evi_not he fun x t hx ht hd => IUn.rec (motive := fun e _ => wpAny (model prog w) A (eval e env) (Post w s H d) E s) (fun h => PyProof.Rows.UnaryOp_ (ha.go h c hx fun v s₁ q₁ => PyProof.Rows.not_of (wp_m (truth_snd q₁.r ht) fun b s₂ q₂ => ⟨Kp.trans q₁.k q₂.k, hd ▸ q₂.e ▸ rfl⟩))) (inv_not hc)
theorem st_not (ha : ST prog w A base cf a) : ST prog w A base cf (.not a) := fun s env e H ρ m d t E hc c he ht =>
  evi_not he fun x t' hx ht' hd => IUn.rec (motive := fun e _ => wpAny (model prog w) A (isTrue e env (eval e env)) (PostB s t) E s) (fun h => PyProof.Rows.isTrue_not (wp_m (ha s env _ H ρ m x t' E h c hx ht') fun b s₂ q₂ => ⟨q₂.k, (congrArg _ q₂.e).trans (Option.some.inj ((congrArg truth hd).trans ht))⟩)) (inv_not hc)
theorem se_neg (ha : SE prog w A base cf a) : SE prog w A base cf (.neg a) := fun s env e H ρ m d E hc c he =>
  evi_neg he fun i hx hd => IUn.rec (motive := fun e _ => wpAny (model prog w) A (eval e env) (Post w s H d) E s) (fun h => PyProof.Rows.UnaryOp_ (ha.go h c hx fun v s₁ q₁ => q₁.r.intE fun _ => PyProof.Rows.neg_int (hd ▸ p_int.tr q₁.k))) (inv_neg hc)
theorem ses_nil : SEs prog w A base cf [] := fun s env es H ρ m ds E hc c he =>
  chks_nil (C := fun es => wpAny (model prog w) A (spliced (es.map fun e => (false, eval e env))) (PostA w s H ds) E s) hc (Calls.spliced_nil ⟨Kp.refl _, Option.some.inj he ▸ rfl⟩)
theorem ses_cons {r : List ME} (ha : SE prog w A base cf a) (hr : SEs prog w A base cf r) : SEs prog w A base cf (a :: r) := fun s env es H ρ m ds E hc c he =>
  evi_cons he fun x xs hx hxs e => chks_inv (C := fun es => wpAny (model prog w) A (spliced (es.map fun e => (false, eval e env))) (PostA w s H ds) E s) hc fun e₁ es₁ h1 h2 => Calls.spliced_cons (ha.go h1 c.l hx fun v s₁ q₁ => wp_m (hr s₁ env es₁ H ρ m xs E h2 (c.r.k q₁.k) hxs) fun vs s₂ q₂ => q₂.rec fun k r => ⟨Kp.trans q₁.k k, e ▸ .cons (q₁.r.keeps (Kp.heap k)) r⟩)
theorem se_tup {ms : List ME} (hr : SEs prog w A base cf ms) : SE prog w A base cf (.tup ms) := fun s env e H ρ m d E hc c he =>
  evi_tup he fun ds hds hl hd => ITup.rec (motive := fun e _ => wpAny (model prog w) A (eval e env) (Post w s H d) E s) (fun {vs n p} h => PyProof.Rows.Tuple_ (by
    rw [spliced_ok h, backTo_ok]
    exact wp_m (hr s env _ H ρ m ds E h c hds) fun vs s₁ q₁ => q₁.rec fun k r => wpAny_newObj_type ⟨Kp.trans k (Kp.push _ _), hd ▸ rep_newTup (c.k k).x hl r⟩ (show vs.toArray.size ≤ sizeLine from Nat.le_trans (Nat.le_of_eq (List.size_toArray.trans r.length)) hl))) (inv_tup hc)
theorem sf_lst {ms : List ME} (hr : SEs prog w A base cf ms) : SF prog w A base cf (.lst ms) := fun s env e H ρ m d fr E hc c he =>
  evF_inv he rfl fun he hf => evi_lst he fun ds hds hl hd => ILst.rec (motive := fun e _ => wpAny (model prog w) A (eval e env) (PostF w s H d fr) E s) (fun {vs p} h => PyProof.Rows.List_ (by
    rw [spliced_ok h, backTo_ok]
    exact wp_m (hr s env _ H ρ m ds E h c hds) fun vs s₁ q₁ => q₁.rec fun k r => wpAny_newObj_type (hd ▸ hf ▸ (pf_list (vs := vs.toArray) (c.k k).x hl r (fun _ _ e => Heap.gt_push_of_some _ e) (Heap.get?_push_size _ rfl)).tr k) (show vs.toArray.size ≤ sizeLine from Nat.le_trans (Nat.le_of_eq (List.size_toArray.trans r.length)) hl))) (inv_lst hc)
end
end Mine
namespace Mine
open PySem PySem.SeqAt

section
variable {prog : Program} {w : World} {A : Around} {s : Shared} {base : Heap} {mg mb : Str → Option Value} {cf : CF} {H : Addr → Prop} {E : Value → Shared → Prop} {a b : ME} {d : D}

theorem se_of_sf {me : ME} (h : SF prog w A base cf me) (hf : ∀ ρ d, evE cf ρ me = some d → ∃ fr, evF cf ρ me = some (d, fr)) : SE prog w A base cf me := fun s env e H ρ m d E hc c he =>
  (hf ρ d he).elim fun fr hfr => wp_m (h s env e H ρ m d fr E hc c hfr) fun _ _ q => q.post
theorem subscripted_plain {sl : Expr} {o i : Value} (h : ∀ a b c d, sl = .Slice a b c d → False) : subscripted sl false o i = operate [o, i] (getItem o i) := by
  cases sl with
  | Slice a b c d => exact (h a b c d rfl).elim
  | _ => rfl
theorem se_sub (hu : A.units + 1 < cLine) (ha : SE prog w A base cf a) (hb : SE prog w A base cf b) : SE prog w A base cf (.sub a b) := fun s env e H ρ m d E hc c he =>
  evi_sub he fun x y hx hy hd => ISub.rec (motive := fun e _ => wpAny (model prog w) A (eval e env) (Post w s H d) E s) (fun hns h1 h2 => PyProof.Rows.Subscript_ (ha.go h1 c.l hx fun v s₁ q₁ => hb.go h2 (c.r.k q₁.k) hy fun v₂ s₂ q₂ =>
    have g := getItem_snd hu (prog := prog) (w := w) (A := A) (E := E) (q₁.r.keeps (Kp.heap q₂.k)) q₂.r hd
    g.2.elim fun T q => q.elim fun id q => PyProof.Rows.tail_any q.1 q.2 (wp_m g.1 fun v₃ s₃ q₃ => q₃.tr (Kp.trans q₁.k q₂.k)) (subscripted_plain hns))) (inv_sub hc)

theorem part_snd (ha : SE prog w A base cf a) {s : Shared} {env : Env} {l : Option Expr} {H : Addr → Prop} {ρ : List (String × D)} {m : Str → Option Value} {d : D} {Q : Value → Shared → Prop}
    (hc : chkO env.kindOf l a = true) (c : Cc w base s env H ρ m a.names) (he : evE cf ρ a = some d) (k : ∀ v s₁, Post w s H d v s₁ → Q v s₁) : wpAny (model prog w) A (evalPart l env) Q E s := by
  cases l with
  | none => exact wpAny_pure (k _ _ ⟨Kp.refl _, isNone_inv (C := fun a => evE cf ρ a = some d → Rep w.params s.heap H .none d) hc (fun he => Option.some.inj he ▸ rfl) he⟩)
  | some x => exact ha.go hc c he k
theorem take_clip {α : Type} (l : List α) (a b : Nat) : (l.drop (min a l.length)).take (min b l.length - min a l.length) = (l.take b).drop a := by
  rw [List.drop_take]
  by_cases ha : a ≤ l.length
  · rw [Nat.min_eq_left ha]
    by_cases hb : b ≤ l.length
    · rw [Nat.min_eq_left hb]
    · have hb := Nat.le_of_not_le hb
      rw [Nat.min_eq_right hb, List.take_of_length_le (Nat.le_of_eq List.length_drop), List.take_of_length_le (by rw [List.length_drop]; exact Nat.sub_le_sub_right hb a)]
  · have ha := Nat.le_of_not_le ha
    rw [Nat.min_eq_right ha, List.drop_of_length_le (Nat.le_refl _), List.drop_of_length_le ha, List.take_nil, List.take_nil]
structure PartAt (v : Value) (n dflt : Nat) (k : Option Int) : Prop where
  p : IsPart v k
  e : (k = none ∧ n = dflt) ∨ k = some (n : Int)
theorem part_nat {P : Params} {h : Heap} {v : Value} {x : D} {n : Nat} (dflt : Nat) (rv : Rep P h H v x) (hv : bnd x dflt = some n) : ∃ k, PartAt v n dflt k := by
  cases x with
  | none => exact rv.noneE ⟨none, .none, .inl ⟨rfl, (Option.some.inj hv).symm⟩⟩
  | int i => exact rv.intE fun t => if_inv hv fun hi e => ⟨some i, .int _ _, .inr (by rw [← e, Int.toNat_of_nonneg hi])⟩
  | _ => exact fin_none hv
theorem PartAt.clip {v : Value} {n dflt k : Nat} {o : Option Int} (h : PartAt v k dflt o) (hd : dflt ≤ n) : o.elim dflt (clipAt n) = min k n := h.e.elim (fun q => by rw [q.1, q.2, Nat.min_eq_left hd]; rfl) fun q => by rw [q]; exact clipAt_nat n k
theorem sl_list {x : Value} {ds : List D} {vl vu : Value} {lo hi : D} (hH : Ex s.heap H) (rx : Rep w.params s.heap H x (.list ds)) (rl : Rep w.params s.heap H vl lo) (ru : Rep w.params s.heap H vu hi) (he : slD (.list ds) lo hi = some d) {a : Addr}
    (ho : s.heap.get? a = some { cls := .type "slice", data := .fields #[vl, vu, .none] }) : wpAny (model prog w) A (getItem x (.ref a)) (PostF w s H d d.isList) E s :=
  ob_inv he fun a' h1 he => om_inv he fun b' h2 e => e ▸ rx.listE fun l vs n hx hno hle hr => (part_nat 0 rl h1).elim fun ka pa => (part_nat vs.size ru (hr.size.symm ▸ h2)).elim fun kb pb =>
    wpAny_getItem_list_slice (isList_of hx) ⟨_, ho, rfl, rfl⟩ pa.p pb.p .none nofun (pf_list hH (by rw [List.length_drop, List.length_take]; exact Nat.le_trans (Nat.sub_le _ _) (Nat.le_trans (Nat.min_le_right _ _) hle)) (by
      rw [slicePick_plain, pa.clip (Nat.zero_le _), pb.clip (Nat.le_refl _)]
      exact (take_clip vs.toList a' b').symm ▸ (hr.take b').drop a') (fun _ _ e => Heap.gt_push_of_some _ e) (Heap.get?_push_size _ rfl)) (hr.size.symm ▸ hle)
theorem part_str {P : Params} {h : Heap} {v : Value} {d : D} {a : Option Int} (r : Rep P h H v d) (ha : bndS d = some a) : ∃ l : Option (Int × Tok), v = partValue l ∧ l.map (·.1) = a := by
  cases d with
  | none => exact r.noneE ⟨none, rfl, Option.some.inj ha⟩
  | int i => exact r.intE fun t => ⟨some (i, t), rfl, Option.some.inj ha⟩
  | _ => exact fin_none ha
theorem sl_str {x : Str} {t : Tok} {vl vu : Value} {lo hi : D} (rl : Rep w.params s.heap H vl lo) (ru : Rep w.params s.heap H vu hi) (he : slD (.str x) lo hi = some d) {a : Addr}
    (ho : s.heap.get? a = some { cls := .type "slice", data := .fields #[vl, vu, .none] }) : wpAny (model prog w) A (getItem (.str x t) (.ref a)) (PostF w s H d d.isList) E s :=
  if_inv' he fun hsz he => ob_inv he fun a' h1 he => om_inv he fun b' h2 e => (part_str rl h1).elim fun l ql => (part_str ru h2).elim fun u qu => by
    obtain ⟨rfl, rfl⟩ := ql
    obtain ⟨rfl, rfl⟩ := qu
    exact e ▸ wpAny_getItem_str_slice (st := none) ⟨_, ho, rfl, rfl⟩ rfl (post_val_or_str ⟨Nat.le_trans (Txt.slice_le _ _ _) hsz, fun t' k => p_str.pf rfl⟩)
theorem slicePart_snd {v : Value} {k : Option Int} {Q : Option Int → Shared → Prop} (hp : IsPart v k) (h : Q k s) : wpAny (model prog w) A (Builtin.Slice.slicePartIndex v) Q E s := by
  cases hp with
  | none => exact PyProof.Rows.slicePart_none h
  | int i t => exact PyProof.Rows.slicePart_int h
theorem adjust_nat {vl vu : Value} {ka kb : Option Int} {a b n : Nat} (ha : PartAt vl a 0 ka) (hb : PartAt vu b n kb) : Builtin.Slice.sliceAdjust ka kb 1 (n : Int) = (((min a n : Nat) : Int), ((min b n : Nat) : Int)) := by
  unfold Builtin.Slice.sliceAdjust
  have h1 : ¬ ((1 : Int) < 0) := by decide
  simp only [h1, if_false]
  congr 1
  · rcases ha.e with ⟨rfl, rfl⟩ | rfl
    · show (0 : Int) = _; exact om44
    · show (if (a : Int) < 0 then _ else _) = _
      rw [if_neg (om45)]; exact om46
  · rcases hb.e with ⟨rfl, rfl⟩ | rfl
    · show (b : Int) = _; exact om47
    · show (if (b : Int) < 0 then _ else _) = _
      rw [if_neg (om45)]; exact om46
theorem places_nat (a b : Nat) : Builtin.Slice.slicePlaces (a : Int) (b : Int) 1 = b - a := by
  unfold Builtin.Slice.slicePlaces
  have h1 : (1 : Int) > 0 := by decide
  simp only [h1, if_true, Int.ediv_one]
  split
  · rw [Int.sub_add_cancel]; exact Int.toNat_sub b a
  · next h => exact (Nat.sub_eq_zero_of_le (Int.ofNat_le.mp (Int.not_lt.mp h))).symm
theorem pick_nat (xs : Array Value) (a k : Nat) : ((List.range k).filterMap fun (j : Nat) => xs[((a : Int) + (j : Int) * 1).toNat]?) = (xs.toList.drop a).take k := by
  have e : (fun (j : Nat) => xs[((a : Int) + (j : Int) * 1).toNat]?) = fun j => xs[a + j]? := by
    funext j
    have : ((a : Int) + (j : Int) * 1).toNat = a + j := by exact om48
    rw [this]
  rw [e]
  have := pick_run xs a k
  rw [List.filterMap_map] at this
  exact this
theorem sliceApplied_nat {sl : Addr} {vl vu : Value} {ka kb : Option Int} {a b n : Nat} {Q : Int × Int × Nat → Shared → Prop} (hs : s.heap.get? sl = some { cls := .type "slice", data := .fields #[vl, vu, .none] }) (pa : PartAt vl a 0 ka) (pb : PartAt vu b n kb) (h : Q (((min a n : Nat) : Int), 1, min b n - min a n) s) : wpAny (model prog w) A (Builtin.Slice.sliceApplied (.ref sl) (pure (n : Int))) Q E s := by
  unfold Builtin.Slice.sliceApplied Builtin.Slice.sliceFields
  refine wpAny_bind (wpAny_bind (wpAny_field hs rfl (x := vl) rfl (wpAny_bind (wpAny_field hs rfl (x := vu) rfl (wpAny_bind (wpAny_field hs rfl (x := .none) rfl (wpAny_pure ?_)))))))
  refine wpAny_bind (PyProof.Rows.slicePart_none ?_)
  show wpAny _ _ (if ((1 : Int) == 0) = true then _ else _) _ _ s
  rw [if_neg (by decide)]
  refine wpAny_bind (slicePart_snd pa.p (wpAny_bind (slicePart_snd pb.p (wpAny_bind (wpAny_pure ?_)))))
  show wpAny _ _ (match Builtin.Slice.sliceAdjust ka kb 1 (n : Int) with | (lo, hi) => pure (lo, (1 : Int), Builtin.Slice.slicePlaces lo hi 1)) _ _ s
  rw [adjust_nat pa pb]
  show wpAny _ _ (pure (((min a n : Nat) : Int), (1 : Int), Builtin.Slice.slicePlaces ((min a n : Nat) : Int) ((min b n : Nat) : Int) 1)) _ _ s
  rw [places_nat]
  exact wpAny_pure h
theorem sl_tup {x : Value} {ds : List D} {vl vu : Value} {lo hi : D} (hH : Ex s.heap H) (rx : Rep w.params s.heap H x (.tup ds)) (rl : Rep w.params s.heap H vl lo) (ru : Rep w.params s.heap H vu hi) (he : slD (.tup ds) lo hi = some d) {sl : Addr}
    (ho : s.heap.get? sl = some { cls := .type "slice", data := .fields #[vl, vu, .none] }) : wpAny (model prog w) A (getItem x (.ref sl)) (PostF w s H d d.isList) E s := by
  refine ob_inv he fun a h1 he => om_inv he fun b h2 e => e ▸ rx.tupE fun t items n hx hno hle hr => (part_nat 0 rl h1).elim fun ka pa => (part_nat items.size ru (hr.size.symm ▸ h2)).elim fun kb pb => ?_
  have ht := isTup_of hx
  have hlen : ((ds.take b).drop a).length ≤ big := by rw [List.length_drop, List.length_take]; exact Nat.le_trans (Nat.sub_le _ _) (Nat.le_trans (Nat.min_le_right _ _) hle)
  have hclip : RepAll w.params s.heap H ((items.toList.drop (min a items.size)).take (min b items.size - min a items.size)) ((ds.take b).drop a) := (take_clip items.toList a b).symm ▸ (hr.take b).drop a
  unfold getItem
  try with_reducible refine wpAny_holding ?_
  first | refine wpAny_bind (wpAny_pure ?_) | skip
  refine wpAny_bind (wpAny_sequenceKey ht.typeIs (by decide) ?_)
  refine wpAny_bind (wpAny_callSpecial?_slot (name := Str.ofString "__getitem__") ht.typeIs PyProof.Rows.slot_tuple_getitem
    (wpAny_call_entry PyProof.Rows.slot_tuple_getitem ht.typeIs PyProof.Rows.entry_tuple_getitem ?_ (PyProof.Rows.args_tuple_getitem _ _)))
  show wpAny _ _ (Builtin.Tuple.tupleItemsOf (.ref t) >>= _) _ _ s
  refine wpAny_bind (PyProof.Rows.tupleItemsOf_ ht (wpAny_bind (wpAny_typeOf (show s.TypeIs (.ref sl) "slice" from ⟨_, ho, rfl⟩) ?_)))
  rw [if_pos (by decide)]
  refine wpAny_bind (sliceApplied_nat ho pa pb ?_)
  show wpAny _ _ (if (((min a items.size : Nat) : Int) == 0 && (1 : Int) == 1 && (min b items.size - min a items.size) == items.size) = true then _ else _) _ _ s
  split
  · rename_i hc
    refine and3 hc fun c1 _ c2 => ?_
    have e0 : min a items.size = 0 := Int.ofNat.inj (eq_of_beq c1)
    have e2 := eq_of_beq c2
    rw [e0, Nat.sub_zero] at e2
    rw [e0, Nat.sub_zero, e2, List.drop_zero, List.take_of_length_le (Nat.le_of_eq Array.length_toList)] at hclip
    refine wpAny_bind (m := Builtin.Tuple.tupleIsExact _) (wpAny_bind (wpAny_typeOf ht.typeIs (wpAny_pure ?_)))
    rw [if_pos (by decide)]
    exact wpAny_bind (wpAny_rule (wpAny_pure ⟨_, rfl, wpAny_pure ⟨Kp.refl _, .mk hx hno hlen hclip, nofun⟩⟩))
  · rw [pick_nat]
    exact wpAny_bind (m := Builtin.Tuple.tupleExact _) (wpAny_newObj_type (wpAny_pure ⟨_, rfl, wpAny_pure ⟨Kp.push _ _, rep_newTup hH hlen hclip, nofun⟩⟩) (show ((items.toList.drop (min a items.size)).take (min b items.size - min a items.size)).toArray.size ≤ sizeLine from Nat.le_trans (Nat.le_of_eq (List.size_toArray.trans hclip.length)) (Nat.le_trans hlen (by decide))))
theorem rv_list {x : Value} {ds : List D} {t : Tok} (hH : Ex s.heap H) (rx : Rep w.params s.heap H x (.list ds)) {a : Addr}
    (ho : s.heap.get? a = some { cls := .type "slice", data := .fields #[.none, .none, .int (-1) t] }) : wpAny (model prog w) A (getItem x (.ref a)) (PostF w s H (.list ds.reverse) true) E s ∧ HasGet s x :=
  ⟨rx.listE fun l vs n hx hno hle hr => wpAny_getItem_list_slice (isList_of hx) ⟨_, ho, rfl, rfl⟩ .none .none (.int (-1) t) (by decide) (pf_list hH (by rw [List.length_reverse]; exact hle) (by
      rw [PySem.W.krv_pick]
      exact hr.reverse) (fun _ _ e => Heap.gt_push_of_some _ e) (Heap.get?_push_size _ rfl)) (hr.size.symm ▸ hle), rx.listE fun _ _ _ hx _ _ _ => ⟨"list", _, (isList_of hx).typeIs, F.slot_list_getitem.lookup⟩⟩
theorem sf_rev (ha : SE prog w A base cf a) : SF prog w A base cf (.rev a) := fun s env e H ρ m d fr E hc c he =>
  evF_inv he rfl fun he hf => evi_rev he fun ds hx hd => IRev.rec (motive := fun e _ => wpAny (model prog w) A (eval e env) (PostF w s H d fr) E s) (fun h1 h2 => PyProof.Rows.Subscript_ (ha.go h1 c hx fun v s₁ q₁ => wpAny_Slice (wpAny_pure (wpAny_pure (
    (se_neg (cf := cf) (se_int 1)).go h2 ((c.k q₁.k).sub fun _ h => nomatch h) rfl fun vs s₃ q₃ => by
      have kp := Kp.push s₃ { cls := .type "slice", data := .fields #[.none, .none, vs] }
      have k3 := Kp.trans (Kp.trans q₁.k q₃.k) kp
      obtain ⟨t, rfl⟩ : ∃ t, vs = .int (-1) t := q₃.r.intE (C := fun v => ∃ t, v = .int (-1) t) fun t => ⟨t, rfl⟩
      have g := rv_list (prog := prog) (A := A) (E := E) (s := { s₃ with heap := s₃.heap.push { cls := .type "slice", data := .fields #[.none, .none, .int (-1) t] } }) (c.k k3).x (q₁.r.keeps (Kp.heap (Kp.trans q₃.k kp))) (Heap.get?_push_size s₃.heap rfl)
      exact g.2.elim fun T q => q.elim fun id q => PyProof.Rows.tail_any (ops := [_, _]) q.1 q.2 (wp_m g.1 fun _ _ q => hd ▸ hf ▸ q.tr k3) rfl))))) (inv_rev hc)
theorem slice_snd {v : Value} {x : D} {vl vu : Value} {lo hi : D} (hH : Ex s.heap H) (rx : Rep w.params s.heap H v x) (rl : Rep w.params s.heap H vl lo) (ru : Rep w.params s.heap H vu hi) (he : slD x lo hi = some d) {a : Addr}
    (ho : s.heap.get? a = some { cls := .type "slice", data := .fields #[vl, vu, .none] }) : wpAny (model prog w) A (getItem v (.ref a)) (PostF w s H d d.isList) E s ∧ HasGet s v := by
  cases x with
  | str x => exact rx.strE fun t => ⟨sl_str rl ru he ho, "str", _, typeIs_str _ _ _, F.slot_str_getitem.lookup⟩
  | tup ds => exact ⟨sl_tup hH rx rl ru he ho, rx.tupE fun _ _ _ hx _ _ _ => ⟨"tuple", _, (isTup_of hx).typeIs, F.slot_tuple_getitem.lookup⟩⟩
  | list ds => exact ⟨sl_list hH rx rl ru he ho, rx.listE fun _ _ _ hx _ _ _ => ⟨"list", _, (isList_of hx).typeIs, F.slot_list_getitem.lookup⟩⟩
  | _ => exact fin_none he
theorem sf_sl {lo hi : ME} (ha : SE prog w A base cf a) (hl : SE prog w A base cf lo) (hh : SE prog w A base cf hi) : SF prog w A base cf (.sl a lo hi) := fun s env e H ρ m d fr E hc c he =>
  evF_inv he rfl fun he hf => evi_sl he fun x y z hx hy hz hd => ISl.rec (motive := fun e _ => wpAny (model prog w) A (eval e env) (PostF w s H d fr) E s) (fun h1 h2 h3 => PyProof.Rows.Subscript_ (ha.go h1 c.l.l hx fun v s₁ q₁ => wpAny_Slice (part_snd hl h2 (c.l.r.k q₁.k) hy fun vl s₂ q₂ =>
    have k2 := Kp.trans q₁.k q₂.k
    part_snd hh h3 (c.r.k k2) hz fun vu s₃ q₃ => wpAny_pure (
      have kp := Kp.push s₃ { cls := .type "slice", data := .fields #[vl, vu, .none] }
      have k3 := Kp.trans (Kp.trans k2 q₃.k) kp
      have g := slice_snd (prog := prog) (A := A) (E := E) (s := { s₃ with heap := s₃.heap.push { cls := .type "slice", data := .fields #[vl, vu, .none] } }) (c.k k3).x (q₁.r.keeps (Kp.heap (Kp.trans (Kp.trans q₂.k q₃.k) kp))) (q₂.r.keeps (Kp.heap (Kp.trans q₃.k kp))) (q₃.r.keeps (Kp.heap kp)) hd (Heap.get?_push_size s₃.heap rfl)
      g.2.elim fun T q => q.elim fun id q => PyProof.Rows.tail_any (ops := [_, _]) q.1 q.2 (wp_m g.1 fun _ _ q => hf ▸ q.tr k3) rfl)))) (inv_sl hc)
end
end Mine
namespace Mine
open PySem PySem.SeqAt

section
variable {prog : Program} {w : World} {A : Around} {s : Shared} {base : Heap} {mg mb : Str → Option Value} {cf : CF}

theorem evalArgs_snd {f : Value} {es : List Expr} {ms : List ME} {env : Env} {pos : Pos} {Q : Args → Shared → Prop} {E : Value → Shared → Prop} (hc : chkEs env.kindOf es ms = true)
    (h : wpAny (model prog w) A (spliced (es.map fun e => (false, eval e env))) (fun vs s' => Q ⟨vs, []⟩ s') E s) :
    wpAny (model prog w) A (evalArgs f true (backTo pos (starEach es env)) []) Q E s := by
  rw [spliced_ok hc, backTo_ok]
  cases es with
  | nil =>
    unfold evalArgs
    show wpAny _ A (spliced [] >>= _) Q E s
    exact wpAny_bind (wp_m h fun vs s' h' => wpAny_bind (wpAny_pure (wpAny_holding (wpAny_bind (wpAny_pure (wpAny_bind (wpAny_pure (wpAny_pure h'))))))))
  | cons e es => exact Calls.evalArgs_plain h

theorem any_false (es : List Expr) (env : Env) : ((es.map fun e => (false, eval e env)).any (·.1)) = false := by
  induction es with
  | nil => rfl
  | cons _ _ ih => simpa using ih

theorem sf_call (G : GOk mg mb base) (C : CS0 prog w base mg cf A) {f : String} {ms : List ME} (hr : SEs prog w A base cf ms) : SF prog w A base cf (.call f ms) := fun s env e H ρ m d fr E hc c he =>
  evi_callF he fun ds hds hcl => ICall.rec (motive := fun e _ => wpAny (model prog w) A (eval e env) (PostF w s H d fr) E s) (fun {gp as pos} hg h => (C f ds d fr hcl).elim fun a q => q.elim fun o q => q.elim fun fd q =>
    PyProof.Rows.Call_Name rfl (Calls.Name_function_global c.R.kind (isGlob_of hg).1 (Calls.loadGlobal_global (mg := mg) (c.R.glob ▸ Ns.keepAt G.g (c.hw.keep _)) q.1 (Calls.callWith_function (o := o) (fd := fd) (evalArgs_snd h (
      wp_m (hr s env as H ρ m ds E h c hds) fun vs s₁ q₁ => q₁.rec fun k r => ⟨⟨Heap.of_gt ((c.k k).hw.keep _ _ q.2.1) (notTab_of (by rw [q.2.2.1]; nofun)), q.2.2.1⟩, wp_m (q.2.2.2 s₁ H vs E (c.k k).hw r) fun v s₂ q₂ => q₂.tr k⟩)))) (by simpa using (isGlob_of hg).2))) (inv_call hc)

theorem name_blt (G : GOk mg mb base) {env : Env} {m : Str → Option Value} {H : Addr → Prop} {f : String} {p : Pos} {E : Value → Shared → Prop} {Q : Value → Shared → Prop} (hf : f ∈ bltNames) (R : EnvRep s.heap env m) (hw : HOk base s.heap H)
    (hg : isGlob env.kindOf (Str.ofString f) = true) (h : Q (bltVal f) s) : wpAny (model prog w) A (eval (.Name (Str.ofString f) p) env) Q E s :=
  Calls.Name_function_global R.kind (isGlob_of hg).1 (Calls.loadGlobal_builtin (mg := mg) (mb := mb) (R.glob ▸ Ns.keepAt G.g (hw.keep _)) (G.blt f hf).1 (R.blt ▸ Ns.keepAt G.b (hw.keep _)) (G.blt f hf).2 h) (by simpa using (isGlob_of hg).2)
theorem bltVal_is (f : String) : (∃ id, bltVal f = .builtin id) ∨ ∃ T, bltVal f = .type T := by
  unfold bltVal
  cases bltFns.contains f with
  | true => exact .inl ⟨_, rfl⟩
  | false => exact .inr ⟨_, rfl⟩
theorem callWith_blt {f : String} {pos : Pos} {es : List Expr} {ms : List ME} {env : Env} {Q : Value → Shared → Prop} {E : Value → Shared → Prop} (hc : chkEs env.kindOf es ms = true)
    (h : wpAny (model prog w) A (spliced (es.map fun e => (false, eval e env))) (fun vs s' => wpAny (model prog w) A (call (bltVal f) vs) Q E s') E s) :
    wpAny (model prog w) A (callWith pos (bltVal f) [] (backTo pos (starEach es env)) []) Q E s := by
  have hp : (backTo pos (starEach es env)).any (·.1) = false := by rw [spliced_ok hc, backTo_ok]; exact any_false _ _
  rcases bltVal_is f with ⟨id, e⟩ | ⟨T, e⟩
  · rw [e] at h ⊢; exact Calls.callWith_builtin hp (evalArgs_snd hc h)
  · rw [e] at h ⊢; exact PyProof.Rows.callWith_type hp (evalArgs_snd hc h)
theorem se_blt (G : GOk mg mb base) (hh : A.handled = none) {f : String} {ms : List ME} (hf : f ∈ bltNames) (hr : SEs prog w A base cf ms) : SE prog w A base cf (.blt f ms) := fun s env e H ρ m d E hc c he =>
  evi_blt he fun ds hds hd => ICall.rec (motive := fun e _ => wpAny (model prog w) A (eval e env) (Post w s H d) E s) (fun {gp as pos} hg h => PyProof.Rows.Call_Name rfl (name_blt G hf c.R c.hw hg (callWith_blt h (
    wp_m (hr s env as H ρ m ds E h c hds) fun vs s₁ q₁ => q₁.rec fun k r => wp_m (blt_snd hh r (c.k k).x hd) fun v s₂ q₂ => q₂.tr k)))) (inv_blt hc)
theorem chk1 {k : KD} {x : Expr} {a : ME} (h : chkE k x a = true) : chkEs k [x] [a] = true := Bool.and_eq_true_iff.mpr ⟨h, rfl⟩
theorem sf_lcp (G : GOk mg mb base) (hh : A.handled = none) {a : ME} (ha : SE prog w A base cf a) : SF prog w A base cf (.lcp a) := fun s env e H ρ m d fr E hc c he =>
  evF_inv he rfl fun he hf => evi_lcp he fun x ds hx hds hd => ICall1.rec (motive := fun e _ => wpAny (model prog w) A (eval e env) (PostF w s H d fr) E s) (fun hg h => PyProof.Rows.Call_Name rfl (name_blt G (f := "list") (by decide) c.R c.hw hg (callWith_blt (chk1 h) (Calls.spliced_cons (
    ha.go h c hx fun v s₁ q₁ => Calls.spliced_nil (wp_m (lst_snd hh q₁.r (c.k q₁.k).x hds) fun v s₂ q₂ => hd ▸ hf ▸ q₂.tr q₁.k)))))) (inv_lcp hc)
theorem isi_name {d : D} {T : String} {t : Bool} (h : isiD d T = some t) : T ∈ bltNames ∧ bltVal T = .type T :=
  if_inv' h fun hT _ => isi_T (C := fun T => T ∈ bltNames ∧ bltVal T = .type T) hT ⟨by decide, rfl⟩ ⟨by decide, rfl⟩ ⟨by decide, rfl⟩ ⟨by decide, rfl⟩ ⟨by decide, rfl⟩
theorem se_isi (G : GOk mg mb base) {a : ME} {T : String} (ha : SE prog w A base cf a) : SE prog w A base cf (.isi a T) := fun s env e H ρ m d E hc c he =>
  evi_isi he fun x t hx ht hd => IIsi.rec (motive := fun e _ => wpAny (model prog w) A (eval e env) (Post w s H d) E s) (fun {gp x tp pos} hg hg2 h => PyProof.Rows.Call_Name (trees := [(false, eval x env), (false, eval (.Name (Str.ofString T) tp) env)]) (by rw [star_cons h]; rfl) (name_blt G (f := "isinstance") (by decide) c.R c.hw hg
    (Calls.callWith_builtin rfl (Calls.evalArgs_plain (Calls.spliced_cons (ha.go h c hx fun v s₁ q₁ => Calls.spliced_cons (name_blt G (isi_name ht).1 (c.k q₁.k).R (c.k q₁.k).hw hg2 (Calls.spliced_nil ((isi_name ht).2.symm ▸ wp_m (isi_snd q₁.r ht) fun v s₂ q₂ => hd ▸ q₂.tr q₁.k))))))))) (inv_isi hc)
end
end Mine
namespace Mine
open PySem

theorem lookup_zip_mem {α : Type} {ns : List Str} {vs : List α} (h : ns.length = vs.length) {x : Str} (hx : x ∈ ns) : ∃ v, (ns.zip vs).lookup x = some v := by
  induction ns generalizing vs with
  | nil => nomatch hx
  | cons n ns ih => cases vs with
    | nil => cases h
    | cons v vs =>
      rw [List.zip_cons_cons, lookup_cons']
      by_cases e : x = n
      · exact ⟨v, if_pos e⟩
      · rw [if_neg e]
        exact ih (Nat.succ.inj h) ((List.mem_cons.mp hx).resolve_left e)
theorem fm_congr {α β : Type} {f g : α → Option β} {l : List α} (h : ∀ x ∈ l, f x = g x) : l.filterMap f = l.filterMap g := by
  induction l with
  | nil => rfl
  | cons a l ih => rw [List.filterMap_cons, List.filterMap_cons, h a (.head _), ih fun x hx => h x (.tail _ hx)]
theorem filterMap_zip {α : Type} {ns : List Str} {vs : List α} (hn : ns.Nodup) (h : ns.length = vs.length) : ns.filterMap (fun n => ((ns.zip vs).lookup n).map (n, ·)) = ns.zip vs := by
  induction ns generalizing vs with
  | nil => rfl
  | cons n ns ih => cases vs with
    | nil => cases h
    | cons v vs =>
      have hn := List.nodup_cons.mp hn
      rw [List.zip_cons_cons, List.filterMap_cons, lookup_cons', if_pos rfl]
      refine congrArg ((n, v) :: ·) ((fm_congr fun x hx => ?_).trans (ih hn.2 (Nat.succ.inj h)))
      rw [lookup_cons', if_neg (show ¬ x = n from fun e => hn.1 (e ▸ hx))]

theorem bindArgs_plain {fd : FuncData} {vals : List Value} (h1 : fd.params.posonlyargs = []) (h2 : fd.params.kwonlyargs = []) (h3 : fd.params.vararg = none) (h4 : fd.params.kwarg = none) (h5 : fd.defaults = .none)
    (hnd : (fd.params.args.map (·.arg)).Nodup) (hl : (fd.params.args.map (·.arg)).length = vals.length) : bindArgs fd ⟨vals, []⟩ = pure ((fd.params.args.map (·.arg)).zip vals) := by
  obtain ⟨nm, qn, ⟨po, ar, va, ko, kd, kw, df⟩, bd, sc, gl, cl, dfl, kwd, dc, pm, an, co, ct, bu⟩ := fd
  dsimp only at h1 h2 h3 h4 h5 hnd hl
  subst h1 h2 h3 h4 h5
  have hm : (ar.map (·.arg)).filter (fun n => (List.lookup n ((ar.map (·.arg)).zip vals)).isNone) = [] := List.filter_eq_nil_iff.mpr fun x hx e =>
    (lookup_zip_mem hl hx).elim fun v q => by rw [q] at e; cases e
  refine (if_neg (fun e => Nat.not_lt_of_le (Nat.le_of_eq hl.symm) (of_decide_eq_true (Bool.and_eq_true_iff.mp e).1))).trans ?_
  have hd : ∀ k, List.drop k ((none : Option (Array Value)).getD #[]).toList = [] := fun k => List.drop_nil
  refine (if_neg fun e => ?_).trans ?_
  · rw [hd] at e
    have e' : (!(((ar.map (·.arg)).take (ar.map (·.arg)).length).filter (fun n => (List.lookup n ((ar.map (·.arg)).zip vals)).isNone)).isEmpty) = true := e
    rw [List.take_length, hm] at e'
    cases e'
  · rw [hd, List.zip_nil_right]
    exact congrArg (pure (f := Sem)) ((congrArg (fun l => l.filterMap fun n => (((ar.map (·.arg)).zip vals).lookup n).map (n, ·)) (List.append_nil (ar.map (·.arg)))).trans (filterMap_zip hnd hl))
end Mine
namespace Mine
open PySem PySem.SeqAt

section
variable {prog : Program} {w : World} {A : Around} {s : Shared} {base : Heap} {mg mb : Str → Option Value} {cf : CF}

theorem st_plain {me : ME} (h : SE prog w A base cf me) (hp : ∀ e k env whole, chkE k e me = true → isTrue e env whole = (do let v ← whole; standAt e.pos; holding [v] (truthy v))) : ST prog w A base cf me := fun s env e H ρ m d t E hc c he ht =>
  PyProof.Rows.isTrue_plain (h.go hc c he fun v s₁ q₁ => wp_m (truth_snd q₁.r ht) fun b s₂ q₂ => q₂.tr q₁.k) (hp e _ env _ hc)
theorem sb_nil : SB prog w A base cf [] := fun s env es op pos H ρ m d E hc c he => fin_none he
theorem sb_one {a : ME} (ha : SE prog w A base cf a) (ta : ST prog w A base cf a) : SB prog w A base cf [a] := fun s env es op pos H ρ m d E hc c he =>
  chks_inv (C := fun es => wpAny (model prog w) A (eval (.BoolOp op es pos) env) (Post w s H d) E s ∧ ∀ t whole, truth d = some t → wpAny (model prog w) A (isTrue (.BoolOp op es pos) env whole) (PostB s t) E s) hc fun e es h1 h2 => by
    have hz : es = [] := List.isEmpty_iff.mp h2
    subst hz
    refine ⟨PyProof.Rows.BoolOp_one (ha s env e H ρ m d E h1 c.l he), fun t whole ht => ?_⟩
    cases op with
    | And => exact PyProof.Rows.isTrue_and (wp_m (ta s env e H ρ m d t E h1 c.l he ht) fun b s₁ q₁ => by
        cases b with
        | true => exact PyProof.Rows.isTrue_and_nil q₁
        | false => exact q₁)
    | Or => exact PyProof.Rows.isTrue_or (wp_m (ta s env e H ρ m d t E h1 c.l he ht) fun b s₁ q₁ => by
        cases b with
        | true => exact q₁
        | false => exact PyProof.Rows.isTrue_or_nil q₁)
theorem sb_cons {a b : ME} {r : List ME} (ha : SE prog w A base cf a) (ta : ST prog w A base cf a) (hr : SB prog w A base cf (b :: r)) : SB prog w A base cf (a :: b :: r) := fun s env es op pos H ρ m d E hc c he =>
  evi_bop he fun x t1 hx ht1 hd => chks_inv (C := fun es => wpAny (model prog w) A (eval (.BoolOp op es pos) env) (Post w s H d) E s ∧ ∀ t whole, truth d = some t → wpAny (model prog w) A (isTrue (.BoolOp op es pos) env whole) (PostB s t) E s) hc fun e es h1 h2 => by
    have rest : ∀ s₁, Keeps s s₁ → evBop cf ρ op (b :: r) = some d → _ := fun s₁ (k : Keeps s s₁) (h : evBop cf ρ op (b :: r) = some d) => hr s₁ env es op pos H ρ m d E h2 (c.r.k k) h
    have hne : ∃ e2 es', es = e2 :: es' := chks_inv (C := fun es => ∃ e2 es', es = e2 :: es') h2 fun e2 es' _ _ => ⟨e2, es', rfl⟩
    obtain ⟨e2, es', rfl⟩ := hne
    have go : ∀ {v : Value} {s₁ s₂ : Shared} {c : Bool}, Post w s H x v s₁ → PostB s₁ t1 c s₂ → c = stopB op → Post w s H d v s₂ := fun q₁ q₂ e => ⟨Kp.trans q₁.k q₂.k, (Option.some.inj ((if_pos (q₂.e.symm.trans e)).symm.trans hd)) ▸ q₁.r.keeps (Kp.heap q₂.k)⟩
    have stay : ∀ {c : Bool}, c = t1 → c ≠ stopB op → evBop cf ρ op (b :: r) = some d := fun e n => (if_neg (e ▸ n)).symm.trans hd
    have stop : ∀ {c t : Bool}, c = t1 → c = stopB op → truth d = some t → c = t := fun e n ht => e.trans (Option.some.inj (ht1.symm.trans ((congrArg truth (Option.some.inj ((if_pos (e.symm.trans n)).symm.trans hd))).trans ht)))
    refine ⟨?_, fun t whole ht => ?_⟩
    · cases op with
      | And => exact PyProof.Rows.BoolOp_and (ha.go h1 c.l hx fun v s₁ q₁ => wp_m (truth_snd q₁.r ht1) fun c s₂ q₂ => by
          cases c with
          | true => exact wp_m (rest s₂ (Kp.trans q₁.k q₂.k) (stay q₂.e nofun)).1 fun _ _ q => q.tr (Kp.trans q₁.k q₂.k)
          | false => exact go q₁ q₂ rfl)
      | Or => exact PyProof.Rows.BoolOp_or (ha.go h1 c.l hx fun v s₁ q₁ => wp_m (truth_snd q₁.r ht1) fun c s₂ q₂ => by
          cases c with
          | false => exact wp_m (rest s₂ (Kp.trans q₁.k q₂.k) (stay q₂.e nofun)).1 fun _ _ q => q.tr (Kp.trans q₁.k q₂.k)
          | true => exact go q₁ q₂ rfl)
    · cases op with
      | And => exact PyProof.Rows.isTrue_and (wp_m (ta s env e H ρ m x t1 E h1 c.l hx ht1) fun c s₁ q₁ => by
          cases c with
          | true => exact wp_m ((rest s₁ q₁.k (stay q₁.e nofun)).2 t whole ht) fun _ _ q => q.tr q₁.k
          | false => exact ⟨q₁.k, stop q₁.e rfl ht⟩)
      | Or => exact PyProof.Rows.isTrue_or (wp_m (ta s env e H ρ m x t1 E h1 c.l hx ht1) fun c s₁ q₁ => by
          cases c with
          | false => exact wp_m ((rest s₁ q₁.k (stay q₁.e nofun)).2 t whole ht) fun _ _ q => q.tr q₁.k
          | true => exact ⟨q₁.k, stop q₁.e rfl ht⟩)
theorem se_bop {op : BoolOp} {ms : List ME} (h : SB prog w A base cf ms) : SE prog w A base cf (.bop op ms) := fun s env e H ρ m d E hc c he =>
  IBop.rec (motive := fun e _ => wpAny (model prog w) A (eval e env) (Post w s H d) E s) (fun hc => (h s env _ op _ H ρ m d E hc c he).1) (inv_bop hc)
theorem st_bop {op : BoolOp} {ms : List ME} (h : SB prog w A base cf ms) : ST prog w A base cf (.bop op ms) := fun s env e H ρ m d t E hc c he ht =>
  IBop.rec (motive := fun e _ => wpAny (model prog w) A (isTrue e env (eval e env)) (PostB s t) E s) (fun hc => (h s env _ op _ H ρ m d E hc c he).2 t _ ht) (inv_bop hc)

theorem forIn_false {env : Env} {E : Value → Shared → Prop} {Q : Bool → Shared → Prop} (es : List Expr) (h : Q false s) :
    wpAny (model prog w) A (forIn es false fun c r => if r = true then do let ok ← isTrue c env (eval c env); pure (ForInStep.yield ok) else pure (ForInStep.yield r)) Q E s := by
  induction es with
  | nil => rw [List.forIn_nil]; exact wpAny_pure h
  | cons c es ih =>
    rw [List.forIn_cons]
    simp only [Bool.false_eq_true, if_false, pure_bind]
    exact ih
theorem sc_nil : SC prog w A base cf [] := fun s env es H ρ m t E hc c he =>
  chks_nil (C := fun es => wpAny (model prog w) A (forIn es true _) (PostB s t) E s) hc (by rw [List.forIn_nil]; exact wpAny_pure ⟨Kp.refl _, Option.some.inj he⟩)
theorem sc_cons {a : ME} {r : List ME} (ta : ST prog w A base cf a) (hr : SC prog w A base cf r) : SC prog w A base cf (a :: r) := fun s env es H ρ m t E hc c he =>
  evi_cs he fun x u hx hu hd => chks_inv (C := fun es => wpAny (model prog w) A (forIn es true _) (PostB s t) E s) hc fun e es h1 h2 => by
    rw [List.forIn_cons]
    simp only [if_true, bind_assoc, pure_bind]
    refine wpAny_bind (wp_m (ta s env e H ρ m x u E h1 c.l hx hu) fun b s₁ q₁ => ?_)
    have e1 := q₁.e
    subst e1
    cases b with
    | true => exact wp_m (hr s₁ env es H ρ m t E h2 (c.r.k q₁.k) hd) fun _ _ q => q.tr q₁.k
    | false => exact forIn_false es ⟨q₁.k, Option.some.inj hd⟩

theorem comp_inner {env cenv : Env} {m mC : Str → Option Value} {scope : Scope} {x : String} {ns : List String} {ρ : List (String × D)} {s₂ : Shared} {H H₂ : Addr → Prop} {v : Value} {dv : D} (hok : okScope env.kindOf scope (Str.ofString x) = true)
    (hk : cenv.kindOf = kindC env.kindOf scope) (hv : mC (Str.ofString x) = some v) (rv : Rep w.params s₂.heap H₂ v dv) (hfv : ∀ z, scope.names.lookup z = some .free → mC z = m z) (kp : Keeps s s₂) (hsub : Less s.heap H H₂) (RC : EnvRep s₂.heap cenv mC) (hx : Ex s₂.heap H₂)
    (c : Cc w base s env H ρ m (ns.filter (· != x))) : Cc w base s₂ cenv H₂ ((x, dv) :: ρ) mC ns := by
  refine ⟨RC, ⟨fun b o e => Kp.heap kp b o (c.hw.keep b o e), hx, fun b o e q => c.hw.off b o e (hsub b o (c.hw.keep b o e) q)⟩, fun z hz hvar d hd => ?_⟩
  rw [List.lookup_cons] at hd
  by_cases hzx : z = x
  · subst hzx
    rw [beq_self_eq_true] at hd
    exact ⟨v, hv, Option.some.inj hd ▸ rv⟩
  · rw [show (z == x) = false from beq_eq_false_iff_ne.mpr hzx] at hd
    refine okScope_inv hok fun _ hnodup _ hfree hall _ => and4 hvar fun h1 h2 h3 h4 => ?_
    have hfr : scope.names.lookup (Str.ofString z) = some .free := by
      rw [hk, kindC_eq] at h1
      cases hq : scope.names.lookup (Str.ofString z) with
      | none => rw [hq] at h1; cases h1
      | some k => exact (hall _ (mem_of_lookup hq)).elim (fun q => q.elim (fun q => q.elim (congrArg some) fun e => by rw [hq, show k = .globalImplicit from e] at h1; cases h1) fun e => absurd (ofString_inj e) hzx) fun e => by rw [show Str.ofString z = _ from e] at h4; cases h4
    exact (c.hn z (List.mem_filter.mpr ⟨hz, bne_iff_ne.mpr hzx⟩) (by
      unfold isVar
      rw [h2, h3, h4]
      rcases hfree _ (mem_of_lookup hfr) rfl with e | e <;> rw [e] <;> rfl) d hd).elim fun v' q => ⟨v', (hfv _ hfr).trans q.1, q.2.mono (fun a o _ e => Kp.heap kp a o e) hsub⟩
noncomputable def compG (cf : CF) (ρ : List (String × D)) (elt : ME) (x : String) (cs : List ME) (it : D) : Option (Option D) := oT (evCs cf ((x, it) :: ρ) cs) fun t => if t = true then oE (evE cf ((x, it) :: ρ) elt) fun y => some (some y) else some Option.none
theorem compM_congr {f g : D → Option (Option D)} (h : ∀ d, f d = g d) (l : List D) : compM f l = compM g l := congrArg (fun f => compM f l) (funext h)
theorem evi_comp {ρ : List (String × D)} {elt src : ME} {x : String} {cs : List ME} {d : D} {C : Prop} (h : evE cf ρ (.comp elt x src cs) = some d) (k : ∀ y its out, evE cf ρ src = some y → y.items = some its → its.length ≤ big → compM (compG cf ρ elt x cs) its = some out → .list out = d → C) : C := by
  rw [ev_comp] at h
  refine oE_inv (a := evE cf ρ src) h fun y hy h => oEs_inv (a := y.items) h fun its hi h => if_inv' h fun hl h => om_inv h fun out ho e => k y its out hy hi hl ((compM_congr (fun it => ?_) its).trans ho) e
  unfold compG
  cases evCs cf ((x, it) :: ρ) cs with
  | none => rfl
  | some t => cases t <;> rfl
theorem comp_snd {elt src : ME} {x : String} {cs : List ME} (hh : A.handled = none) (he : SE prog w A base cf elt) (hs : SE prog w A base cf src) (hcs : SC prog w A base cf cs)
    {s : Shared} {env : Env} {H : Addr → Prop} {ρ : List (String × D)} {m : Str → Option Value} {d : D} {E : Value → Shared → Prop} {t it : Expr} {py pos ppos : Pos} {ifs : List Expr} {scope : Scope} {use : Option (Value → Sem Unit)} {Q : Value → Shared → Prop}
    (hset : notSet it = true) (hok : okScope env.kindOf scope (Str.ofString x) = true) (hcsrc : chkE env.kindOf it src = true) (hcelt : chkE (kindC env.kindOf scope) t elt = true) (hcifs : chkEs (kindC env.kindOf scope) ifs cs = true) (c : Cc w base s env H ρ m (ME.comp elt x src cs).names)
    (hev : evE cf ρ (.comp elt x src cs) = some d)
    (hQ : ∀ L C h' tk dw m' out, d = .list out → (∀ b o, gat s.heap b = some o → @LT.lt Nat _ b L) → gat s.heap C = none → L ≠ C → h'.Ns C m' → OwnL w.params h' (fun b => H b ∨ b = C) L out → (KH s.heap h') →
      compPost (model prog w) A E use Q (.ref L) C (.ok .next) { s with heap := h', toks := tk, drawn := dw }) :
    wpAny (model prog w) A (comprehension (.ListComp t [⟨.Name (Str.ofString x) py, it, ifs, 0⟩] scope pos) scope env ppos (newList []) false (eval it env) use) Q E s := by
  refine evi_comp hev fun y its out hy hi hl ho e => comp_core c.R hok hset hh c.x (hs s env it H ρ m y E hcsrc c.l hy) hi hl ho (fun cenv hk s₂ mC H₂ v dv r hm hf RC hv rv hfv hx kp hsub E' => ?_) fun L C h' tk dw m' h1 h2 h3 h4 h5 h6 => hQ L C h' tk dw m' out e.symm h1 h2 h3 h4 h5 h6
  have ci : Cc w base s₂ cenv H₂ ((x, dv) :: ρ) mC (elt.names ++ namesL cs) := comp_inner hok hk hv rv hfv kp hsub RC hx c.r
  rw [← hk] at hcelt hcifs
  refine oT_inv hf fun b hb hf => wp_m (hcs s₂ cenv ifs H₂ _ mC b E' hcifs ci.r hb) fun ok s₃ q => ⟨q.k, ?_⟩
  cases b with
  | true => exact oE_inv hf fun y hy e => Option.some.inj e ▸ ⟨q.e, fun dr e => Option.some.inj e ▸ he s₃ cenv t H₂ _ mC y E' hcelt (ci.l.k q.k) hy⟩
  | false => exact Option.some.inj hf ▸ ⟨q.e, fun dr e => nomatch e⟩
end
end Mine
namespace Mine
open PySem PySem.SeqAt
theorem stored_kvs {P : Params} {h : Heap} {H : Addr → Prop} {k : CK} {v : Value} {d : D} (hv : Rep P h H v d) {kvs : List (CK × Value)} {vs : List D} (hn : (kvs.map (·.1)).Nodup) (hr : RepAll P h H (kvs.map (·.2)) vs) :
    ((stored kvs k v).map fun p => ofCK p.1) = (dput (kvs.map fun p => ofCK p.1) vs (ofCK k) d).1 ∧ RepAll P h H ((stored kvs k v).map (·.2)) (dput (kvs.map fun p => ofCK p.1) vs (ofCK k) d).2 := by
  have e : (kvs.map (·.1)).zip (kvs.map (·.2)) = kvs := by
    clear hn hr
    induction kvs with
    | nil => rfl
    | cons a l ih => simp [ih]
  have := stored_dput (k := k) hv (cs := kvs.map (·.1)) (vals := kvs.map (·.2)) (by simp) hn hr
  rw [e, List.map_map] at this
  exact this
theorem stored_nodup {kvs : List (CK × Value)} {k : CK} {v : Value} (hn : (kvs.map (·.1)).Nodup) : ((stored kvs k v).map (·.1)).Nodup := by
  unfold stored
  split
  · rw [keys_map_store]; exact hn
  · rename_i hc
    rw [List.map_append, List.nodup_append]
    refine ⟨hn, by simp, ?_⟩
    intro a ha b hb e
    simp only [List.map_cons, List.map_nil, List.mem_singleton] at hb
    subst hb e
    obtain ⟨p, hp, rfl⟩ := List.mem_map.mp ha
    exact hc (List.any_eq_true.mpr ⟨p, hp, by simp⟩)
theorem merged_dputs {P : Params} {h : Heap} {H : Addr → Prop} : ∀ {kvs acc : List (CK × Value)} {es accD : List D} {accK : List D}, RepAll P h H (kvs.map (·.2)) es → (acc.map (·.1)).Nodup → RepAll P h H (acc.map (·.2)) accD → accK = (acc.map fun p => ofCK p.1) →
    ((merged acc kvs).map fun p => ofCK p.1) = (((kvs.map fun p => ofCK p.1).zip es).foldl (fun a p => dput a.1 a.2 p.1 p.2) (accK, accD)).1 ∧ RepAll P h H ((merged acc kvs).map (·.2)) (((kvs.map fun p => ofCK p.1).zip es).foldl (fun a p => dput a.1 a.2 p.1 p.2) (accK, accD)).2 := by
  intro kvs
  induction kvs with
  | nil =>
    intro acc es accD accK hr hn ha hk
    cases es with
    | cons _ _ => exact nomatch hr.length
    | nil => subst hk; exact ⟨rfl, ha⟩
  | cons p kvs ih =>
    intro acc es accD accK hr hn ha hk
    cases es with
    | nil => exact nomatch hr.length
    | cons d es =>
      cases hr with
      | mk hv hr =>
        subst hk
        obtain ⟨q1, q2⟩ := stored_kvs (k := p.1) hv hn ha
        exact ih hr (stored_nodup hn) q2 q1.symm
theorem dput_len (k d : D) (ks vs : List D) : (dput ks vs k d).1.length ≤ ks.length + 1 := by
  induction ks generalizing vs with
  | nil => exact Nat.le_refl _
  | cons k' ks ih => cases vs with
    | nil => exact Nat.succ_le_succ (Nat.zero_le _)
    | cons v vs =>
      rw [dput_at]
      split
      · exact Nat.le_succ _
      · exact Nat.succ_le_succ (ih vs)
theorem dputs_len : ∀ (l : List (D × D)) (a : List D × List D), (l.foldl (fun a p => dput a.1 a.2 p.1 p.2) a).1.length ≤ a.1.length + l.length
  | [], a => by simp
  | p :: l, a => by
    have h1 := dputs_len l (dput a.1 a.2 p.1 p.2)
    have h2 := dput_len p.1 p.2 a.1 a.2
    simp only [List.foldl_cons, List.length_cons]
    exact om50 h1 h2
section
variable {prog : Program} {w : World} {A : Around} {s : Shared} {base : Heap} {mg mb : Str → Option Value} {cf : CF}
theorem evalPairs_snd {env : Env} {pos : Pos} {H : Addr → Prop} {ρ : List (String × D)} {m : Str → Option Value} {E : Value → Shared → Prop} : ∀ {ks vs : List ME} {kes ves : List Expr} {ds es : List D} {s : Shared}, (∀ e ∈ ks, SE prog w A base cf e) → (∀ e ∈ vs, SE prog w A base cf e) →
    chkEs env.kindOf kes ks = true → chkEs env.kindOf ves vs = true → Cc w base s env H ρ m (namesL ks ++ namesL vs) → evEs cf ρ ks = some ds → evEs cf ρ vs = some es → ds.all D.isCell = true → ds.length = es.length →
    wpAny (model prog w) A (evalPairs ((kes.zip ves).map fun p => (eval p.1 env, do let x ← eval p.2 env; standAt pos; pure x)))
      (fun prs s' => Keeps s s' ∧ ∃ kvs, Carries (cellKind prog w) prs kvs ∧ ds = (kvs.map fun p => ofCK p.1) ∧ RepAll w.params s'.heap H (kvs.map (·.2)) es) E s := by
  intro ks
  induction ks with
  | nil =>
    intro vs kes ves ds es s _ _ hk hv _ hd he _ hl
    cases kes with
    | cons _ _ => simp [cs_nil, cs_cons, cs_consn] at hk
    | nil =>
      simp only [evs_nil, evs_cons] at hd; cases hd
      cases es with
      | cons _ _ => simp at hl
      | nil => exact evalPairs_nil ⟨Kp.refl _, [], trivial, rfl, .nil⟩
  | cons a ks ih =>
    intro vs kes ves ds es s hsk hsv hk hv cc hd he hc hl
    cases kes with
    | nil => simp [cs_nil, cs_cons, cs_consn] at hk
    | cons ke kes =>
    cases vs with
    | nil =>
      simp only [evs_nil, evs_cons] at he; cases he
      simp only [evs_nil, evs_cons] at hd
      split at hd
      · split at hd
        · cases hd; simp at hl
        · cases hd
      · cases hd
    | cons b vs =>
    cases ves with
    | nil => simp [cs_nil, cs_cons, cs_consn] at hv
    | cons ve ves =>
      simp only [cs_nil, cs_cons, cs_consn, Bool.and_eq_true] at hk hv
      simp only [evs_nil, evs_cons] at hd he
      split at hd
      · rename_i x hx
        split at hd
        · rename_i xs hxs
          cases hd
          split at he
          · rename_i y hy
            split at he
            · rename_i ys hys
              cases he
              simp only [List.all_cons, Bool.and_eq_true] at hc
              obtain ⟨c, rfl⟩ := cell_ck hc.1
              refine evalPairs_cons (wpAny_mono (hsk a (by simp) s env ke H ρ m _ E hk.1 cc.l.l hx) (fun kv s₁ q₁ => ?_) fun _ _ e => e)
              refine wpAny_bind (wpAny_mono (hsv b (by simp) s₁ env ve H ρ m y E hv.1 (cc.k q₁.k).r.l hy) (fun vv s₂ q₂ => ?_) fun _ _ e => e)
              refine wpAny_bind (wpAny_standAt (wpAny_pure ?_))
              have k02 := Kp.trans q₁.k q₂.k
              refine wpAny_mono (ih (s := s₂) (fun e he => hsk e (by simp [he])) (fun e he => hsv e (by simp [he])) hk.2 hv.2 ((cc.k k02).sub fun z hz => (List.mem_append.mp hz).elim (fun q => List.mem_append_left _ (List.mem_append_right _ q)) fun q => List.mem_append_right _ (List.mem_append_right _ q)) hxs hys hc.2 (by simpa using hl)) (fun prs s₃ q₃ => ?_) fun _ _ e => e
              obtain ⟨k23, kvs, hcar, rfl, hr⟩ := q₃
              exact ⟨Kp.trans k02 k23, (c, vv) :: kvs, ⟨rep_ck q₁.r, rfl, hcar⟩, rfl, .cons (q₂.r.keeps (Kp.heap k23)) hr⟩
            · cases he
          · cases he
        · cases hd
      · cases hd
theorem evalEach_map (es : List Expr) (env : Env) : evalEach es env = es.map fun e => eval e env := by
  induction es with
  | nil => rfl
  | cons e es ih => rw [arm_evalEach_cons, ih]; rfl
theorem evalEachOpt_map (es : List Expr) (env : Env) : evalEachOpt (es.map some) env = es.map fun e => some (eval e env) := by
  induction es with
  | nil => rfl
  | cons e es ih => rw [List.map_cons, List.map_cons, ← ih]; rfl
theorem chkEs_len {k : KD} : ∀ {es : List Expr} {ms : List ME}, chkEs k es ms = true → es.length = ms.length
  | [], [], _ => rfl
  | _ :: _, [], h => by simp [cs_nil, cs_cons, cs_consn] at h
  | [], _ :: _, h => by simp [cs_nil, cs_cons, cs_consn] at h
  | e :: es, m :: ms, h => by
    simp only [cs_nil, cs_cons, cs_consn, Bool.and_eq_true] at h
    simp [chkEs_len h.2]
theorem evEs_len {ρ : List (String × D)} : ∀ {ms : List ME} {ds : List D}, evEs cf ρ ms = some ds → ds.length = ms.length
  | [], ds, h => by simp only [evs_nil, evs_cons] at h; cases h; rfl
  | m :: ms, ds, h => by
    simp only [evs_nil, evs_cons] at h
    split at h
    · split at h
      · rename_i q; cases h; simp [evEs_len q]
      · cases h
    · cases h
theorem sf_dct (G : GOk mg mb base) {ks vs : List ME} (hsk : ∀ e ∈ ks, SE prog w A base cf e) (hsv : ∀ e ∈ vs, SE prog w A base cf e) : SF prog w A base cf (.dct ks vs) := by
  intro s env e H ρ m d fr E hc cc he
  have hw := cc.hw
  have hn := cc.hn
  replace hc := inv_dct hc; obtain @⟨kes, ves, pos, hk, hv⟩ := hc
  simp only [evF_dct, ev_var, ev_glob, ev_int, ev_str, ev_bool, ev_none, ev_bin, ev_cmp, ev_bop, ev_not, ev_neg, ev_tup, ev_lst, ev_dct, ev_sub, ev_sl, ev_comp, ev_call, ev_isi, ev_blt, ev_lcp, Option.map_eq_some_iff] at he
  obtain ⟨d', he, e'⟩ := he
  cases e'
  split at he
  · rename_i ds hds
    split at he
    · rename_i es hes
      split at he
      · rename_i hcc; cases he
        simp only [Bool.and_eq_true, beq_iff_eq, decide_eq_true_eq] at hcc
        obtain ⟨⟨hcell, hlen⟩, h15⟩ := hcc
        have hsys : (s.heap.objs.size == sysModules) = false := by
          obtain ⟨o, _, _, h1, _⟩ := G.g
          have h2 := Heap.gt_lt (hw.keep _ _ (Heap.gt_of h1 (notTab_ns G.g _ h1)))
          have : (mainGlobals : Nat) = 3 := rfl
          have h3 : s.heap.objs.size ≠ sysModules := fun q => by rw [q] at h2; exact absurd h2 (by decide)
          simpa using h3
        have hnone : gat s.heap s.heap.objs.size = none := by
          cases q : gat s.heap s.heap.objs.size with
          | none => rfl
          | some o => exact absurd (Heap.gt_lt q) (Nat.lt_irrefl _)
        -- the result
        have fin : ∀ (s₁ : Shared) (h' : Heap) (tk : Nat) (dw : Drawn) (kvs : List (CK × Value)), Keeps { s with heap := s.heap.push { cls := .type "dict", data := .dict #[] } } s₁ → ds = (kvs.map fun p => ofCK p.1) → RepAll w.params s₁.heap (fun b => H b ∨ b = s.heap.objs.size) (kvs.map (·.2)) es → h'.DictOf (cellKind prog w) s.heap.objs.size (merged [] kvs) → Heap.SameBut s.heap.objs.size s₁.heap h' →
            PostF w s H (.dict (dputs ds es).1 (dputs ds es).2) true (.ref s.heap.objs.size) { s₁ with heap := h', toks := tk, drawn := dw } := by
          intro s₁ h' tk dw kvs kp hds' hr hm hs
          obtain ⟨h₁, tk₁, dw₁, hk1⟩ := kp
          have nt : ∀ o, h₁.get? s.heap.objs.size = some o → isTab o = false := notTab_at (Heap.of_gt (hk1 _ _ (Heap.gt_push_size _ rfl)))
          obtain ⟨q1, q2⟩ := merged_dputs (acc := []) (accD := []) (accK := []) hr List.nodup_nil .nil rfl
          rw [← hds'] at q1 q2
          obtain ⟨es', n, r1, r2, r3, r4, r5, r6⟩ := rep_dictOf (H := fun b => H b ∨ b = s.heap.objs.size) hm
          rw [q1] at r2 r4 r5 r6
          have own : OwnD w.params h' H s.heap.objs.size (.dict (dputs ds es).1 (dputs ds es).2) := by
            refine OwnM.mk (es := es') (n := n) r1 ?_ r2 ?_ r4 r5 r6 hsys
            · have := dputs_len (ds.zip es) ([], [])
              unfold dputs
              simp only [List.length_nil, List.length_zip] at this
              unfold big
              omega
            · rw [r3]
              exact q2.mono (fun b o hb e => g1 hs nt b (fun q => hb (.inr q)) e) fun _ _ _ q => q
          refine ⟨.mk h' tk dw fun b o e => ?_, own.rep hw.ex.fresh, fun _ => ⟨hnone, own⟩⟩
          exact g1 hs nt b (fun q => by rw [q, hnone] at e; cases e) (hk1 b o (Heap.gt_push_of_some _ e))
        by_cases h0 : kes.zip ves = []
        · have hk0 : kes = [] ∧ ves = [] := by
            have l1 := chkEs_len hk
            have l2 := chkEs_len hv
            have l3 := evEs_len hds
            have l4 := evEs_len hes
            cases kes with
            | nil => cases ves with
              | nil => exact ⟨rfl, rfl⟩
              | cons _ _ => simp at l1 l2; omega
            | cons _ _ => cases ves with
              | nil => simp at l1 l2; omega
              | cons _ _ => simp at h0
          obtain ⟨rfl, rfl⟩ := hk0
          have l1 := chkEs_len hk
          have l2 := chkEs_len hv
          cases ks with
          | cons _ _ => simp at l1
          | nil =>
          cases vs with
          | cons _ _ => simp at l2
          | nil =>
            simp only [evs_nil, evs_cons] at hds hes
            cases hds; cases hes
            exact wpAny_Dict_empty (fin { s with heap := s.heap.push { cls := .type "dict", data := .dict #[] } } _ _ _ [] (Kp.refl _) rfl .nil (Heap.DictOf.new _) (Heap.SameBut.refl _ _))
        · have hlz : (kes.zip ves).length ≤ 15 := by
            have l1 := chkEs_len hk
            have l3 := evEs_len hds
            rw [List.length_zip]; omega
          refine wpAny_Dict_pairs (knd := cellKind prog w) (pairs := (kes.zip ves).map fun p => (eval p.1 env, do let x ← eval p.2 env; standAt pos; pure x)) ?_ (by simpa using h0) (by simpa using hlz) ?_
          · rw [evalEach_map, evalEachOpt_map, List.map_map, List.map_map, List.zip_map]
            simp [Function.comp_def]
          · have hw' : HOk base (s.heap.push { cls := .type "dict", data := .dict #[] }) (fun b => H b ∨ b = s.heap.objs.size) := by
              have k1 := hw.keeps (h' := s.heap.push { cls := .type "dict", data := .dict #[] }) fun _ _ e => Heap.gt_push_of_some _ e
              refine ⟨k1.keep, fun b q => ?_, fun b o e q => ?_⟩
              · rcases q with q | q
                · exact k1.ex b q
                · exact ⟨b, _, Nat.le_refl _, q ▸ Heap.gt_push_size _ rfl⟩
              · rcases q with q | q
                · exact hw.off b o e q
                · rw [q] at e; rw [hw.keep _ _ e] at hnone; cases hnone
            have hn' : NV w.params env.kindOf (namesL ks ++ namesL vs) ρ m (s.heap.push { cls := .type "dict", data := .dict #[] }) (fun b => H b ∨ b = s.heap.objs.size) := by
              intro x hx hv d hd
              obtain ⟨v, h1, h2⟩ := hn x hx hv d hd
              refine ⟨v, h1, h2.mono (fun b o _ e => Heap.gt_push_of_some _ e) fun b o e q => ?_⟩
              rcases q with q | q
              · exact q
              · rw [q, hnone] at e; cases e
            refine wpAny_mono (evalPairs_snd (s := { s with heap := s.heap.push { cls := .type "dict", data := .dict #[] } }) hsk hsv hk hv ⟨cc.R.keeps fun _ _ e => Heap.gt_push_of_some _ e, hw', hn'⟩ hds hes hcell hlen) (fun prs s₁ q => ?_) fun _ _ e => e
            obtain ⟨kp, kvs, hcar, e1, hr⟩ := q
            refine ⟨kvs, hcar, ?_, fun h' hm hs => fin s₁ h' _ _ kvs kp e1 hr hm hs⟩
            obtain ⟨o, es', ep, ho, hd, r⟩ := Heap.DictOf.new (knd := cellKind prog w) s.heap
            have ht : isTab o = false := by
              rw [Heap.get?_push_size _ rfl] at ho; cases ho; rfl
            exact ⟨o, es', ep, Heap.of_gt (Kp.heap kp _ _ (Heap.gt_of ho ht)) ht, hd, r⟩
      · cases he
    · cases he
  · cases he
end
end Mine
namespace Mine
open PySem PySem.SeqAt

section
variable {prog : Program} {w : World} {A : Around} {s : Shared} {base : Heap} {mg mb : Str → Option Value} {cf : CF}

theorem sf_plain {me : ME} (h : SE prog w A base cf me) (hf : ∀ ρ, evF cf ρ me = (evE cf ρ me).map fun d => (d, false)) : SF prog w A base cf me := fun s env e H ρ m d fr E hc c he =>
  om_inv ((hf ρ).symm.trans he) fun d' h1 h2 => wp_m (h s env e H ρ m d E hc c (h1.trans (congrArg some (Prod.mk.inj h2).1))) fun _ _ q => q.pf (Prod.mk.inj h2).2.symm
theorem sf_comp {elt src : ME} {x : String} {cs : List ME} (hh : A.handled = none) (he : SE prog w A base cf elt) (hs : SE prog w A base cf src) (hcs : SC prog w A base cf cs) : SF prog w A base cf (.comp elt x src cs) := fun s env e H ρ m d fr E hc c hev =>
  evF_inv hev rfl fun hev hf => IComp.rec (motive := fun e _ => wpAny (model prog w) A (eval e env) (PostF w s H d fr) E s) (fun c1 c2 c3 c4 c5 => by
    rw [eval_ListComp]
    refine comp_snd (use := none) hh he hs hcs c1 c2 c3 c4 c5 c hev fun L C h' tk dr m' out hd hL hC hLC hns hown hk => ⟨m', hns, fun h'' hs'' => ?_⟩
    have m1 : Mv C h' h'' := fun b o hn e => g1 hs'' (notTab_ns hns) b hn e
    have own : OwnL w.params h'' H L out := hown.mono (fun o e => m1 L o hLC e) (fun a o hn e => m1 a o (fun q => hn (.inr q)) e) fun b o _ q => .inl (.inl q)
    have hLn : gat s.heap L = none := by
      cases e : gat s.heap L with
      | none => rfl
      | some o => exact absurd (hL _ _ e) (Nat.lt_irrefl _)
    exact hd ▸ hf ▸ ⟨.mk h'' tk dr fun b o e => m1 b o (fun q => no_sn e (q ▸ hC)) (hk b o e), own.rep fun q => (c.x L q).elim fun b z => z.elim fun o z => Nat.lt_irrefl _ (Nat.lt_of_le_of_lt z.1 (hL b o z.2)), fun _ => ⟨hLn, own⟩⟩) (inv_comp hc)
theorem evF_callx (f : String) (ms : List ME) (ρ : List (String × D)) (d : D) (h : evE cf ρ (.call f ms) = some d) : ∃ fr, evF cf ρ (.call f ms) = some (d, fr) :=
  evi_call h fun ds r h1 h2 e => ⟨r.2, by rw [evF_call, h1]; exact h2.trans (congrArg some (Prod.ext e rfl))⟩
theorem blt_name {f : String} {ds : List D} {d : D} (h : bltD f ds = some d) : f ∈ bltNames := by
  cases ds with
  | nil => exact fin_none h
  | cons a ds => cases ds with
    | nil =>
      refine if_inv2 (c := f = "len") h (fun e _ => e ▸ by decide) fun _ h => ?_
      cases a with
      | int i => exact if_inv2 h (fun e _ => e ▸ by decide) fun _ h => if_inv' h fun e _ => e ▸ by decide
      | bool b => exact if_inv h fun e _ => e ▸ by decide
      | str x => exact if_inv h fun e _ => e ▸ by decide
      | list ds => exact if_inv h fun e _ => e ▸ by decide
      | _ => exact fin_none h
    | cons b ds => cases ds with
      | nil => exact onI_inv (C := fun _ => f ∈ bltNames) h fun i h => onI_inv (C := fun _ => f ∈ bltNames) h fun j h => fin_none h
      | cons => exact fin_none h
structure AE (prog : Program) (w : World) (A : Around) (base : Heap) (cf : CF) (me : ME) : Prop where
  e : SE prog w A base cf me
  t : ST prog w A base cf me
  f : SF prog w A base cf me
structure AEs (prog : Program) (w : World) (A : Around) (base : Heap) (cf : CF) (ms : List ME) : Prop where
  s : SEs prog w A base cf ms
  b : SB prog w A base cf ms
  c : SC prog w A base cf ms
  m : ∀ e ∈ ms, SE prog w A base cf e
theorem ae_e {me : ME} (h : SE prog w A base cf me) (h2 : me.plain = true) (h3 : ∀ ρ, evF cf ρ me = (evE cf ρ me).map fun d => (d, false)) : AE prog w A base cf me := ⟨h, st_plain h (fun e k env whole hc => (looks hc).test h2 env whole), sf_plain h h3⟩
theorem ae_f {me : ME} (h : SF prog w A base cf me) (h2 : me.plain = true) (h3 : ∀ ρ d, evE cf ρ me = some d → ∃ fr, evF cf ρ me = some (d, fr)) : AE prog w A base cf me :=
  have h4 := se_of_sf h h3
  ⟨h4, st_plain h4 (fun e k env whole hc => (looks hc).test h2 env whole), h⟩
theorem fr_of {me : ME} (h : isCallE me = none) (ρ : List (String × D)) (d : D) (e : evE cf ρ me = some d) : ∃ fr, evF cf ρ me = some (d, fr) := ⟨frF me d, by unfold evF; rw [h, e]; rfl⟩
theorem se_bltx (G : GOk mg mb base) (hh : A.handled = none) {f : String} {ms : List ME} (h : SEs prog w A base cf ms) : SE prog w A base cf (.blt f ms) :=
  (Classical.em (f ∈ bltNames)).elim (fun hf => se_blt G hh hf h) fun hf s env e H ρ m d E hc c he => evi_blt he fun ds _ h => absurd (blt_name h) hf
theorem sb_step {a : ME} {r : List ME} (h : AE prog w A base cf a) (hr : SB prog w A base cf r) : SB prog w A base cf (a :: r) := by
  cases r with
  | nil => exact sb_one h.e h.t
  | cons b r => exact sb_cons h.e h.t hr
theorem all_E (G : GOk mg mb base) (C : CSound prog w base mg cf A) (hh : A.handled = none) (hu : Room A) (me : ME) : AE prog w A base cf me :=
  ME.rec (motive_1 := AE prog w A base cf) (motive_2 := AEs prog w A base cf)
    (fun x => ae_e (se_var x) rfl fun _ => rfl) (fun x => ae_e (se_glob G C x) rfl fun _ => rfl) (fun i => ae_e (se_int i) rfl fun _ => rfl) (fun x => ae_e (se_str x) rfl fun _ => rfl) (fun b => ae_e (se_bool b) rfl fun _ => rfl) (ae_e se_none rfl fun _ => rfl)
    (fun op a b ha hb => ae_f (sf_bin ha.e hb.e) rfl (fr_of rfl))
    (fun op a b ha hb => ⟨se_cmp hu.u2 ha.e hb.e, st_cmp hu.u2 ha.e hb.e, sf_plain (se_cmp hu.u2 ha.e hb.e) fun _ => rfl⟩)
    (fun op ms h => ⟨se_bop h.b, st_bop h.b, sf_plain (se_bop h.b) fun _ => rfl⟩)
    (fun a h => ⟨se_not h.e, st_not h.t, sf_plain (se_not h.e) fun _ => rfl⟩) (fun a h => ae_e (se_neg h.e) rfl fun _ => rfl)
    (fun ms h => ae_e (se_tup h.s) rfl fun _ => rfl) (fun ms h => ae_f (sf_lst h.s) rfl (fr_of rfl))
    (fun a b ha hb => ae_e (se_sub hu.u1 ha.e hb.e) rfl fun _ => rfl) (fun a b c ha hb hc => ae_f (sf_sl ha.e hb.e hc.e) rfl (fr_of rfl))
    (fun ks vs hk hv => ae_f (sf_dct G hk.m hv.m) rfl (fr_of rfl))
    (fun elt x src cs h1 h2 h3 => ae_f (sf_comp hh h1.e h2.e h3.c) rfl (fr_of rfl))
    (fun f ms h => ae_f (sf_call G (C.at (.refl A)) h.s) rfl (evF_callx f ms)) (fun a T h => ae_e (se_isi G h.e) rfl fun _ => rfl)
    (fun f ms h => ae_e (se_bltx G hh h.s) rfl fun _ => rfl) (fun a h => ae_f (sf_lcp G hh h.e) rfl (fr_of rfl))
    (fun a h => ae_f (sf_rev h.e) rfl (fr_of rfl))
    ⟨ses_nil, sb_nil, sc_nil, fun _ h => nomatch h⟩ (fun a r ha hr => ⟨ses_cons ha.e hr.s, sb_step ha hr.b, sc_cons ha.t hr.c, fun e he => (List.mem_cons.mp he).elim (fun q => q ▸ ha.e) (hr.m e)⟩) me
theorem all_Cs (G : GOk mg mb base) (C : CSound prog w base mg cf A) (hh : A.handled = none) (hu : Room A) (ms : List ME) : SC prog w A base cf ms :=
  List.rec (motive := SC prog w A base cf) sc_nil (fun a _ h => sc_cons (all_E G C hh hu a).t h) ms
end
end Mine
namespace Mine
open PySem PySem.SeqAt

noncomputable def isStore (k : KD) (x : Str) : Bool := (k x == some .local || k x == some .cell) && isVar k x
noncomputable def cAssign (e : Stmt) (f : List Expr → Expr → Pos → Bool) : Bool := dite (e.ctorIdx = 5) (fun h => Stmt.Assign.elim (motive_2 := fun _ => Bool) e h f) (fun _ => false)
@[elab_as_elim] theorem cAssign_inv {e : Stmt} {f : List Expr → Expr → Pos → Bool} {C : Stmt → Prop} (h : cAssign e f = true) (k : ∀ v0 v1 v2, f v0 v1 v2 = true → C (.Assign v0 v1 v2)) : C e :=
  (dite_inv h).elim fun hc h => Stmt.Assign.elim (motive_2 := fun e => ∀ hc, Stmt.Assign.elim (motive_2 := fun _ => Bool) e hc f = true → C e) e hc (fun v0 v1 v2 _ h => k v0 v1 v2 h) hc h
noncomputable def cExpr (e : Stmt) (f : Expr → Pos → Bool) : Bool := dite (e.ctorIdx = 24) (fun h => Stmt.Expr.elim (motive_2 := fun _ => Bool) e h f) (fun _ => false)
@[elab_as_elim] theorem cExpr_inv {e : Stmt} {f : Expr → Pos → Bool} {C : Stmt → Prop} (h : cExpr e f = true) (k : ∀ v0 v1, f v0 v1 = true → C (.Expr v0 v1)) : C e :=
  (dite_inv h).elim fun hc h => Stmt.Expr.elim (motive_2 := fun e => ∀ hc, Stmt.Expr.elim (motive_2 := fun _ => Bool) e hc f = true → C e) e hc (fun v0 v1 _ h => k v0 v1 h) hc h
noncomputable def cIf (e : Stmt) (f : Expr → List Stmt → List Stmt → Pos → Bool) : Bool := dite (e.ctorIdx = 12) (fun h => Stmt.If.elim (motive_2 := fun _ => Bool) e h f) (fun _ => false)
@[elab_as_elim] theorem cIf_inv {e : Stmt} {f : Expr → List Stmt → List Stmt → Pos → Bool} {C : Stmt → Prop} (h : cIf e f = true) (k : ∀ v0 v1 v2 v3, f v0 v1 v2 v3 = true → C (.If v0 v1 v2 v3)) : C e :=
  (dite_inv h).elim fun hc h => Stmt.If.elim (motive_2 := fun e => ∀ hc, Stmt.If.elim (motive_2 := fun _ => Bool) e hc f = true → C e) e hc (fun v0 v1 v2 v3 _ h => k v0 v1 v2 v3 h) hc h
noncomputable def cFor (e : Stmt) (f : Expr → Expr → List Stmt → List Stmt → Pos → Bool) : Bool := dite (e.ctorIdx = 9) (fun h => Stmt.For.elim (motive_2 := fun _ => Bool) e h f) (fun _ => false)
@[elab_as_elim] theorem cFor_inv {e : Stmt} {f : Expr → Expr → List Stmt → List Stmt → Pos → Bool} {C : Stmt → Prop} (h : cFor e f = true) (k : ∀ v0 v1 v2 v3 v4, f v0 v1 v2 v3 v4 = true → C (.For v0 v1 v2 v3 v4)) : C e :=
  (dite_inv h).elim fun hc h => Stmt.For.elim (motive_2 := fun e => ∀ hc, Stmt.For.elim (motive_2 := fun _ => Bool) e hc f = true → C e) e hc (fun v0 v1 v2 v3 v4 _ h => k v0 v1 v2 v3 v4 h) hc h
noncomputable def cRet (e : Stmt) (f : Option Expr → Pos → Bool) : Bool := dite (e.ctorIdx = 3) (fun h => Stmt.Return.elim (motive_2 := fun _ => Bool) e h f) (fun _ => false)
@[elab_as_elim] theorem cRet_inv {e : Stmt} {f : Option Expr → Pos → Bool} {C : Stmt → Prop} (h : cRet e f = true) (k : ∀ v0 v1, f v0 v1 = true → C (.Return v0 v1)) : C e :=
  (dite_inv h).elim fun hc h => Stmt.Return.elim (motive_2 := fun e => ∀ hc, Stmt.Return.elim (motive_2 := fun _ => Bool) e hc f = true → C e) e hc (fun v0 v1 _ h => k v0 v1 h) hc h
noncomputable def c3 {α : Type} (l : List α) (f : α → α → α → Bool) : Bool := match l with | x :: l => c2 l (f x) | _ => false
@[elab_as_elim] theorem c3_inv {α : Type} {l : List α} {f : α → α → α → Bool} {C : List α → Prop} (h : c3 l f = true) (k : ∀ x y z, f x y z = true → C [x, y, z]) : C l := by
  cases l with
  | nil => cases h
  | cons x l => exact c2_inv (C := fun l => C (x :: l)) h (k x)
noncomputable def c4 {α : Type} (l : List α) (f : α → α → α → α → Bool) : Bool := match l with | x :: l => c3 l (f x) | _ => false
@[elab_as_elim] theorem c4_inv {α : Type} {l : List α} {f : α → α → α → α → Bool} {C : List α → Prop} (h : c4 l f = true) (k : ∀ x y z u, f x y z u = true → C [x, y, z, u]) : C l := by
  cases l with
  | nil => cases h
  | cons x l => exact c3_inv (C := fun l => C (x :: l)) h (k x)
noncomputable def isNm (k : KD) (e : Expr) (x : String) : Bool := cName e fun y _ => y == Str.ofString x && isStore k y
@[elab_as_elim] theorem isNm_inv {k : KD} {e : Expr} {x : String} {C : Expr → Prop} (h : isNm k e x = true) (c : ∀ p, isStore k (Str.ofString x) = true → C (.Name (Str.ofString x) p)) : C e :=
  cName_inv h fun y p h => and2 h fun h1 => eqb h1 fun h2 => c p h2
mutual
noncomputable def chkS (k : KD) (st : Stmt) (ms : MS) : Bool := match ms with
  | .assign x e => cAssign st fun ts v _ => c1 ts fun t => cName t fun y _ => y == Str.ofString x && isStore k y && chkE k v e
  | .append x e => cExpr st fun v _ => cCall v fun g as ks p => ks.isEmpty && c1 as fun a => cAttr g fun n at_ ap => cName n fun y _ => y == Str.ofString x && isStore k y && at_ == Str.ofString "append" && ap.endLine == p.line && chkE k a e
  | .setk x ke e => cAssign st fun ts v _ => c1 ts fun t => cSub t fun o i _ => cName o fun y _ => y == Str.ofString x && isStore k y && chkE k i ke && chkE k v e
  | .ite c t f => cIf st fun v b o _ => chkE k v c && chkSs k b t && chkSs k o f
  | .for_ x src body => cFor st fun t it b o _ => o.isEmpty && cName t fun y _ => y == Str.ofString x && isStore k y && notSet it && chkE k it src && chkSs k b body
  | .ret e => cRet st fun v _ => cOpt v fun v => chkE k v e
  | .bad => true
  | .unp x1 x2 x3 x4 f args => cAssign st fun ts v _ => c1 ts fun t => cTup t fun es _ _ => c4 es fun a b c d => isNm k a x1 && isNm k b x2 && isNm k c x3 && isNm k d x4 && decide (x3 ≠ x4) && chkE k v (.call f args)
termination_by structural ms
noncomputable def chkSs (k : KD) (ss : List Stmt) (ms : List MS) : Bool := match ms with
  | [] => ss.isEmpty
  | a :: r => (match ss with | s :: ss' => chkS k s a && chkSs k ss' r | [] => false)
termination_by structural ms
end

section
variable {k : KD} {st : Stmt}
inductive IAssign (k : KD) (x : String) (e : ME) : Stmt → Prop
  | mk {p v pos} (hst : isStore k (Str.ofString x) = true) (hc : chkE k v e = true) : IAssign k x e (.Assign [.Name (Str.ofString x) p] v pos)
theorem inv_assign {x : String} {e : ME} (h : chkS k st (.assign x e) = true) : IAssign k x e st :=
  cAssign_inv h fun ts v p h => c1_inv h fun t h => cName_inv h fun y py h => and3 h fun h1 => eqb h1 fun h2 h3 => ⟨h2, h3⟩
inductive IAppend (k : KD) (x : String) (e : ME) : Stmt → Prop
  | mk {yp ap a p pos} (hst : isStore k (Str.ofString x) = true) (hl : (ap.endLine == p.line) = true) (hc : chkE k a e = true) : IAppend k x e (.Expr (.Call (.Attribute (.Name (Str.ofString x) yp) (Str.ofString "append") ap) [a] [] p) pos)
theorem inv_append {x : String} {e : ME} (h : chkS k st (.append x e) = true) : IAppend k x e st :=
  cExpr_inv h fun v pos h => cCall_inv h fun g as ks p h => and2 h fun h1 h => nilb h1 (c1_inv h fun a h => cAttr_inv (e := g) h fun n at_ ap h => cName_inv (e := n) h fun y yp h => and5 h fun h1 => eqb h1 fun h2 h3 => eqb h3 fun h4 h5 => ⟨h2, h4, h5⟩)
inductive ISetk (k : KD) (x : String) (ke e : ME) : Stmt → Prop
  | mk {yp i p v pos} (hst : isStore k (Str.ofString x) = true) (hi : chkE k i ke = true) (hc : chkE k v e = true) : ISetk k x ke e (.Assign [.Subscript (.Name (Str.ofString x) yp) i p] v pos)
theorem inv_setk {x : String} {ke e : ME} (h : chkS k st (.setk x ke e) = true) : ISetk k x ke e st :=
  cAssign_inv h fun ts v pos h => c1_inv h fun t h => cSub_inv h fun o i p h => cName_inv (e := o) h fun y yp h => and4 h fun h1 => eqb h1 fun h2 h3 h4 => ⟨h2, h3, h4⟩
inductive IIte (k : KD) (c : ME) (t f : List MS) : Stmt → Prop
  | mk {v b o p} (hc : chkE k v c = true) (ht : chkSs k b t = true) (hf : chkSs k o f = true) : IIte k c t f (.If v b o p)
theorem inv_ite {c : ME} {t f : List MS} (h : chkS k st (.ite c t f) = true) : IIte k c t f st := cIf_inv h fun v b o p h => and3 h fun h1 h2 h3 => ⟨h1, h2, h3⟩
inductive IFor (k : KD) (x : String) (src : ME) (body : List MS) : Stmt → Prop
  | mk {yp it b p} (hst : isStore k (Str.ofString x) = true) (hn : notSet it = true) (hc : chkE k it src = true) (hb : chkSs k b body = true) : IFor k x src body (.For (.Name (Str.ofString x) yp) it b [] p)
theorem inv_for {x : String} {src : ME} {body : List MS} (h : chkS k st (.for_ x src body) = true) : IFor k x src body st :=
  cFor_inv h fun t it b o p h => and2 h fun h1 h => nilb h1 (cName_inv (e := t) h fun y yp h => and5 h fun h1 => eqb h1 fun h2 h3 h4 h5 => ⟨h2, h3, h4, h5⟩)
inductive IUnp (k : KD) (x1 x2 x3 x4 f : String) (args : List ME) : Stmt → Prop
  | mk {p1 p2 p3 p4 n tp v pos} (h1 : isStore k (Str.ofString x1) = true) (h2 : isStore k (Str.ofString x2) = true) (h3 : isStore k (Str.ofString x3) = true) (h4 : isStore k (Str.ofString x4) = true) (hne : x3 ≠ x4) (hc : ICall k f args v) :
    IUnp k x1 x2 x3 x4 f args (.Assign [.Tuple [.Name (Str.ofString x1) p1, .Name (Str.ofString x2) p2, .Name (Str.ofString x3) p3, .Name (Str.ofString x4) p4] n tp] v pos)
theorem inv_unp {x1 x2 x3 x4 f : String} {args : List ME} (h : chkS k st (.unp x1 x2 x3 x4 f args) = true) : IUnp k x1 x2 x3 x4 f args st :=
  cAssign_inv h fun ts v pos h => c1_inv h fun t h => cTup_inv (e := t) h fun es n tp h => c4_inv (l := es) h fun a b c d h => and6 h fun h1 h2 h3 h4 h5 h6 => isNm_inv (e := a) h1 fun p1 h1 => isNm_inv (e := b) h2 fun p2 h2 => isNm_inv (e := c) h3 fun p3 h3 => isNm_inv (e := d) h4 fun p4 h4 => ⟨h1, h2, h3, h4, of_decide_eq_true h5, inv_call h6⟩
inductive IRet (k : KD) (e : ME) : Stmt → Prop
  | mk {v p} (hc : chkE k v e = true) : IRet k e (.Return (some v) p)
theorem inv_ret {e : ME} (h : chkS k st (.ret e) = true) : IRet k e st := cRet_inv h fun v p h => cOpt_inv h fun v h => ⟨h⟩
end

noncomputable abbrev Own := String → Option Addr
noncomputable def frm (env : Env) (b : Addr) : Prop := b = env.locals ∨ ∃ x, env.cells.lookup x = some b
noncomputable def Hot (env : Env) (H₀ : Addr → Prop) (own : Own) (b : Addr) : Prop := H₀ b ∨ frm env b ∨ ∃ x, own x = some b
noncomputable def Own.less (own : Own) (ns : List String) : Own := fun x => if x ∈ ns then none else own x
theorem less_sub {own : Own} {ns : List String} {x : String} {a : Addr} (e : own.less ns x = some a) : own x = some a := by unfold Own.less at e; split at e <;> first | cases e | exact e
theorem Hot.mono {env : Env} {H₀ H₁ : Addr → Prop} {own own' : Own} (hH : ∀ b, H₁ b → H₀ b) (hs : ∀ x a, own' x = some a → own x = some a) {b : Addr} (h : Hot env H₁ own' b) : Hot env H₀ own b :=
  h.imp (hH b) fun h => h.imp id fun h => h.elim fun x h => ⟨x, hs x b h⟩
theorem Hot.less {env : Env} {H₀ : Addr → Prop} {own : Own} {ns : List String} {b : Addr} (h : Hot env H₀ (own.less ns) b) : Hot env H₀ own b := h.mono (fun _ q => q) fun _ _ => less_sub

structure StOk (w : World) (base ent h : Heap) (env : Env) (H₀ : Addr → Prop) (own : Own) (m : Str → Option Value) (σ : St) : Prop where
  rep : EnvRep h env m
  plain : ∀ x d, σ.lookup x = some (false, d) → ∃ v, m (Str.ofString x) = some v ∧ Rep w.params h (Hot env H₀ own) v d
  owned : ∀ x d, σ.lookup x = some (true, d) → ∃ a, own x = some a ∧ m (Str.ofString x) = some (.ref a) ∧ OwnD w.params h (Hot env H₀ own) a d
  hot : HOk base h (Hot env H₀ own)
  keep : KH ent h
  frE : ∀ b, frm env b → gat ent b = none
  own1 : ∀ x a, own x = some a → gat ent a = none ∧ ¬ H₀ a ∧ ¬ frm env a
  inj : ∀ x y a, own x = some a → own y = some a → x = y
  ownx : ∀ x a, own x = some a → ∃ o, gat h a = some o

section
variable {w : World} {base ent h h' : Heap} {env : Env} {H₀ H₁ : Addr → Prop} {own own' : Own} {m m' : Str → Option Value} {σ : St}
theorem StOk.off (S : StOk w base ent h env H₀ own m σ) {x : String} {a : Addr} (hx : own x = some a) (hs : ∀ y b, own' y = some b → own y = some b) (hn : own' x ≠ some a) : ¬ Hot env H₀ own' a := fun q => q.elim (S.own1 x a hx).2.1 fun q => q.elim (S.own1 x a hx).2.2 fun q => q.elim fun y e => hn (S.inj y x a (hs y a e) hx ▸ e)
theorem StOk.to (S : StOk w base ent h env H₀ own m σ) (R : EnvRep h' env m) (kp : Kept h (Hot env H₀ own) h') (ko : ∀ x a o, own x = some a → gat h a = some o → gat h' a = some o) (ls : Less h (Hot env H₀ own) (Hot env H₁ own)) (ke : KH ent h') (hx : ∀ b, H₁ b → ∃ b' o, @LE.le Nat _ b b' ∧ gat h' b' = some o) (hn : ∀ x a, own x = some a → ¬ H₁ a) : StOk w base ent h' env H₁ own m σ where
  rep := R
  plain := fun x d e => (S.plain x d e).elim fun v q => ⟨v, q.1, q.2.mono kp ls⟩
  owned := fun x d e => (S.owned x d e).elim fun a q => ⟨a, q.1, q.2.1, q.2.2.mono (fun o e => ko x a o q.1 e) kp fun b o e z => .inl (ls b o e z)⟩
  hot := ⟨fun b o e => kp b o (S.hot.off b o e) (S.hot.keep b o e), fun b q => q.elim (hx b) fun q => q.elim (fun q => (q.elim (fun q => R.loc.elim fun _ z => q ▸ gt_ns z.1) fun q => q.elim fun x z => R.ex x b z).elim fun o z => ⟨b, o, Nat.le_refl _, z⟩) fun q => q.elim fun x q => (S.ownx x b q).elim fun o z => ⟨b, o, Nat.le_refl _, ko x b o q z⟩, fun b o e q => S.hot.off b o e (ls b o (S.hot.keep b o e) q)⟩
  keep := ke
  frE := S.frE
  own1 := fun x a e => ⟨(S.own1 x a e).1, hn x a e, (S.own1 x a e).2.2⟩
  inj := S.inj
  ownx := fun x a e => (S.ownx x a e).elim fun o z => ⟨o, ko x a o e z⟩
theorem StOk.keeps (S : StOk w base ent h env H₀ own m σ) (hk : KH h h') : StOk w base ent h' env H₀ own m σ :=
  S.to (S.rep.keeps hk) (fun b o _ e => hk b o e) (fun _ a o _ e => hk a o e) (fun _ _ _ q => q) (fun b o e => hk b o (S.keep b o e)) (fun b q => (S.hot.ex b (.inl q)).elim fun b' z => z.elim fun o z => ⟨b', o, z.1, hk _ _ z.2⟩) fun x a e => (S.own1 x a e).2.1
theorem look_freeze {ns : List String} {x : String} {b : Bool} {d : D} {C : Prop} (e : (Mine.freeze ns σ).lookup x = some (b, d)) (k : ∀ o, σ.lookup x = some (o, d) → (o && !ns.contains x) = b → C) : C := by
  rw [lookup_freeze] at e
  exact om_inv e fun p h1 h2 => k p.1 (h1.trans (congrArg some (Prod.ext rfl (Prod.mk.inj h2).2))) (Prod.mk.inj h2).1
theorem StOk.freeze (S : StOk w base ent h env H₀ own m σ) (ns : List String) : StOk w base ent h env H₀ (own.less ns) m (Mine.freeze ns σ) where
  rep := S.rep
  plain := fun x d e => look_freeze e fun o h1 h2 => by
    cases o with
    | false => exact (S.plain x d h1).elim fun v q => ⟨v, q.1, q.2.sub fun _ q => q.less⟩
    | true =>
      have hm : x ∈ ns := List.contains_iff_mem.mp (by simpa using h2)
      exact (S.owned x d h1).elim fun a q => ⟨_, q.2.1, (q.2.2.sub fun _ q => q.less).rep (S.off q.1 (fun _ _ => less_sub) (by unfold Own.less; rw [if_pos hm]; nofun))⟩
  owned := fun x d e => look_freeze e fun o h1 h2 => and2 h2 fun h3 h4 => by
    subst h3
    have hm : ¬ x ∈ ns := fun q => by rw [List.contains_iff_mem.mpr q] at h4; cases h4
    exact (S.owned x d h1).elim fun a q => ⟨a, (if_neg hm).trans q.1, q.2.1, q.2.2.sub fun _ q => q.less⟩
  hot := ⟨S.hot.keep, fun a q => S.hot.ex a q.less, fun b o e q => S.hot.off b o e q.less⟩
  keep := S.keep
  frE := S.frE
  own1 := fun x a e => S.own1 x a (less_sub e)
  inj := fun x y a e1 e2 => S.inj x y a (less_sub e1) (less_sub e2)
  ownx := fun x a e => S.ownx x a (less_sub e)
theorem StOk.cc (S : StOk w base ent h env H₀ own m σ) {s : Shared} (hs : s.heap = h) (ns : List String) : Cc w base s env (Hot env H₀ (own.less ns)) (vis σ) m ns := by
  subst hs
  refine ⟨S.rep, (S.freeze ns).hot, fun x hx _ d hd => ?_⟩
  rw [lookup_vis] at hd
  refine om_inv hd fun p h1 h2 => (S.freeze ns).plain x d ?_
  rw [lookup_freeze, h1, Option.map_some, h2, List.contains_iff_mem.mpr hx, Bool.not_true, Bool.and_false]
end
end Mine
namespace Mine
open PySem PySem.SeqAt

section
variable {w : World} {base ent h h₁ h₂ : Heap} {env : Env} {H₀ : Addr → Prop} {own : Own} {m : Str → Option Value} {σ : St}

theorem frame_ex {a : Addr} (R : EnvRep h env m) (ha : frm env a) : ∃ o, gat h a = some o := ha.elim (fun e => R.loc.elim fun _ q => e ▸ gt_ns q.1) fun q => q.elim fun y e => R.ex y a e
noncomputable def Own.set (own : Own) (x : String) (nw : Option Addr) : Own := fun y => if y = x then nw else own y
theorem set_inv {x y : String} {p q : Bool × D} {C : Prop} (e : (setv σ x p).lookup y = some q) (k1 : y = x → p = q → C) (k2 : ¬ y = x → σ.lookup y = some q → C) : C := by
  rw [lookup_setv] at e
  exact if_inv2 e (fun h e => k1 h (Option.some.inj e)) k2
theorem own_inv {x y : String} {nw : Option Addr} {c : Addr} {C : Prop} (e : own.set x nw y = some c) (k1 : y = x → nw = some c → C) (k2 : ¬ y = x → own y = some c → C) : C := if_inv2 e k1 k2
theorem upd_ne {x y : String} {v : Value} (h : ¬ y = x) : upd m (Str.ofString x) v (Str.ofString y) = m (Str.ofString y) := if_neg fun e => h (ofString_inj e)
theorem StOk.set (S : StOk w base ent h env H₀ own m σ) {x : String} {v : Value} {nw : Option Addr} {fr : Bool} {d : D} (R₂ : EnvRep h₂ env (upd m (Str.ofString x) v)) (kp : Kept h (Hot env H₀ own) h₂) (ko : ∀ y a o, own y = some a → gat h a = some o → gat h₂ a = some o) (kx : ∀ b o, gat h b = some o → ∃ o', gat h₂ b = some o') (ke : KH ent h₂)
    (hnw : ∀ c, nw = some c → gat h c = none ∧ ¬ H₀ c ∧ ∃ o, gat h₂ c = some o) (hP : fr = false → Rep w.params h₂ (Hot env H₀ (own.set x nw)) v d) (hO : fr = true → ∃ c, nw = some c ∧ v = .ref c ∧ OwnD w.params h₂ (Hot env H₀ (own.set x nw)) c d) :
    StOk w base ent h₂ env H₀ (own.set x nw) (upd m (Str.ofString x) v) (setv σ x (fr, d)) :=
  have ls : Less h (Hot env H₀ own) (Hot env H₀ (own.set x nw)) := fun b o e q => q.imp id fun q => q.imp id fun q => q.elim fun y q => own_inv q (fun _ q => no_sn e (hnw b q).1) fun _ q => ⟨y, q⟩
  { rep := R₂
    plain := fun y d' e => set_inv e (fun ey ep => ⟨v, ey ▸ if_pos rfl, (Prod.mk.inj ep).2 ▸ hP (Prod.mk.inj ep).1⟩) fun ne e => (S.plain y d' e).elim fun u q => ⟨u, (upd_ne ne).trans q.1, q.2.mono kp ls⟩
    owned := fun y d' e => set_inv e (fun ey ep => (hO (Prod.mk.inj ep).1).elim fun c q => ⟨c, ey ▸ (if_pos rfl).trans q.1, ey ▸ (if_pos rfl).trans (congrArg some q.2.1), (Prod.mk.inj ep).2 ▸ q.2.2⟩) fun ne e => (S.owned y d' e).elim fun c q => ⟨c, (if_neg ne).trans q.1, (upd_ne ne).trans q.2.1, q.2.2.mono (fun o e => ko y c o q.1 e) kp fun b o e z => .inl (ls b o e z)⟩
    hot := ⟨fun b o e => kp b o (S.hot.off b o e) (S.hot.keep b o e), fun b q => q.elim (fun q => (S.hot.ex b (.inl q)).elim fun b' z => z.elim fun o z => (kx b' o z.2).elim fun o' e => ⟨b', o', z.1, e⟩) fun q => (q.elim (frame_ex R₂) fun q => q.elim fun y q => own_inv q (fun _ q => (hnw b q).2.2) fun _ q => (S.ownx y b q).elim fun o z => kx b o z).elim fun o z => ⟨b, o, Nat.le_refl _, z⟩, fun b o e q => S.hot.off b o e (ls b o (S.hot.keep b o e) q)⟩
    keep := ke
    frE := S.frE
    own1 := fun y c hc => own_inv hc (fun _ q => ⟨none_up S.keep (hnw c q).1, (hnw c q).2.1, fun z => (frame_ex S.rep z).elim fun o e => no_sn e (hnw c q).1⟩) fun _ q => S.own1 y c q
    inj := fun y z c h1 h2 => own_inv h1 (fun e1 q1 => own_inv h2 (fun e2 _ => e1.trans e2.symm) fun _ q => (S.ownx z c q).elim fun o e => no_sn e (hnw c q1).1) fun _ q1 => own_inv h2 (fun _ q => (S.ownx y c q1).elim fun o e => no_sn e (hnw c q).1) fun _ q => S.inj y z c q1 q
    ownx := fun y c hc => own_inv hc (fun _ q => (hnw c q).2.2) fun _ q => (S.ownx y c q).elim fun o z => kx c o z }
theorem StOk.turn (S : StOk w base ent h env H₀ own m σ) {x : String} {a : Addr} {d₀ d : D} (hx : σ.lookup x = some (true, d₀)) (hown : own x = some a) (hs : Heap.SameBut a h h₂) (hd : OwnD w.params h₂ (Hot env H₀ own) a d) :
    StOk w base ent h₂ env H₀ own m (setv σ x (true, d)) := by
  refine (S.owned x _ hx).elim fun a' q => ?_
  have ea : a' = a := Option.some.inj (q.1.symm.trans hown)
  subst ea
  have m1 : Mv a' h h₂ := sb_mv ⟨hs, q.2.2.notTab, hd.notTab⟩
  have g := S.own1 x a' hown
  have kp : Kept h (Hot env H₀ own) h₂ := fun b o hn e => m1 b o (fun z => hn (z ▸ .inr (.inr ⟨x, hown⟩))) e
  have kx : ∀ b o, gat h b = some o → ∃ o', gat h₂ b = some o' := fun b o e => (Classical.em (b = a')).elim (fun q => q ▸ hd.ex) fun q => ⟨o, m1 b o q e⟩
  exact
    { rep := S.rep.keepsAt fun b o hb e => m1 b o (fun z => g.2.2 (z ▸ hb)) e
      plain := fun y d' e => set_inv e (fun _ ep => nomatch (Prod.mk.inj ep).1) fun _ e => (S.plain y d' e).elim fun u z => ⟨u, z.1, z.2.mono kp fun _ _ _ q => q⟩
      owned := fun y d' e => set_inv e (fun ey ep => ⟨a', ey ▸ hown, ey ▸ q.2.1, (Prod.mk.inj ep).2 ▸ hd⟩) fun ne e => (S.owned y d' e).elim fun c z => ⟨c, z.1, z.2.1, z.2.2.mono (fun o e => m1 c o (fun w => ne (S.inj y x a' (w ▸ z.1) hown)) e) kp fun _ _ _ q => .inl q⟩
      hot := ⟨fun b o e => kp b o (S.hot.off b o e) (S.hot.keep b o e), fun b q => (S.hot.ex b q).elim fun b' z => z.elim fun o z => (kx b' o z.2).elim fun o' e => ⟨b', o', z.1, e⟩, S.hot.off⟩
      keep := fun b o e => m1 b o (fun z => no_sn e (z ▸ g.1)) (S.keep b o e)
      frE := S.frE
      own1 := S.own1
      inj := S.inj
      ownx := fun y c hc => (S.ownx y c hc).elim fun o z => kx c o z }
end
end Mine
namespace Mine
open PySem PySem.SeqAt
section
variable {prog : Program} {w : World} {A : Around}
theorem map_set (its : Array Value) (n i : Nat) (x : Value) : ∃ n', Obj.mapSeq (·.setIfInBounds i x) (lstO its n) = lstO (its.setIfInBounds i x) n' := ⟨_, rfl⟩
theorem setItem_plain {s : Shared} {l : Addr} {items : Array Value} {n : Nat} {k : Int} {t : Tok} {v : Value} {Q : Unit → Shared → Prop} {E : Value → Shared → Prop} (ho : s.heap.get? l = some (lstO items n)) (h0 : 0 ≤ k) (hfit : k < 2 ^ 63) (hn : k < items.size)
    (hQ : ∀ h', (∃ n', h'.get? l = some (lstO (items.setIfInBounds k.toNat v) n')) → Heap.SameBut l s.heap h' → Q () { s with heap := h' }) : wpAny (model prog w) A (setItem (.ref l) (.int k t) v) Q E s := by
  have hT : s.TypeIs (.ref l) "list" := ⟨_, ho, rfl⟩
  unfold setItem
  try with_reducible refine wpAny_holding ?_
  first | refine wpAny_bind (wpAny_pure ?_) | skip
  refine wpAny_bind (wpAny_sequenceKey hT (by decide) ?_)
  refine wpAny_bind (wpAny_callSpecial?_slot (name := Str.ofString "__setitem__") hT slot_list_setitem (wpAny_call_entry slot_list_setitem hT entry_list_setitem ?_ (args_list_setitem _ _ _)))
  show wpAny _ _ (Builtin.List.listSubscript? (.int k t) >>= _) _ _ s
  refine wpAny_bind (wpAny_listSubscript_int (fitsIndex_of h0 hfit) ?_)
  clear hfit
  obtain ⟨j, rfl⟩ := Int.eq_ofNat_of_zero_le h0
  have hj : j < items.size := Int.ofNat_lt.mp hn
  show wpAny _ _ ((seqItemAt l j >>= fun r => pure (r.map (j, ·))) >>= _) _ _ s
  refine wpAny_bind (wpAny_bind (wpAny_seqItemAt ho rfl (wpAny_pure ?_)))
  rw [Array.getElem?_eq_getElem hj]
  obtain ⟨n', e⟩ := map_set items n j v
  have hfin : ∃ n', (s.heap.update l (Obj.mapSeq (·.setIfInBounds j v))).get? l = some (lstO (items.setIfInBounds j v) n') := ⟨n', by rw [Heap.get?_update_self _ ho (by rw [e]; rfl), e]⟩
  show wpAny _ _ (setSeqItemAt l j v >>= _) _ _ s
  refine wpAny_bind (wpAny_setSeqItemAt ho rfl ?_)
  first
    | exact wpAny_bind (wpAny_pure (wpAny_pure ⟨.none, rfl, wpAny_pure (hQ _ hfin (Heap.SameBut.update ..))⟩))
    | exact wpAny_pure ⟨.none, rfl, wpAny_pure (hQ _ hfin (Heap.SameBut.update ..))⟩
theorem RepAll.set {P : Params} {h : Heap} {H : Addr → Prop} {v : Value} {d : D} (rv : Rep P h H v d) : ∀ {ds : List D} {vs : List Value} (i : Nat), RepAll P h H vs ds → RepAll P h H (vs.set i v) (ds.set i d)
  | [], vs, i, r => (show vs = [] from r) ▸ rfl
  | e :: ds, vs, 0, r => by
    cases vs with
    | nil => cases r
    | cons u us => cases r with | mk h1 h2 => exact .mk rv h2
  | e :: ds, vs, i + 1, r => by
    cases vs with
    | nil => cases r
    | cons u us => cases r with | mk h1 h2 => exact .mk h1 (RepAll.set rv i h2)
theorem StOk.ownAt {base ent h : Heap} {env : Env} {H₀ : Addr → Prop} {own : Own} {m : Str → Option Value} {σ : St} (S : StOk w base ent h env H₀ own m σ) {x : String} {L : Addr} {d : D} (hx : σ.lookup x = some (true, d)) (hL : own x = some L) : OwnD w.params h (Hot env H₀ own) L d :=
  (S.owned x _ hx).elim fun L' q => Option.some.inj (q.1.symm.trans hL) ▸ q.2.2
theorem setItem_own {s : Shared} {H : Addr → Prop} {L : Addr} {ks vs : List D} {u kv : Value} {d dk : D} {Q : Unit → Shared → Prop} {E : Value → Shared → Prop} (hu : A.units + 1 < cLine) (o : OwnM w.params s.heap H L ks vs)
    (rk : Rep w.params s.heap (fun b => H b ∨ b = L) kv dk) (rv : Rep w.params s.heap (fun b => H b ∨ b = L) u d) (hc : keyOk dk ks = true) (hlen : ks.length < big)
    (hQ : ∀ h' tk dw, Heap.SameBut L s.heap h' → OwnM w.params h' H L (dput ks vs dk d).1 (dput ks vs dk d).2 → Q () { s with heap := h', toks := tk, drawn := dw }) : wpAny (model prog w) A (setItem (.ref L) kv u) Q E s := by
  refine o.rec fun {es n} o1 o2 o3 o4 o5 o6 o7 o8 => ?_
  have hdl : (dput ks vs dk d).1.length ≤ big := Nat.le_trans (dput_len dk d ks vs) hlen
  have mv : ∀ {h'}, Heap.SameBut L s.heap h' → ∀ {l : List Value} {ds : List D}, RepAll w.params s.heap (fun b => H b ∨ b = L) l ds → RepAll w.params h' (fun b => H b ∨ b = L) l ds := fun hs _ _ r =>
    r.mono (fun b o hb e => g1 hs (notTab_at o1) b (fun q => hb (.inr q)) e) fun _ _ _ q => q
  refine keyOk_inv hc fun h1 h2 => ?_
  · obtain ⟨cs, rfl⟩ := cells_ck h2
    obtain ⟨c, rfl⟩ := cell_ck h1
    have hl : cs.length = (es.toList.map (·.val)).length := by have := o3.length; rw [List.length_map, List.length_map] at this; rw [List.length_map, this]
    have hcn : cs.Nodup := (List.pairwise_map.mp o7).imp fun h e => h (congrArg ofCK e)
    refine wpAny_setItem_pairs (knd := cellKind prog w) (rep_ck rk) (dictOf_rep o1 o3 o5 o7) (fun h' hm hs => ?_) (by
      rw [List.length_zip, ← hl, Nat.min_self]
      rw [List.length_map] at hlen
      exact Nat.le_of_lt hlen)
    have p := stored_dput (k := c) rv hl hcn o4
    refine (rep_dictOf (H := fun b => H b ∨ b = L) hm).elim fun es' r => r.elim fun n' r => ?_
    rw [p.1] at r
    exact hQ _ _ _ hs ⟨r.1, hdl, r.2.1, r.2.2.1 ▸ mv hs p.2, r.2.2.2.1, r.2.2.2.2.1, r.2.2.2.2.2, o8⟩
end
end Mine
namespace Mine
open PySem PySem.SeqAt

structure Tr (h₀ : Heap) (env : Env) (own₀ : Own) (h : Heap) (own : Own) : Prop where
  k : ∀ b o, gat h₀ b = some o → ¬ frm env b → (∀ x, own₀ x ≠ some b) → gat h b = some o
  x : ∀ b o, gat h₀ b = some o → ∃ o', gat h b = some o'
  o : ∀ x a, own x = some a → own₀ x = some a ∨ gat h₀ a = none
section
variable {h₀ h h₁ h₂ : Heap} {env : Env} {own₀ own own₁ own₂ : Own}
theorem Tr.of (hk : KH h₀ h) (ho : ∀ x a, own x = some a → own₀ x = some a) : Tr h₀ env own₀ h own := ⟨fun b o e _ _ => hk b o e, fun b o e => ⟨o, hk b o e⟩, fun x a e => .inl (ho x a e)⟩
theorem Tr.keeps (hk : KH h₀ h) : Tr h₀ env own h own := .of hk fun _ _ e => e
theorem Tr.none (t : Tr h₀ env own₀ h own) {a : Addr} (e : gat h a = none) : gat h₀ a = none := none_of (t.x a) e
theorem Tr.sub (t : Tr h₀ env own₀ h own) {b : Addr} {o : Obj} (e : gat h₀ b = some o) (hn : ∀ x, own₀ x ≠ some b) : ∀ x, own x ≠ some b := fun x q => (t.o x b q).elim (hn x) fun q => no_sn e q
theorem Tr.trans (t : Tr h₀ env own₀ h₁ own₁) (u : Tr h₁ env own₁ h₂ own₂) : Tr h₀ env own₀ h₂ own₂ :=
  ⟨fun b o e hf ho => u.k b o (t.k b o e hf ho) hf (t.sub e ho), fun b o e => (t.x b o e).elim fun o' e' => u.x b o' e', fun x a e => (u.o x a e).elim (t.o x a) fun e => .inr (t.none e)⟩
end
structure RetOk (w : World) (ent h : Heap) (H₀ : Addr → Prop) (v : Value) (fr : Bool) (d : D) : Prop where
  rep : Rep w.params h H₀ v d
  keep : KH ent h
  fr : fr = true → Fr w.params ent h H₀ d v
noncomputable def noOwn : Own := fun _ => none
noncomputable def SPost (w : World) (base ent : Heap) (env : Env) (H₀ : Addr → Prop) (s : Shared) (own : Own) (r : Fl × St) (f : Flow) (s' : Shared) : Prop :=
  ∀ Q : Flow → Shared → Prop, (∀ h tk dw own' m, r.1 = .next → Tr s.heap env own h own' → StOk w base ent h env H₀ own' m r.2 → Q .next { s with heap := h, toks := tk, drawn := dw }) →
    (∀ h tk dw fr d v, r.1 = .ret fr d → Tr s.heap env own h noOwn → RetOk w ent h H₀ v fr d → Q (.ret v) { s with heap := h, toks := tk, drawn := dw }) → Q f s'

section
variable {prog : Program} {w : World} {A : Around} {base : Heap} {mg mb : Str → Option Value} {cf : CF}

noncomputable def SS (prog : Program) (w : World) (A : Around) (base : Heap) (cf : CF) (ms : MS) : Prop :=
  ∀ (s : Shared) (env : Env) (st : Stmt) (H₀ : Addr → Prop) (ent : Heap) (own : Own) (m : Str → Option Value) (σ : St) (r : Fl × St) (E : Value → Shared → Prop), chkS env.kindOf st ms = true → StOk w base ent s.heap env H₀ own m σ →
    exS cf ms σ = some r → wpAny (model prog w) A (exec st env) (SPost w base ent env H₀ s own r) E s
noncomputable def SSs (prog : Program) (w : World) (A : Around) (base : Heap) (cf : CF) (ms : List MS) : Prop :=
  ∀ (s : Shared) (env : Env) (ss : List Stmt) (H₀ : Addr → Prop) (ent : Heap) (own : Own) (m : Str → Option Value) (σ : St) (r : Fl × St) (E : Value → Shared → Prop), chkSs env.kindOf ss ms = true → StOk w base ent s.heap env H₀ own m σ →
    exSs cf ms σ = some r → wpAny (model prog w) A (execs ss env) (SPost w base ent env H₀ s own r) E s

section
variable {ent : Heap} {env : Env} {H₀ : Addr → Prop} {s : Shared} {own own₁ : Own} {m : Str → Option Value} {σ : St} {r : Fl × St} {f : Flow} {s' : Shared} {h₁ h₂ : Heap} {tk : Nat} {dw : Drawn}
theorem SPost.nx (t : Tr s.heap env own h₁ own₁) (S : StOk w base ent h₁ env H₀ own₁ m σ) : SPost w base ent env H₀ s own (.next, σ) .next { s with heap := h₁, toks := tk, drawn := dw } := fun _ hn _ => hn h₁ tk dw own₁ m rfl t S
theorem SPost.rt {fr : Bool} {d : D} {v : Value} (t : Tr s.heap env own h₁ noOwn) (R : RetOk w ent h₁ H₀ v fr d) : SPost w base ent env H₀ s own (.ret fr d, σ) (.ret v) { s with heap := h₁, toks := tk, drawn := dw } := fun _ _ hr => hr h₁ tk dw fr d v rfl t R
theorem SPost.trans (t : Tr s.heap env own h₁ own₁) (q : SPost w base ent env H₀ { s with heap := h₁, toks := tk, drawn := dw } own₁ r f s') : SPost w base ent env H₀ s own r f s' :=
  fun Q hn hr => q Q (fun h tk dw own' m e u S => hn h tk dw own' m e (t.trans u) S) fun h tk dw fr d v e u R => hr h tk dw fr d v e (t.trans u) R
noncomputable def ownS (own : Own) (d : D) (ns : List String) : Own := if d.scalar then own else own.less ns
theorem ownS_sub {d : D} {ns : List String} {x : String} {a : Addr} (e : ownS own d ns x = some a) : own x = some a := by
  unfold ownS at e; split at e
  · exact e
  · exact less_sub e
theorem StOk.settle (S : StOk w base ent h₁ env H₀ own m σ) (d : D) (ns : List String) : StOk w base ent h₁ env H₀ (ownS own d ns) m (Mine.settle d ns σ) := by
  unfold Mine.settle ownS
  cases d.scalar with
  | true => exact S
  | false => exact S.freeze ns
theorem rep_settle {H : Addr → Prop} {X : Addr → Prop} {ns : List String} {v : Value} {d : D} (rv : Rep w.params h₁ (fun b => Hot env H₀ (own.less ns) b ∨ X b) v d) : Rep w.params h₁ (fun b => Hot env H₀ (ownS own d ns) b ∨ X b) v d := by
  unfold ownS
  cases hd : d.scalar with
  | true => exact rv.scalar hd
  | false => exact rv
theorem rep_settle0 {ns : List String} {v : Value} {d : D} (rv : Rep w.params h₁ (Hot env H₀ (own.less ns)) v d) : Rep w.params h₁ (Hot env H₀ (ownS own d ns)) v d := by
  unfold ownS
  cases hd : d.scalar with
  | true => exact rv.scalar hd
  | false => exact rv
noncomputable def refOf (v : Value) : Option Addr := match v with | .ref c => some c | _ => none
noncomputable def nwOf (fr : Bool) (v : Value) : Option Addr := if fr then refOf v else none
theorem store_core {x : String} {ns : List String} {d : D} {fr : Bool} {v : Value} {a : Addr} {X : Addr → Prop}
    (S : StOk w base ent s.heap env H₀ own m σ) (hk : KH s.heap h₁) (rv : Rep w.params h₁ (fun b => Hot env H₀ (own.less ns) b ∨ X b) v d)
    (hfr : fr = true → Fr w.params s.heap h₁ (fun b => Hot env H₀ (own.less ns) b ∨ X b) d v)
    (R₂ : EnvRep h₂ env (upd m (Str.ofString x) v)) (ha : frm env a) (hX : ∀ b, X b → gat s.heap b = none) (hs : ∀ b, b ≠ a → ¬ X b → ∀ {o}, gat h₁ b = some o → gat h₂ b = some o) :
    StOk w base ent h₂ env H₀ ((ownS own d ns).set x (nwOf fr v)) (upd m (Str.ofString x) v) (setv (Mine.settle d ns σ) x (fr, d)) ∧ Tr s.heap env own h₂ ((ownS own d ns).set x (nwOf fr v)) := by
  have nX : ∀ b o, gat s.heap b = some o → ¬ X b := fun b o e q => no_sn e (hX b q)
  have S' := S.settle d ns
  have ah : Hot env H₀ (ownS own d ns) a := .inr (.inl ha)
  have k2 : ∀ b o, gat s.heap b = some o → b ≠ a → gat h₂ b = some o := fun b o e q => hs b q (nX b o e) (hk b o e)
  have kx : ∀ b o, gat s.heap b = some o → ∃ o', gat h₂ b = some o' := fun b o e => (Classical.em (b = a)).elim (fun q => q ▸ frame_ex R₂ ha) fun q => ⟨o, k2 b o e q⟩
  have hF : ∀ c, nwOf fr v = some c → fr = true ∧ v = .ref c := fun c hc => by
    cases fr with
    | false => cases hc
    | true =>
      refine ⟨rfl, Fr.rec (motive := fun v _ => refOf v = some c → v = .ref c) (fun _ _ e => congrArg Value.ref (Option.some.inj e)) (hfr rfl) hc⟩
  have hN : ∀ c, v = .ref c → fr = true → gat s.heap c = none ∧ ¬ H₀ c ∧ ¬ X c ∧ OwnD w.params h₁ (fun b => Hot env H₀ (own.less ns) b ∨ X b) c d := fun c e hf => by
    subst e
    cases hfr hf with
    | mk g o =>
      have z := o.off rv
      exact ⟨g, fun q => z (.inl (.inl q)), fun q => z (.inr q), o⟩
  have hnw : ∀ c, nwOf fr v = some c → gat s.heap c = none ∧ ¬ H₀ c ∧ ∃ o, gat h₂ c = some o := fun c hc =>
    have q := hN c (hF c hc).2 (hF c hc).1
    ⟨q.1, q.2.1, q.2.2.2.ex.elim fun o e => ⟨o, hs c (fun z => (frame_ex S.rep ha).elim fun o' e' => no_sn e' (z ▸ q.1)) q.2.2.1 e⟩⟩
  have hot' : ∀ b, Hot env H₀ ((ownS own d ns).set x (nwOf fr v)) b → Hot env H₀ (ownS own d ns) b ∨ nwOf fr v = some b := fun b q => q.elim (fun q => .inl (.inl q)) fun q => q.elim (fun q => .inl (.inr (.inl q))) fun q => q.elim fun y q => own_inv q (fun _ q => .inr q) fun _ q => .inl (.inr (.inr ⟨y, q⟩))
  refine ⟨S'.set R₂ (fun b o hn e => k2 b o e fun q => hn (q ▸ ah)) (fun y c o hy e => k2 c o e fun q => (S'.own1 y c hy).2.2 (q ▸ ha)) kx (fun b o e => k2 b o (S.keep b o e) fun q => no_sn e (q ▸ S.frE a ha)) hnw (fun hf => ?_) fun hf => ?_, fun b o e hf _ => k2 b o e fun q => hf (q ▸ ha), kx, fun y c hc => own_inv hc (fun _ q => .inr (hnw c q).1) fun _ q => .inl (ownS_sub q)⟩
  · subst hf
    exact (rep_settle (H := H₀) rv).mono (fun b o hn e => hs b (fun q => hn (.inl (q ▸ ah))) (fun q => hn (.inr q)) e) fun b o _ q => .inl ((hot' b q).elim id fun q => nomatch q)
  · subst hf
    have hv : ∃ c, v = .ref c := Fr.rec (motive := fun v _ => ∃ c, v = .ref c) (fun _ _ => ⟨_, rfl⟩) (hfr rfl)
    refine hv.elim fun c e => ⟨c, by rw [e]; rfl, e, ?_⟩
    have q := hN c e rfl
    have hsc : ownS own d ns = own.less ns := by unfold ownS; rw [q.2.2.2.scalar]; rfl
    have ca : c ≠ a := fun z => (frame_ex S.rep ha).elim fun o' e' => no_sn e' (z ▸ q.1)
    rw [hsc] at ah hot' ⊢
    exact q.2.2.2.mono (fun o e => hs c ca q.2.2.1 e) (fun b o hn e => hs b (fun q => hn (.inl (q ▸ ah))) (fun q => hn (.inr q)) e) fun b o _ z => (hot' b z).elim (fun z => .inl (.inl z)) fun z => .inr (Value.ref.inj ((hF b z).2.symm.trans e))
end
theorem isStore_kind {k : KD} {x : Str} (hx : isStore k x = true) : k x = some .local ∨ k x = some .cell := by
  unfold isStore at hx
  simp only [Bool.and_eq_true, Bool.or_eq_true, beq_iff_eq] at hx
  exact hx.1

structure Cx (prog : Program) (w : World) (A : Around) (base : Heap) (mg mb : Str → Option Value) (cf : CF) : Prop where
  G : GOk mg mb base
  C : CSound prog w base mg cf A
  hh : A.handled = none
  hu : Room A
section
variable {s : Shared} {env : Env} {H₀ : Addr → Prop} {ent : Heap} {own : Own} {m : Str → Option Value} {σ : St} {e : ME} {d : D} {fr : Bool} {v : Expr} {E : Value → Shared → Prop} {Q : Value → Shared → Prop}
theorem run_E (Z : Cx prog w A base mg mb cf) (S : StOk w base ent s.heap env H₀ own m σ) (hc : chkE env.kindOf v e = true) (hd : evE cf (vis σ) e = some d)
    (k : ∀ u h tk dw, KH s.heap h → Rep w.params h (Hot env H₀ (own.less e.names)) u d → Q u { s with heap := h, toks := tk, drawn := dw }) : wpAny (model prog w) A (eval v env) Q E s := by
  exact wp_post ((all_E Z.G Z.C Z.hh Z.hu e).e s env v _ (vis σ) m d E hc (S.cc rfl e.names) hd) k
theorem run_F (Z : Cx prog w A base mg mb cf) (S : StOk w base ent s.heap env H₀ own m σ) (hc : chkE env.kindOf v e = true) (hd : evF cf (vis σ) e = some (d, fr))
    (k : ∀ u h tk dw, KH s.heap h → Rep w.params h (Hot env H₀ (own.less e.names)) u d → (fr = true → Fr w.params s.heap h (Hot env H₀ (own.less e.names)) d u) → Q u { s with heap := h, toks := tk, drawn := dw }) :
    wpAny (model prog w) A (eval v env) Q E s := by
  exact wp_m ((all_E Z.G Z.C Z.hh Z.hu e).f s env v _ (vis σ) m d fr E hc (S.cc rfl e.names) hd) fun u s₁ q => q.rec fun kp rv hf => Keeps.rec (motive := fun s' _ => Rep w.params s'.heap (Hot env H₀ (own.less e.names)) u d → (fr = true → Fr w.params s.heap s'.heap (Hot env H₀ (own.less e.names)) d u) → Q u s') (fun h tk dw hk rv hf => k u h tk dw hk rv hf) kp rv hf
theorem run_T (Z : Cx prog w A base mg mb cf) (S : StOk w base ent s.heap env H₀ own m σ) (hc : chkE env.kindOf v e = true) (hd : evE cf (vis σ) e = some d) {b : Bool} (ht : truth d = some b) {Q : Bool → Shared → Prop}
    (k : ∀ h tk dw, KH s.heap h → Q b { s with heap := h, toks := tk, drawn := dw }) : wpAny (model prog w) A (isTrue v env (eval v env)) Q E s := by
  exact wp_m ((all_E Z.G Z.C Z.hh Z.hu e).t s env v _ (vis σ) m d b E hc (S.cc rfl e.names) hd ht) fun u s₁ q => Keeps.rec (motive := fun s' _ => Q u s') (fun h tk dw hk => q.e ▸ k h tk dw hk) q.k
end
theorem isComp_inv {e : ME} {C : ME → Prop} (h : e.isComp = true) (k : ∀ elt x src cs, C (.comp elt x src cs)) : C e := ME.comp.elim (motive_1 := C) e (of_decide_eq_true h) k
theorem xi_assign {x : String} {e : ME} {σ : St} {r : Fl × St} {C : Prop} (h : exS cf (.assign x e) σ = some r) (k : ∀ d fr, evF cf (vis σ) e = some (d, fr) → (.next, setv (Mine.settle d e.names σ) x (fr, d)) = r → C) : C := by
  rw [xs_assign] at h
  cases he : evF cf (vis σ) e with
  | none => rw [he] at h; exact fin_none h
  | some p => rw [he] at h; exact k p.1 p.2 he (Option.some.inj h)
theorem assign_comp (Z : Cx prog w A base mg mb cf) {s : Shared} {env : Env} {H₀ : Addr → Prop} {ent : Heap} {own : Own} {m : Str → Option Value} {σ : St} {x z : String} {elt src : ME} {cs : List ME} {d : D} {fr : Bool} {v : Expr} {p pos : Pos} {E : Value → Shared → Prop}
    (hst : isStore env.kindOf (Str.ofString x) = true) (S : StOk w base ent s.heap env H₀ own m σ) (hd : evF cf (vis σ) (.comp elt z src cs) = some (d, fr)) (hi : IComp env.kindOf elt z src cs v)
    (plain : swapsWith v (some (.Name (Str.ofString x) p)) pos.line env = pure false → wpAny (model prog w) A (exec (.Assign [.Name (Str.ofString x) p] v pos) env) (SPost w base ent env H₀ s own (.next, setv (Mine.settle d (ME.comp elt z src cs).names σ) x (fr, d))) E s) :
    wpAny (model prog w) A (exec (.Assign [.Name (Str.ofString x) p] v pos) env) (SPost w base ent env H₀ s own (.next, setv (Mine.settle d (ME.comp elt z src cs).names σ) x (fr, d))) E s := by
  obtain @⟨t, py, it, ifs, scope, lp, c1, c2, c3, c4, c5⟩ := hi
  have hsw : ∃ b, swapsWith (.ListComp t [⟨.Name (Str.ofString z) py, it, ifs, 0⟩] scope lp) (some (.Name (Str.ofString x) p)) pos.line env = pure b := ⟨_, rfl⟩
  obtain ⟨b, hsw⟩ := hsw
  cases b with
  | false => exact plain hsw
  | true =>
    clear plain
    refine evF_inv hd rfl fun hd hf => ?_
    rw [exec_Assign_Name_used _ _ _ _ hsw]
    refine wpAny_bind (wpAny_standAt (wpAny_bind ?_))
    show wpAny _ A (do let _ ← comprehension (.ListComp t [⟨.Name (Str.ofString z) py, it, ifs, 0⟩] scope lp) scope env _ (newList []) false (eval it env) (some (assign (.Name (Str.ofString x) p) env))) _ _ s
    have c := S.cc (s := s) rfl (ME.comp elt z src cs).names
    refine wpAny_bind (wp_m (comp_snd (use := some (assign (.Name (Str.ofString x) p) env)) (Q := fun _ s' => SPost w base ent env H₀ s own (.next, setv (Mine.settle d (ME.comp elt z src cs).names σ) x (fr, d)) .next s') Z.hh (all_E Z.G Z.C Z.hh Z.hu elt).e (all_E Z.G Z.C Z.hh Z.hu src).e (all_Cs Z.G Z.C Z.hh Z.hu cs) c1 c2 c3 c4 c5 c hd ?_)
      fun _ s' hq => wpAny_pure (wpAny_pure hq))
    intro L Cc h' tk dw m' out hdl hL hC hLC hns hown hk
    subst hdl hf
    show wpAny _ A (assign (.Name (Str.ofString x) p) env (.ref L)) _ _ _
    refine wpAny_assign_Name (store_snd (s := { s with heap := h', toks := tk, drawn := dw }) (S.rep.keeps hk) (isStore_kind hst) fun h₂ tk₂ dw₂ a R₂ ha hs => ?_)
    have ha' : frm env a := ha.imp id fun e => ⟨_, e⟩
    have nfC : ¬ frm env Cc := fun q => (frame_ex S.rep q).elim fun o e => no_sn e hC
    have hn2 := hns.sameBut hs.s fun q => nfC (q ▸ ha')
    refine ⟨m', hn2, fun h₃ hs₃ => ?_⟩
    have nt := notTab_ns hn2
    have hLn : gat s.heap L = none := by
      cases e : gat s.heap L with
      | none => rfl
      | some o => exact absurd (hL _ _ e) (Nat.lt_irrefl _)
    have hLo : ¬ Hot env H₀ (own.less (ME.comp elt z src cs).names) L := fun q => (c.x L q).elim fun b q => q.elim fun o q => Nat.lt_irrefl _ (Nat.lt_of_le_of_lt q.1 (hL b o q.2))
    have q := store_core (fr := true) (X := fun b => b = Cc) (h₁ := h') S hk (hown.rep fun q => q.elim hLo hLC) (fun _ => ⟨hLn, hown⟩) (R₂.keepsAt fun b o hb e => g1 hs₃ nt b (fun q => nfC (q ▸ hb)) e) ha' (fun b q => q ▸ hC) fun b hb1 hb2 _ e => g1 hs₃ nt b hb2 ((hs.g b hb1).trans e)
    exact SPost.nx q.2 q.1
theorem assign_plain (Z : Cx prog w A base mg mb cf) {s : Shared} {env : Env} {H₀ : Addr → Prop} {ent : Heap} {own : Own} {m : Str → Option Value} {σ : St} {x : String} {e : ME} {d : D} {fr : Bool} {v : Expr} {p pos : Pos} {E : Value → Shared → Prop} {Q : Flow → Shared → Prop}
    (hst : isStore env.kindOf (Str.ofString x) = true) (hc : chkE env.kindOf v e = true) (S : StOk w base ent s.heap env H₀ own m σ) (hd : evF cf (vis σ) e = some (d, fr)) (hsw : swapsWith v (some (.Name (Str.ofString x) p)) pos.line env = pure false)
    (k : ∀ u h tk dw, StOk w base ent h env H₀ ((ownS own d e.names).set x (nwOf fr u)) (upd m (Str.ofString x) u) (setv (Mine.settle d e.names σ) x (fr, d)) → Tr s.heap env own h ((ownS own d e.names).set x (nwOf fr u)) → Q .next { s with heap := h, toks := tk, drawn := dw }) : wpAny (model prog w) A (exec (.Assign [.Name (Str.ofString x) p] v pos) env) Q E s :=
  wpAny_Assign_Name (run_F Z S hc hd fun u h₁ tk₁ dw₁ hk rv hfr => store_snd (s := { s with heap := h₁, toks := tk₁, drawn := dw₁ }) (S.rep.keeps hk) (isStore_kind hst) fun h₂ tk₂ dw₂ a R₂ ha hs =>
    have q := store_core (X := fun _ => False) S hk (rv.sub fun _ q => q.elim id False.elim) (fun hf => (hfr hf).sub fun _ q => q.elim id False.elim) R₂ (ha.imp id fun e => ⟨_, e⟩) (fun _ q => q.elim) fun b hb _ _ e => (hs.g b hb).trans e
    k u h₂ tk₂ dw₂ q.1 q.2) hsw
theorem ss_assign (Z : Cx prog w A base mg mb cf) (x : String) (e : ME) : SS prog w A base cf (.assign x e) := fun s env st H₀ ent own m σ r E hc S hev =>
  xi_assign hev fun d fr hd q => q ▸ IAssign.rec (motive := fun st _ => wpAny (model prog w) A (exec st env) (SPost w base ent env H₀ s own (.next, setv (Mine.settle d e.names σ) x (fr, d))) E s) (fun {p v pos} hst hc => by
    have plain : swapsWith v (some (.Name (Str.ofString x) p)) pos.line env = pure false → wpAny (model prog w) A (exec (.Assign [.Name (Str.ofString x) p] v pos) env) (SPost w base ent env H₀ s own (.next, setv (Mine.settle d e.names σ) x (fr, d))) E s := fun hsw =>
      assign_plain Z hst hc S hd hsw fun u h tk dw q1 q2 => SPost.nx q2 q1
    cases hcm : e.isComp with
    | false => exact plain ((looks hc).swap hcm _ _ _)
    | true => exact isComp_inv (C := fun e => chkE env.kindOf v e = true → evF cf (vis σ) e = some (d, fr) → (_ → wpAny (model prog w) A (exec (.Assign [.Name (Str.ofString x) p] v pos) env) (SPost w base ent env H₀ s own (.next, setv (Mine.settle d e.names σ) x (fr, d))) E s) → wpAny (model prog w) A (exec (.Assign [.Name (Str.ofString x) p] v pos) env) (SPost w base ent env H₀ s own (.next, setv (Mine.settle d e.names σ) x (fr, d))) E s) hcm (fun elt z src cs hc hd plain => assign_comp Z hst S hd (inv_comp hc) plain) hc hd plain) (inv_assign hc)
end
end Mine
namespace Mine
open PySem PySem.SeqAt

theorem freeze_nil : ∀ (σ : St), freeze [] σ = σ
  | [] => rfl
  | (x, (o, d)) :: r => by
    have := freeze_nil r
    unfold freeze at this ⊢
    rw [List.map_cons, this]
    simp
theorem settle_nil (d : D) (σ : St) : settle d [] σ = σ := by
  unfold settle
  split
  · rfl
  · exact freeze_nil σ
theorem less_nil (own : Own) : own.less [] = own := by
  funext x
  simp [Own.less]

section
variable {prog : Program} {w : World} {A : Around} {base : Heap} {mg mb : Str → Option Value} {cf : CF}
variable {ent h h' : Heap} {env : Env} {H₀ : Addr → Prop} {own : Own} {m : Str → Option Value} {σ : St} {I : Addr}

theorem hot_add {b : Addr} (q : Hot env (fun b => H₀ b ∨ b = I) own b) : Hot env H₀ own b ∨ b = I := q.elim (fun q => q.elim (fun q => .inl (.inl q)) .inr) fun q => .inl (.inr q)
theorem hot_sub {b : Addr} (q : Hot env H₀ own b) : Hot env (fun b => H₀ b ∨ b = I) own b := q.imp .inl id
theorem StOk.addH (S : StOk w base ent h env H₀ own m σ) (hk : KH h h') (hI : gat h I = none) (hIx : ∃ o, gat h' I = some o) :
    StOk w base ent h' env (fun b => H₀ b ∨ b = I) own m σ :=
  S.to (S.rep.keeps hk) (fun b o _ e => hk b o e) (fun _ a o _ e => hk a o e) (fun b o e q => (hot_add q).elim id fun q => no_sn e (q ▸ hI)) (fun b o e => hk b o (S.keep b o e)) (fun b q => q.elim (fun q => (S.hot.ex b (.inl q)).elim fun b' z => z.elim fun o z => ⟨b', o, z.1, hk _ _ z.2⟩) fun q => hIx.elim fun o z => ⟨I, o, q ▸ Nat.le_refl _, z⟩)
    fun x a e q => q.elim (S.own1 x a e).2.1 fun q => (S.ownx x a e).elim fun o z => no_sn z (q ▸ hI)
theorem kept_I (hk : Mv I h h') : Kept h (Hot env (fun b => H₀ b ∨ b = I) own) h' := fun b o hn e => hk b o (fun q => hn (q ▸ .inl (.inr rfl))) e
theorem StOk.turnI (S : StOk w base ent h env (fun b => H₀ b ∨ b = I) own m σ) (hk : Mv I h h') (hIx : ∃ o, gat h' I = some o) (hf : ¬ frm env I) (hE : gat ent I = none) :
    StOk w base ent h' env (fun b => H₀ b ∨ b = I) own m σ :=
  S.to (S.rep.keepsAt fun b o hb e => hk b o (fun q => hf (q ▸ hb)) e) (kept_I hk) (fun x a o hx e => hk a o (fun q => (S.own1 x a hx).2.1 (.inr q)) e) (fun _ _ _ q => q) (fun b o e => hk b o (fun q => no_sn e (q ▸ hE)) (S.keep b o e))
    (fun b q => (S.hot.ex b (.inl q)).elim fun b' z => z.elim fun o z => (Classical.em (b' = I)).elim (fun e => hIx.elim fun o' y => ⟨I, o', e ▸ z.1, y⟩) fun e => ⟨b', o, z.1, hk b' o e z.2⟩) fun x a e => (S.own1 x a e).2.1
theorem StOk.leave (S : StOk w base ent h env (fun b => H₀ b ∨ b = I) own m σ) (hk : Mv I h h') (hx : Ex h' H₀) (hf : ¬ frm env I) (hE : gat ent I = none) :
    StOk w base ent h' env H₀ own m σ :=
  S.to (S.rep.keepsAt fun b o hb e => hk b o (fun q => hf (q ▸ hb)) e) (kept_I hk) (fun x a o hx e => hk a o (fun q => (S.own1 x a hx).2.1 (.inr q)) e) (fun _ _ _ q => hot_sub q) (fun b o e => hk b o (fun q => no_sn e (q ▸ hE)) (S.keep b o e)) hx fun x a e q => (S.own1 x a e).2.1 (.inl q)

theorem xi_ret {e : ME} {r : Fl × St} {C : Prop} (h : exS cf (.ret e) σ = some r) (kv : ∀ x d, e = .var x → σ.lookup x = some (true, d) → (.ret true d, σ) = r → C) (k : ∀ d fr, evF cf (vis σ) e = some (d, fr) → (.ret fr d, σ) = r → C) : C := by
  rw [xs_ret] at h
  cases hv : e.varOf with
  | none =>
    rw [hv] at h
    dsimp only at h
    cases he : evF cf (vis σ) e with
    | none => rw [he] at h; exact fin_none h
    | some p => rw [he] at h; exact k p.1 p.2 he (Option.some.inj h)
  | some x =>
    rw [hv] at h
    dsimp only at h
    cases he : σ.lookup x with
    | none => rw [he] at h; exact fin_none h
    | some p =>
      rw [he] at h
      obtain ⟨fr, d⟩ := p
      refine varOf_inv (C := fun e => e = .var x) hv rfl |> fun q => ?_
      cases fr with
      | true => exact kv x d q he (Option.some.inj h)
      | false => exact k d false (q.symm ▸ by show (evE cf (vis σ) (.var x)).map _ = _; rw [ev_var, lookup_vis, he]; rfl) (Option.some.inj h)
theorem ss_ret (Z : Cx prog w A base mg mb cf) (e : ME) : SS prog w A base cf (.ret e) := fun s env st H₀ ent own m σ r E hc S hev =>
  IRet.rec (motive := fun st _ => wpAny (model prog w) A (exec st env) (SPost w base ent env H₀ s own r) E s) (fun {v pos} hc => xi_ret hev (fun x d q hd er => by
    subst er q
    refine IVar.rec (motive := fun v _ => wpAny (model prog w) A (exec (.Return (some v) pos) env) _ E s) (fun hv => (S.owned x d hd).elim fun a q => wpAny_Return_some (load_snd S.rep hv q.2.1 ?_)) (inv_var hc)
    have o := q.2.2.sub (H' := H₀) fun _ q => .inl q
    have g := S.own1 x a q.1
    exact SPost.rt (tk := s.toks) (dw := s.drawn) (.of (fun _ _ e => e) fun _ _ e => nomatch e) ⟨o.rep g.2.1, S.keep, fun _ => ⟨g.1, o⟩⟩)
    fun d fr hd er => er ▸ wpAny_Return_some (run_F Z S hc hd fun u h₁ tk₁ dw₁ hk rv hfr => SPost.rt (.of hk fun _ _ e => nomatch e) ⟨rv.sub fun _ q => .inl q, fun b o e => hk b o (S.keep b o e), fun hf => ((hfr hf).old S.keep).sub fun _ q => .inl q⟩)) (inv_ret hc)
theorem tr_turn {s : Heap} {own own₁ : Own} {x : String} {L : Addr} {h₁ h₂ : Heap} (ho : ∀ x a, own₁ x = some a → own x = some a) (hk : KH s h₁) (hx : own₁ x = some L) (hs : ∀ b, b ≠ L → ∀ {o}, gat h₁ b = some o → gat h₂ b = some o) (hL : ∃ o, gat h₂ L = some o) : Tr s env own h₂ own₁ :=
  ⟨fun b o e _ hn => hs b (fun q => hn x (ho x b (q ▸ hx))) (hk b o e), fun b o e => by
    by_cases q : b = L
    · exact q ▸ hL
    · exact ⟨o, hs b q (hk b o e)⟩, fun y a e => .inl (ho y a e)⟩
theorem isVar_of {k : KD} {x : Str} (h : isStore k x = true) : isVar k x = true := and2 h fun _ h => h
theorem xi_append {x : String} {e : ME} {r : Fl × St} {C : Prop} (h : exS cf (.append x e) σ = some r) (k : ∀ d ds, evE cf (vis σ) e = some d → (Mine.settle d e.names σ).lookup x = some (true, .list ds) → ds.length < big → (.next, setv (Mine.settle d e.names σ) x (true, .list (ds ++ [d]))) = r → C) : C :=
  oE_inv (a := evE cf (vis σ) e) (f := fun d => match (Mine.settle d e.names σ).lookup x with
    | some (true, .list ds) => if ds.length < big then some (Fl.next, setv (Mine.settle d e.names σ) x (true, .list (ds ++ [d]))) else Option.none
    | _ => Option.none) h fun d hd h => by
    cases hl : (Mine.settle d e.names σ).lookup x with
    | none => rw [hl] at h; exact fin_none h
    | some p =>
      rw [hl] at h
      obtain ⟨o, dd⟩ := p
      cases o with
      | false => exact fin_none h
      | true => cases dd with
        | list ds => exact if_inv h fun hb e => k d ds hd hl hb e
        | _ => exact fin_none h
theorem ss_append (Z : Cx prog w A base mg mb cf) (x : String) (e : ME) : SS prog w A base cf (.append x e) := fun s env st H₀ ent own m σ r E hc S hev =>
  xi_append hev fun d ds hd hds hlen er => er ▸ IAppend.rec (motive := fun st _ => wpAny (model prog w) A (exec st env) (SPost w base ent env H₀ s own (.next, setv (Mine.settle d e.names σ) x (true, .list (ds ++ [d])))) E s) (fun {yp ap a p pos} hst hline hc => by
    have S' := S.settle d e.names
    refine (S'.owned x _ hds).elim fun L q => OwnL.rec (motive := fun _ => _) (fun {vs n} q4 q5 q6 => ?_) q.2.2
    have hstar : starEach [a] env = [(false, eval a env)] := star_cons hc
    refine wpAny_Expr (wpAny_Call_append rfl (by rw [hstar]; rfl) (by simpa using hline) (by rw [hstar]; rfl) (load_snd S.rep (isVar_of hst) q.2.1 ⟨L, vs, rfl, ⟨_, n, q4, rfl, rfl, rfl⟩, ?_⟩)) (by unfold interactive; rw [S.rep.kind]; rfl) rfl
    refine run_E Z S hc hd fun u h₁ tk₁ dw₁ hk rv => ?_
    have q4' := Heap.of_gt (hk _ _ (Heap.gt_of q4))
    refine wpAny_list_append_plain (items := vs) ⟨n, q4'⟩ (fun h₂ hl₂ hs₂ => ?_) (q6.size.symm ▸ q5)
    have hl₂' : ∃ n', h₂.get? L = some (lstO (vs.push u) n') := hl₂
    have m1 : Mv L h₁ h₂ := fun b o hb e => g1 hs₂ (notTab_at q4') b hb e
    have LH : ∀ b, (Hot env H₀ (ownS own d e.names) b ∨ b = L) → Hot env H₀ (ownS own d e.names) b := fun b q' => q'.elim id fun q' => q' ▸ .inr (.inr ⟨x, q.1⟩)
    have own2 : OwnL w.params h₂ (Hot env H₀ (ownS own d e.names)) L (ds ++ [d]) := hl₂'.elim fun n' e' => ⟨e', by rw [List.length_append]; exact hlen, by
      rw [Array.toList_push]
      exact ((q6.keeps hk).append (.cons ((rep_settle0 rv).sub LH) .nil)).mono (fun b o hn e => m1 b o (fun q => hn (.inr q)) e) fun _ _ _ q => q⟩
    exact SPost.nx (tr_turn (fun _ _ e => ownS_sub e) hk q.1 (fun b hb _ e => m1 b _ hb e) (OwnD.ex (d := .list _) own2)) ((S'.keeps hk).turn hds q.1 hs₂ (d := .list _) own2)) (inv_append hc)
theorem xi_setk {x : String} {ke e : ME} {r : Fl × St} {C : Prop} (h : exS cf (.setk x ke e) σ = some r) (k : ∀ d dk ks vs, evE cf (vis σ) e = some d → evE cf (vis σ) ke = some dk → (Mine.settle dk ke.names (Mine.settle d e.names σ)).lookup x = some (true, .dict ks vs) → keyOk dk ks = true → ks.length < big →
    (.next, setv (Mine.settle dk ke.names (Mine.settle d e.names σ)) x (true, .dict (dput ks vs dk d).1 (dput ks vs dk d).2)) = r → C)
    (kl : ∀ d i ds, evE cf (vis σ) e = some d → evE cf (vis σ) ke = some (.int i) → (Mine.settle (.int i) ke.names (Mine.settle d e.names σ)).lookup x = some (true, .list ds) → 0 ≤ i → i < ds.length → (.next, setv (Mine.settle (.int i) ke.names (Mine.settle d e.names σ)) x (true, .list (ds.set i.toNat d))) = r → C) : C :=
  oE_inv (a := evE cf (vis σ) e) (f := fun d => oE (evE cf (vis σ) ke) fun dk => match (Mine.settle dk ke.names (Mine.settle d e.names σ)).lookup x with
    | some (true, .dict ks vs) => if (keyOk dk ks && decide (ks.length < big)) = true then some (Fl.next, setv (Mine.settle dk ke.names (Mine.settle d e.names σ)) x (true, .dict (dput ks vs dk d).1 (dput ks vs dk d).2)) else Option.none
    | some (true, .list ds) => onI dk fun i => if 0 ≤ i ∧ i < ds.length then some (Fl.next, setv (Mine.settle dk ke.names (Mine.settle d e.names σ)) x (true, .list (ds.set i.toNat d))) else Option.none
    | _ => Option.none) h fun d hd h => oE_inv h fun dk hdk h => by
    cases hl : (Mine.settle dk ke.names (Mine.settle d e.names σ)).lookup x with
    | none => rw [hl] at h; exact fin_none h
    | some p =>
      rw [hl] at h
      obtain ⟨o, dd⟩ := p
      cases o with
      | false => exact fin_none h
      | true => cases dd with
        | dict ks vs => exact if_inv h fun hb e => and2 hb fun h1 h2 => k d dk ks vs hd hdk hl h1 (of_decide_eq_true h2) e
        | list ds =>
          obtain ⟨i, rfl⟩ : ∃ i, dk = .int i := onI_inv (C := fun dk => ∃ i, dk = .int i) h fun i _ => ⟨i, rfl⟩
          exact if_inv h fun hb e => kl d i ds hd hdk hl hb.1 hb.2 e
        | _ => exact fin_none h
theorem less_less {own : Own} {d : D} {ns ms : List String} : ∀ x a, (ownS own d ns).less ms x = some a → own.less ms x = some a := fun x a e => by
  unfold Own.less at e ⊢; split at e <;> first | cases e | (rename_i hx; rw [if_neg hx]; exact ownS_sub e)
theorem ss_setk (Z : Cx prog w A base mg mb cf) (x : String) (ke e : ME) : SS prog w A base cf (.setk x ke e) := fun s env st H₀ ent own m σ r E hc S hev =>
  xi_setk hev (fun d dk ks vs hd hdk hds hc1 hc2 er => er ▸ ISetk.rec (motive := fun st _ => wpAny (model prog w) A (exec st env) (SPost w base ent env H₀ s own (.next, setv (Mine.settle dk ke.names (Mine.settle d e.names σ)) x (true, .dict (dput ks vs dk d).1 (dput ks vs dk d).2))) E s) (fun {yp i p v pos} hst hci hcv => by
    have S' := (S.settle d e.names).settle dk ke.names
    refine (S'.owned x _ hds).elim fun L q => wpAny_Assign_Subscript (run_E Z S hcv hd fun u h₁ tk₁ dw₁ hk rv => load_snd (s := { s with heap := h₁, toks := tk₁, drawn := dw₁ }) (S.rep.keeps hk) (isVar_of hst) q.2.1 ?_) (by cases v <;> rfl)
    have Sk : StOk w base ent ({ s with heap := h₁, toks := tk₁, drawn := dw₁ } : Shared).heap env H₀ own m σ := S.keeps hk
    refine run_E Z Sk hci hdk fun kv h₂ tk₂ dw₂ hk2 rk => ?_
    have k02 : KH s.heap h₂ := fun b o e => hk2 b o (hk b o e)
    have LHot : ∀ b, Hot env H₀ (ownS (ownS own d e.names) dk ke.names) b ∨ b = L → Hot env H₀ (ownS (ownS own d e.names) dk ke.names) b := fun b z => z.elim id fun z => z ▸ .inr (.inr ⟨x, q.1⟩)
    have So : OwnM w.params h₂ (Hot env H₀ (ownS (ownS own d e.names) dk ke.names)) L ks vs := (S'.keeps k02).ownAt hds q.1
    refine setItem_own (s := { s with heap := h₂, toks := tk₂, drawn := dw₂ }) Z.hu.u1 So ((rep_settle0 (rk.sub fun _ q => q.mono (fun _ q => q) less_less)).sub LHot) ((rep_settle0 rv).mono (fun b o _ e => hk2 b o e) fun b o _ q => (LHot b q).mono (fun _ q => q) fun _ _ => ownS_sub) hc1 hc2 fun h' tk dw hs own2 => ?_
    have nt : ∀ o, h₂.get? L = some o → isTab o = false := OwnD.notTab (d := .dict _ _) So
    exact SPost.nx (tr_turn (fun _ a e => ownS_sub (ownS_sub e)) k02 q.1 (fun b hb _ e => g1 hs nt b hb e) (OwnD.ex (d := .dict _ _) own2)) ((S'.keeps k02).turn hds q.1 hs (d := .dict _ _) own2)) (inv_setk hc))
    fun d i ds hd hdk hds h0 hi er => er ▸ ISetk.rec (motive := fun st _ => wpAny (model prog w) A (exec st env) (SPost w base ent env H₀ s own (.next, setv (Mine.settle (.int i) ke.names (Mine.settle d e.names σ)) x (true, .list (ds.set i.toNat d)))) E s) (fun {yp ix p v pos} hst hci hcv => by
      have S' := (S.settle d e.names).settle (.int i) ke.names
      refine (S'.owned x _ hds).elim fun L q => wpAny_Assign_Subscript (run_E Z S hcv hd fun u h₁ tk₁ dw₁ hk rv => load_snd (s := { s with heap := h₁, toks := tk₁, drawn := dw₁ }) (S.rep.keeps hk) (isVar_of hst) q.2.1 ?_) (by cases v <;> rfl)
      have Sk : StOk w base ent ({ s with heap := h₁, toks := tk₁, drawn := dw₁ } : Shared).heap env H₀ own m σ := S.keeps hk
      refine run_E Z Sk hci hdk fun kv h₂ tk₂ dw₂ hk2 rk => rk.intE fun t => ?_
      have k02 : KH s.heap h₂ := fun b o e => hk2 b o (hk b o e)
      have LHot : ∀ b, Hot env H₀ (ownS (ownS own d e.names) (.int i) ke.names) b ∨ b = L → Hot env H₀ (ownS (ownS own d e.names) (.int i) ke.names) b := fun b z => z.elim id fun z => z ▸ .inr (.inr ⟨x, q.1⟩)
      have So : OwnL w.params h₂ (Hot env H₀ (ownS (ownS own d e.names) (.int i) ke.names)) L ds := (S'.keeps k02).ownAt hds q.1
      have rv' := (rep_settle0 rv).mono (fun b o _ e => hk2 b o e) fun b o _ q => (LHot b q).mono (fun _ q => q) fun _ _ => ownS_sub
      have nt : ∀ o, h₂.get? L = some o → isTab o = false := OwnD.notTab (d := .list _) So
      obtain ⟨j, rfl⟩ := Int.eq_ofNat_of_zero_le h0
      obtain @⟨vs, n, o1, o2, o3⟩ := So
      have hj : j < ds.length := Int.ofNat_lt.mp hi
      refine setItem_plain (s := { s with heap := h₂, toks := tk₂, drawn := dw₂ }) o1 h0 (Int.lt_of_lt_of_le hi (Int.le_trans (Int.ofNat_le.mpr o2) (by decide))) (Int.ofNat_lt.mpr (o3.size.symm ▸ hj)) fun h' hl hs => hl.elim fun n' hl => ?_
      have own2 : OwnL w.params h' (Hot env H₀ (ownS (ownS own d e.names) (.int j) ke.names)) L (ds.set j d) := ⟨hl, by rw [List.length_set]; exact o2, by
        rw [Array.toList_setIfInBounds]
        exact (RepAll.set rv' j o3).mono (fun b o hb e => g1 hs nt b (fun q => hb (.inr q)) e) fun _ _ _ q => q⟩
      exact SPost.nx (tr_turn (fun _ a e => ownS_sub (ownS_sub e)) k02 q.1 (fun b hb _ e => g1 hs nt b hb e) (OwnD.ex (d := .list _) own2)) ((S'.keeps k02).turn hds q.1 hs (d := .list _) own2)) (inv_setk hc)
theorem wp_S {M : Model} {s : Shared} {r : Fl × St} {E : Value → Shared → Prop} {c : Sem Flow} {Q : Flow → Shared → Prop} (hq : wpAny M A c (SPost w base ent env H₀ s own r) E s)
    (hn : ∀ h tk dw own' m, r.1 = .next → Tr s.heap env own h own' → StOk w base ent h env H₀ own' m r.2 → Q .next { s with heap := h, toks := tk, drawn := dw })
    (hr : ∀ h tk dw fr d v, r.1 = .ret fr d → Tr s.heap env own h noOwn → RetOk w ent h H₀ v fr d → Q (.ret v) { s with heap := h, toks := tk, drawn := dw }) : wpAny M A c Q E s :=
  wpAny_mono hq (fun f s' q => q Q hn hr) fun _ _ e => e
theorem sss_nil : SSs prog w A base cf [] := fun s env ss H₀ ent own m σ r E hc S hev =>
  nilb (C := fun ss => wpAny (model prog w) A (execs ss env) (SPost w base ent env H₀ s own r) E s) hc (wpAny_execs_nil (Option.some.inj hev ▸ SPost.nx (tk := s.toks) (dw := s.drawn) (.keeps fun _ _ e => e) S))
theorem xi_cons {a : MS} {l : List MS} {r : Fl × St} {C : Prop} (h : exSs cf (a :: l) σ = some r) (k1 : ∀ σ₁, exS cf a σ = some (.next, σ₁) → exSs cf l σ₁ = some r → C) (k2 : ∀ fr d, exS cf a σ = some r → r.1 = .ret fr d → C) : C := by
  rw [xss_cons] at h
  cases ha : exS cf a σ with
  | none => rw [ha] at h; exact fin_none h
  | some p =>
    rw [ha] at h
    obtain ⟨fl, σ₁⟩ := p
    cases fl with
    | next => exact k1 σ₁ ha h
    | ret fr d => exact k2 fr d (ha.trans h) (congrArg Prod.fst (Option.some.inj h)).symm
theorem sss_cons {a : MS} {l : List MS} (ha : SS prog w A base cf a) (hl : SSs prog w A base cf l) : SSs prog w A base cf (a :: l) := fun s env ss H₀ ent own m σ r E hc S hev => by
  cases ss with
  | nil => cases hc
  | cons st ss' =>
    exact and2 hc fun hc1 hc2 => xi_cons hev (fun σ₁ h1 h2 => wpAny_execs_cons (wp_S (ha s env st H₀ ent own m σ _ E hc1 S h1) (fun h tk dw own' m' _ t S' => wp_m (hl _ env ss' H₀ ent own' m' σ₁ r E hc2 S' h2) fun f s₂ q => q.trans t) fun _ _ _ _ _ _ e _ _ => nomatch e))
      fun fr d h1 h2 => wpAny_execs_cons (wp_S (ha s env st H₀ ent own m σ r E hc1 S h1) (fun _ _ _ _ _ e _ _ => nomatch h2.symm.trans e) fun h tk dw fr d v e t R Q _ hr => hr h tk dw fr d v e t R)
theorem xi_ite {c : ME} {t f : List MS} {r : Fl × St} {C : Prop} (h : exS cf (.ite c t f) σ = some r) (k : ∀ d b, evE cf (vis σ) c = some d → truth d = some b → exSs cf (if b then t else f) σ = some r → C) : C :=
  oE_inv (a := evE cf (vis σ) c) (f := fun d => match truth d with
      | some true => exSs cf t σ
      | some false => exSs cf f σ
      | Option.none => Option.none) h fun d hd h => by
    cases ht : truth d with
    | none => rw [ht] at h; exact fin_none h
    | some b => rw [ht] at h; cases b <;> exact k d _ hd ht h
theorem ss_ite (Z : Cx prog w A base mg mb cf) {c : ME} {t f : List MS} (ht : SSs prog w A base cf t) (hf : SSs prog w A base cf f) : SS prog w A base cf (.ite c t f) := fun s env st H₀ ent own m σ r E hc S hev =>
  xi_ite hev fun d b hd hb he => IIte.rec (motive := fun st _ => wpAny (model prog w) A (exec st env) (SPost w base ent env H₀ s own r) E s) (fun {v b' o p} hc h1 h2 => wpAny_If (run_T Z S hc hd hb fun h₁ tk₁ dw₁ hk => by
    cases b with
    | true => exact wp_m (ht _ env _ H₀ ent own m σ r E h1 (S.keeps hk) he) fun f s₂ q => q.trans (.keeps hk)
    | false => exact wp_m (hf _ env _ H₀ ent own m σ r E h2 (S.keeps hk) he) fun f s₂ q => q.trans (.keeps hk))) (inv_ite hc)
noncomputable def JPost (w : World) (base ent : Heap) (env : Env) (H₀ : Addr → Prop) (s : Shared) (own : Own) (J : List D → Own → St → Prop) (K : Bool → D → St → Prop) (rest : List D) (f : Flow) (s' : Shared) : Prop :=
  ∀ Q : Flow → Shared → Prop, (∀ h tk dw own' m σ, J rest own' σ → Tr s.heap env own h own' → StOk w base ent h env H₀ own' m σ → Q .next { s with heap := h, toks := tk, drawn := dw }) →
    (∀ h tk dw fr d v σ, K fr d σ → Tr s.heap env own h noOwn → RetOk w ent h H₀ v fr d → Q (.ret v) { s with heap := h, toks := tk, drawn := dw }) → Q f s'
noncomputable def nf (f : Flow) : Flow := match f with | .cont => .next | f => f
theorem nf_in {P : Flow → Prop} (h : P .next → P .cont) (f : Flow) (q : P (nf f)) : P f := match f, q with
  | .cont, q => h q
  | .next, q => q
  | .brk, q => q
  | .ret _, q => q
inductive ForI (w : World) (base ent h1 : Heap) (env : Env) (H₀ : Addr → Prop) (I : Addr) (own : Own) (its : List D) (Stt : Nat → Heap → Prop) (J : List D → Own → St → Prop) (s : Shared) (k : Nat) : Shared → Prop
  | mk {h tk dw done rest own' m' σ'} (dr : its = done ++ rest) (st : Stt done.length h) (S : StOk w base ent h env (fun b => H₀ b ∨ b = I) own' m' σ') (t : Tr h1 env own h own') (fr : J rest own' σ') (kn : k = rest.length + 1) :
    ForI w base ent h1 env H₀ I own its Stt J s k { s with heap := h, toks := tk, drawn := dw }
theorem ownS_nil (own : Own) (d : D) : ownS own d [] = own := by
  unfold ownS; split
  · rfl
  · exact less_nil own
noncomputable def BodyOk (prog : Program) (w : World) (A : Around) (base ent : Heap) (env : Env) (x : String) (J : List D → Own → St → Prop) (K : Bool → D → St → Prop) (b : List Stmt) : Prop :=
  ∀ (s : Shared) (H₁ : Addr → Prop) (own : Own) (m : Str → Option Value) (σ : St) (dv : D) (rest : List D) (E : Value → Shared → Prop), J (dv :: rest) own σ → StOk w base ent s.heap env H₁ (own.set x none) m (setv σ x (false, dv)) →
    wpAny (model prog w) A (execs b env) (fun f s' => JPost w base ent env H₁ s (own.set x none) J K rest (nf f) s') E s
section
variable {h1 hh1 : Heap} {own₀ own' : Own} {its done rest : List D} {fp : List Addr} {P : Nat → Value → Prop} {Stt : Nat → Heap → Prop}
theorem hot_tr (t : Tr h1 env own₀ h own') (hn : gat h1 I = none) {b : Addr} {o : Obj} (e : gat h1 b = some o) (q : Hot env (fun b => H₀ b ∨ b = I) own' b) : Hot env H₀ own₀ b :=
  (hot_add q).elim (fun q => q.imp id fun q => q.imp id fun q => q.elim fun z q => (t.o z b q).elim (fun q => ⟨z, q⟩) fun q => no_sn e q) fun q => no_sn e (q ▸ hn)
theorem kk_tr (t : Tr h1 env own₀ h own') (hk : Mv I h h') (hn : gat h1 I = none) {b : Addr} {o : Obj} (hh : ¬ Hot env H₀ own₀ b) (e : gat h1 b = some o) : gat h' b = some o :=
  hk b o (fun q => no_sn e (q ▸ hn)) (t.k b o e (fun q => hh (.inr (.inl q))) fun z q => hh (.inr (.inr ⟨z, q⟩)))
theorem tr_I (t : Tr h1 env own₀ h own') (hk : Mv I h h') (hn : gat h1 I = none) : Tr h1 env own₀ h' own' :=
  ⟨fun b o e hf ho => hk b o (fun q => no_sn e (q ▸ hn)) (t.k b o e hf ho), fun b o e => (t.x b o e).elim fun o' e' => ⟨o', hk b o' (fun q => no_sn e (q ▸ hn)) e'⟩, t.o⟩
theorem walk_stay (W : Walks prog w A I fp [I] its.length P Stt) (fpo : ∀ b ∈ fp, b = I ∨ (¬ Hot env H₀ own₀ b ∧ ∃ o, gat h1 b = some o)) (tab : ∀ b ∈ fp, ∀ i h o, Stt i h → h.get? b = some o → isTab o = false) {own₁ : Own} {i : Nat} (st : Stt i h) (t : Tr h1 env own₀ h own') (u : Tr h env own' h' own₁) (nI : ¬ frm env I) (nO : ∀ z, own' z ≠ some I) : Stt i h' :=
  walks_frame W tab i h h' st fun b hb o e => (fpo b hb).elim (fun q => q ▸ (u.k I o (q ▸ e) nI nO)) fun q => u.k b o e (fun z => q.1 (.inr (.inl z))) fun z y => q.2.elim fun o' e' => (t.o z b y).elim (fun y => q.1 (.inr (.inr ⟨z, y⟩))) fun y => no_sn e' y
end
theorem fbody_inv {bf : D → St → Option (Fl × St)} {dv : D} {rest : List D} {σ : St} {r : Fl × St} {C : Prop} (h : forD bf (dv :: rest) σ = some r) (k : ∀ rb, bf dv σ = some rb → (rb.1 = .next → forD bf rest rb.2 = some r) → (∀ fr d, rb.1 = .ret fr d → (.ret fr d, rb.2) = r) → C) : C := by
  cases e : bf dv σ with
  | none => rw [forD, e] at h; exact fin_none h
  | some rb =>
    rw [forD, e] at h
    obtain ⟨fl, σ₁⟩ := rb
    cases fl with
    | next => exact k _ e (fun _ => h) fun _ _ e => nomatch e
    | ret fr d => exact k _ e (fun e => nomatch e) fun fr' d' q => (congrArg (fun f => (f, σ₁)) q.symm).trans (Option.some.inj h)
theorem for_turn {x : String} {yp : Pos} {b : List Stmt} {its done rest : List D} {dv : D} {J : List D → Own → St → Prop} {K : Bool → D → St → Prop} (hb : BodyOk prog w A base ent env x J K b)
    {s : Shared} {own own₀ own' : Own} {m' : Str → Option Value} {σ' : St} {h1 : Heap} {tk : Nat} {dw : Drawn} {k : Nat} {fp : List Addr} {P : Nat → Value → Prop} {Stt : Nat → Heap → Prop}
    (hst : isStore env.kindOf (Str.ofString x) = true) (W : Walks prog w A I fp [I] its.length P Stt) (fpo : ∀ b ∈ fp, b = I ∨ (¬ Hot env H₀ own₀ b ∧ ∃ o, gat h1 b = some o)) (item : ∀ i v, i < its.length → P i v → ∃ d, its[i]? = some d ∧ Rep w.params h1 (Hot env H₀ own₀) v d) (live : ∀ i h, Stt i h → ∃ o, gat h I = some o) (tab : ∀ b ∈ fp, ∀ i h o, Stt i h → h.get? b = some o → isTab o = false)
    (new : gat h1 I = none) (nIf : ¬ frm env I) (nIe : gat ent I = none) (tS : Tr s.heap env own h1 own₀)
    (dr : its = done ++ dv :: rest) (st : Stt done.length h) (S' : StOk w base ent h env (fun b => H₀ b ∨ b = I) own' m' σ') (t : Tr h1 env own₀ h own') (hfor : J (dv :: rest) own' σ') (kn : k = (dv :: rest).length + 1)
    {NE : Value → Shared → Prop} {R : Shared → Prop} :
    wpAny (model prog w) A (pyNext (.ref I)) (fun o s₁ => match o with
      | none => R s₁
      | some v => wpAny (model prog w) A (assign (.Name (Str.ofString x) yp) env v) (fun _ s₂ => wpAny (model prog w) A (execs b env) (fun f s₃ => match f with
          | .next | .cont => ∃ m, m < k ∧ ForI w base ent h1 env H₀ I own₀ its Stt J s m s₃
          | .brk => JPost w base ent env H₀ s own J K [] .next s₃
          | .ret v => JPost w base ent env H₀ s own J K [] (.ret v) s₃) NE s₂) NE s₁) NE { s with heap := h, toks := tk, drawn := dw } := by
  have hlt : done.length < its.length := by rw [dr, List.length_append]; exact Nat.lt_add_of_pos_right (Nat.succ_pos _)
  refine W.item done.length _ _ _ hlt st fun v h₁ tk₁ hPv st₁ hk₁ => ?_
  have m1 : Mv I h h₁ := fun b o hb e => walk_lift W tab st hk₁ b o (fun q => hb (List.mem_singleton.mp q)) e
  have SI := S'.turnI m1 (live _ _ st₁) nIf nIe
  have t₁ := tr_I t m1 new
  have rv : Rep w.params h₁ (Hot env (fun b => H₀ b ∨ b = I) own') v dv := (item _ v hlt hPv).elim fun d q => by
    have e : d = dv := by
      have e1 := q.1
      rw [dr, List.getElem?_append_right (Nat.le_refl _), Nat.sub_self] at e1
      exact (Option.some.inj e1).symm
    exact e ▸ q.2.mono (fun b o hn e => kk_tr t m1 new hn e) fun b o e q => hot_tr t new e q
  refine wpAny_assign_Name (store_snd (s := { s with heap := h₁, toks := tk₁, drawn := dw }) SI.rep (isStore_kind hst) fun h₂ tk₂ dw₂ a R₂ ha hs => ?_)
  have q3 := store_core (s := { s with heap := h₁, toks := tk₁, drawn := dw }) (x := x) (ns := []) (d := dv) (fr := false) (v := v) (h₁ := h₁) (h₂ := h₂) (a := a) (X := fun _ => False) SI (fun _ _ e => e)
    (by rw [less_nil]; exact rv.sub fun _ q => q.elim id False.elim) (fun e => nomatch e) R₂ (ha.imp id fun e => ⟨_, e⟩) (fun _ q => q.elim) fun b hb _ _ e => (hs.g b hb).trans e
  rw [settle_nil, ownS_nil] at q3
  have st₂ := walk_stay W fpo tab st₁ t₁ q3.2 nIf fun z q => (S'.own1 z I q).2.1 (.inr rfl)
  have t₂ := t₁.trans q3.2
  exact wp_m (hb { s with heap := h₂, toks := tk₂, drawn := dw₂ } _ own' _ σ' dv rest _ hfor q3.1) fun f s₃ q => nf_in (P := fun f => match f with
          | .next | .cont => ∃ m, m < k ∧ ForI w base ent h1 env H₀ I own₀ its Stt J s m s₃
          | .brk => JPost w base ent env H₀ s own J K [] .next s₃
          | .ret v => JPost w base ent env H₀ s own J K [] (.ret v) s₃) id f <| q (fun f s₃ => match f with
          | .next | .cont => ∃ m, m < k ∧ ForI w base ent h1 env H₀ I own₀ its Stt J s m s₃
          | .brk => JPost w base ent env H₀ s own J K [] .next s₃
          | .ret v => JPost w base ent env H₀ s own J K [] (.ret v) s₃) (fun h₃ tk₃ dw₃ own₃ m₃ σ₃ e u S₃ =>
      ⟨rest.length + 1, by rw [kn]; exact Nat.lt_succ_self _, .mk (done := done ++ [dv]) (rest := rest) (dr.trans (List.append_cons ..)) (by rw [List.length_append]; exact walk_stay W fpo tab st₂ t₂ u nIf fun z q => (q3.1.own1 z I q).2.1 (.inr rfl)) S₃ (t₂.trans u) e rfl⟩)
    fun h₃ tk₃ dw₃ fr d v σ₃ e u R Q _ hr => hr h₃ tk₃ dw₃ fr d v σ₃ e (tS.trans (t₂.trans u)) ⟨R.rep.sub fun _ q => .inl q, R.keep, fun hf => (R.fr hf).sub fun _ q => .inl q⟩
theorem for_core {x : String} {yp pos : Pos} {it : Expr} {b : List Stmt} {ns : List String} {its : List D} {J : List D → Own → St → Prop} {K : Bool → D → St → Prop}
    {s : Shared} {env : Env} {H₀ : Addr → Prop} {ent : Heap} {own : Own} {m : Str → Option Value} {σ : St} {E : Value → Shared → Prop} (hb : BodyOk prog w A base ent env x J K b) (S : StOk w base ent s.heap env H₀ own m σ) (hst : isStore env.kindOf (Str.ofString x) = true) (hset : notSet it = true)
    (hsrc : ∀ Q : Value → Shared → Prop, (∀ I h1 h2 tk2 dw2, KH s.heap h1 → KH h1 h2 → gat h1 I = none → (∃ o, gat h2 I = some o) → IterW prog w A h1 (Hot env H₀ (own.less ns)) its I h2 → Q (.ref I) { s with heap := h2, toks := tk2, drawn := dw2 }) → wpAny (model prog w) A (eval it env) (fun xv s₁ => wpAny (model prog w) A (pyIter xv) Q E s₁) E s)
    (hev : J its (own.less ns) (freeze ns σ)) : wpAny (model prog w) A (exec (.For (.Name (Str.ofString x) yp) it b [] pos) env) (JPost w base ent env H₀ s own J K []) E s := by
  refine wpAny_For (hsrc _ fun I h1 h2 tk2 dw2 k01 k12 fresh ex IW => ?_) (notSet_folded hset)
  have S0 := (S.freeze ns).keeps k01
  have S2 := S0.addH (I := I) k12 fresh ex
  have nIf : ¬ frm env I := fun q => (frame_ex S0.rep q).elim fun o e => no_sn e fresh
  have nIe : gat ent I = none := none_up S.keep (none_up k01 fresh)
  have tS : Tr s.heap env own h1 (own.less ns) := .of k01 fun _ _ => less_sub
  refine IW.rec fun {fp P Stt} W st fpo item live tab => codeAny_forLoop (ForI w base ent h1 env H₀ I (own.less ns) its Stt J s) (fun k s' q => ?_) (its.length + 1) (.mk (done := []) (rest := its) rfl st S2 (.keeps k12) hev rfl)
  obtain @⟨h, tk, dw, done, rest, own', m', σ', dr, st, S', t, hfor, kn⟩ := q
  cases rest with
  | cons dv rest => exact for_turn hb hst W fpo item live tab fresh nIf nIe tS dr st S' t hfor kn
  | nil =>
    rw [List.append_nil] at dr
    subst dr
    refine W.done _ _ _ st fun h' tk' hk' => ?_
    have m1 : Mv I h h' := fun b o hb e => walk_lift W tab st hk' b o (fun q => hb (List.mem_singleton.mp q)) e
    have t' := tr_I t m1 fresh
    exact wpAny_execs_nil fun Q hn _ => hn _ _ dw _ _ _ hfor (tS.trans t') (S'.leave m1 (fun c hc => (S0.hot.ex c (.inl hc)).elim fun b' q => q.elim fun o q => (t'.x b' o q.2).elim fun o' e' => ⟨b', o', q.1, e'⟩) nIf nIe)
theorem body_ss {x : String} {body : List MS} {b : List Stmt} {ent : Heap} {env : Env} {r : Fl × St} (hb : SSs prog w A base cf body) (hcb : chkSs env.kindOf b body = true) :
    BodyOk prog w A base ent env x (fun rest _ σ => forD (fun it σ => exSs cf body (setv σ x (false, it))) rest σ = some r) (fun fr d σ => (.ret fr d, σ) = r) b := fun s H₁ own m σ dv rest E hfor S =>
  fbody_inv hfor fun rb h1 h2 h3 => wp_m (hb s env b H₁ ent _ m _ rb E hcb S h1) fun f s' q Q hn hr => q (fun f s => Q (nf f) s) (fun h tk dw own' m' e t S' => hn h tk dw own' m' rb.2 (h2 e) t S') fun h tk dw fr d v e t R => hr h tk dw fr d v rb.2 (h3 fr d e) t R
theorem jpost_s {s s' : Shared} {r : Fl × St} {bf : D → St → Option (Fl × St)} {f : Flow} (q : JPost w base ent env H₀ s own (fun rest _ σ => forD bf rest σ = some r) (fun fr d σ => (.ret fr d, σ) = r) [] f s') : SPost w base ent env H₀ s own r f s' := fun Q hn hr =>
  q Q (fun h tk dw own' m σ e t S => have e : (Fl.next, σ) = r := Option.some.inj e; hn h tk dw own' m (e ▸ rfl) t (e ▸ S)) fun h tk dw fr d v σ e t R => hr h tk dw fr d v (e ▸ rfl) t R
theorem xi_for {x : String} {src : ME} {body : List MS} {r : Fl × St} {C : Prop} (h : exS cf (.for_ x src body) σ = some r) (k : ∀ d its, evE cf (vis σ) src = some d → d.items = some its → forD (fun it σ => exSs cf body (setv σ x (false, it))) its (freeze src.names σ) = some r → C) : C :=
  oE_inv (a := evE cf (vis σ) src) (f := fun d => oEs d.items fun its => forD (fun it σ => exSs cf body (setv σ x (false, it))) its (freeze src.names σ)) h fun d hd h => oEs_inv h fun its hi h => k d its hd hi h
theorem ss_for (Z : Cx prog w A base mg mb cf) {x : String} {src : ME} {body : List MS} (hb : SSs prog w A base cf body) : SS prog w A base cf (.for_ x src body) := fun s env st H₀ ent own m σ r E hc S hev =>
  IFor.rec (motive := fun st _ => wpAny (model prog w) A (exec st env) (SPost w base ent env H₀ s own r) E s) (fun hst hset hcs hcb => xi_for hev fun d its hd hits he => wp_m (for_core (body_ss hb hcb) S hst hset (fun Q k => run_E Z S hcs hd fun u h₁ tk₁ dw₁ hk rv => wp_iter (iter_snd (s := { s with heap := h₁, toks := tk₁, drawn := dw₁ }) rv Z.hh hits) fun I h tk dw k12 fr ex W => k I h₁ h tk dw hk k12 fr ex W) he) fun _ _ q => jpost_s q) (inv_for hc)
end
end Mine
namespace Mine
open PySem PySem.SeqAt
section
variable {prog : Program} {w : World} {A : Around} {base : Heap} {mg mb : Str → Option Value} {cf : CF}
theorem all_Es (G : GOk mg mb base) (C : CSound prog w base mg cf A) (hh : A.handled = none) (hu : Room A) (ms : List ME) : SEs prog w A base cf ms :=
  List.rec (motive := SEs prog w A base cf) ses_nil (fun a _ h => ses_cons (all_E G C hh hu a).e h) ms
section
variable {s : Shared} {env : Env} {H₀ : Addr → Prop} {ent h h₂ : Heap} {own : Own} {m : Str → Option Value} {σ σ' : St} {E : Value → Shared → Prop} {L : Addr}
theorem run_W (Z : Cx prog w A base mg mb cf) (S : StOk w base ent s.heap env H₀ own m σ) {f : String} {args : List ME} {v : Expr} {ds : List D} {q : D × D × List D × D} {Q : Value → Shared → Prop} (hc : ICall env.kindOf f args v) (hds : evEs cf (vis σ) args = some ds) (hq : cf.callw f ds = some q)
    (k : ∀ u h tk dw, KH s.heap h → WTup w.params s.heap h (Hot env H₀ (own.less (namesL args))) q u → Q u { s with heap := h, toks := tk, drawn := dw }) : wpAny (model prog w) A (eval v env) Q E s := by
  have c := S.cc (s := s) rfl (namesL args)
  obtain @⟨gp, as, pos, hg, h⟩ := hc
  obtain ⟨a, o, fd, q1, q2, q3, q4⟩ := Z.C.callw f ds q hq
  refine PyProof.Rows.Call_Name rfl (Calls.Name_function_global c.R.kind (isGlob_of hg).1 (Calls.loadGlobal_global (mg := mg) (c.R.glob ▸ Ns.keepAt Z.G.g (c.hw.keep _)) q1 (Calls.callWith_function (o := o) (fd := fd) (evalArgs_snd h (
      wp_m (all_Es Z.G Z.C Z.hh Z.hu args s env as _ (vis σ) m ds E h c hds) fun vs s₁ p₁ => p₁.rec fun k1 r => ⟨⟨Heap.of_gt ((c.k k1).hw.keep _ _ q2) (notTab_of (by rw [q3]; nofun)), q3⟩, wp_m (q4 A (.refl A) s₁ _ vs E (c.k k1).hw r) fun v s₂ p₂ => ?_⟩)))) (by simpa using (isGlob_of hg).2))
  obtain ⟨k2, t⟩ := p₂
  have kk := Kp.trans k1 k2
  have t' := t.old (Kp.heap k1)
  revert t'
  exact Keeps.rec (motive := fun s' _ => WTup w.params s.heap s'.heap (Hot env H₀ (own.less (namesL args))) q v → Q v s') (fun h tk dw hk t => k v h tk dw hk t) kk
theorem set_none_sub {x y : String} {a : Addr} (e : own.set x none y = some a) : own y = some a := own_inv e (fun _ q => nomatch q) fun _ q => q
theorem hot_none {x : String} {b : Addr} (q : Hot env H₀ (own.set x none) b) : Hot env H₀ own b := q.mono (fun _ q => q) fun _ _ => set_none_sub
theorem st_step (sh : Shared) (S : StOk w base ent h env (fun b => H₀ b ∨ b = L) own m σ) {x : String} {v : Value} {d : D} {a : Addr} (rv : Rep w.params h (Hot env (fun b => H₀ b ∨ b = L) own) v d) (R₂ : EnvRep h₂ env (upd m (Str.ofString x) v)) (ha : frm env a) (hL : ¬ frm env L) (hs : Heap.SB a h h₂) :
    (StOk w base ent h₂ env (fun b => H₀ b ∨ b = L) (own.set x none) (upd m (Str.ofString x) v) (setv σ x (false, d)) ∧ Tr h env own h₂ (own.set x none)) ∧
    (∀ v d, Rep w.params h (Hot env (fun b => H₀ b ∨ b = L) own) v d → Rep w.params h₂ (Hot env (fun b => H₀ b ∨ b = L) (own.set x none)) v d) ∧
    ∀ ds, OwnL w.params h (Hot env (fun b => H₀ b ∨ b = L) own) L ds → OwnL w.params h₂ (Hot env (fun b => H₀ b ∨ b = L) (own.set x none)) L ds := by
  have q := store_core (s := { sh with heap := h }) (ns := []) (fr := false) (X := fun _ => False) (h₁ := h) S (fun _ _ e => e) (by rw [less_nil]; exact rv.sub fun _ q => q.elim id False.elim) nofun R₂ ha (fun _ q => q.elim) fun b hb _ _ e => (hs.g b hb).trans e
  rw [settle_nil, ownS_nil] at q
  have kp : Kept h (Hot env (fun b => H₀ b ∨ b = L) own) h₂ := fun b o hn e => (hs.g b fun z => hn (z ▸ .inr (.inl ha))).trans e
  exact ⟨q, fun v d r => r.mono kp fun _ _ _ q => hot_none q, fun ds o => o.mono (fun o e => (hs.g L fun z => hL (z ▸ ha)).trans e) kp fun _ _ _ q => .inl (hot_none q)⟩
theorem StOk.take (S : StOk w base ent h env (fun b => H₀ b ∨ b = L) own m σ) {x : String} {ds : List D} (hm : m (Str.ofString x) = some (.ref L)) (o : OwnL w.params h (Hot env (fun b => H₀ b ∨ b = L) own) L ds) (hE : gat ent L = none) (hH : ¬ H₀ L) (hf : ¬ frm env L)
    (hσ : ∀ y, y ≠ x → σ'.lookup y = σ.lookup y) (hx : σ'.lookup x = some (true, .list ds)) : StOk w base ent h env H₀ (own.set x (some L)) m σ' :=
  have up : ∀ b, Hot env H₀ (own.set x (some L)) b → Hot env (fun b => H₀ b ∨ b = L) own b := fun b q => q.elim (fun q => .inl (.inl q)) fun q => q.elim (fun q => .inr (.inl q)) fun q => q.elim fun y q => own_inv q (fun _ q => .inl (.inr (Option.some.inj q).symm)) fun _ q => .inr (.inr ⟨y, q⟩)
  have no : ∀ y, own y ≠ some L := fun y q => (S.own1 y L q).2.1 (.inr rfl)
  { rep := S.rep
    plain := fun y d e => (Classical.em (y = x)).elim (fun q => nomatch (q ▸ hx).symm.trans e) fun q => (S.plain y d ((hσ y q).symm.trans e)).elim fun v z => ⟨v, z.1, z.2.sub up⟩
    owned := fun y d e => (Classical.em (y = x)).elim (fun q => ⟨L, if_pos q, q ▸ hm, (Prod.mk.inj (Option.some.inj ((q ▸ hx).symm.trans e))).2 ▸ OwnD.sub (d := .list ds) o up⟩) fun q => (S.owned y d ((hσ y q).symm.trans e)).elim fun a z => ⟨a, (if_neg q).trans z.1, z.2.1, z.2.2.sub up⟩
    hot := ⟨S.hot.keep, fun b q => S.hot.ex b (up b q), fun b o e q => S.hot.off b o e (up b q)⟩
    keep := S.keep
    frE := S.frE
    own1 := fun y a e => own_inv e (fun _ q => Option.some.inj q ▸ ⟨hE, hH, hf⟩) fun _ q => ⟨(S.own1 y a q).1, fun z => (S.own1 y a q).2.1 (.inl z), (S.own1 y a q).2.2⟩
    inj := fun y z a h1 h2 => own_inv h1 (fun e1 q1 => own_inv h2 (fun e2 _ => e1.trans e2.symm) fun _ q => absurd (Option.some.inj q1 ▸ q) (no z)) fun _ q1 => own_inv h2 (fun _ q => absurd (Option.some.inj q ▸ q1) (no y)) fun _ q => S.inj y z a q1 q
    ownx := fun y a e => own_inv e (fun _ q => Option.some.inj q ▸ OwnD.ex (d := .list ds) o) fun _ q => S.ownx y a q }
end
theorem xi_unp {σ : St} {x1 x2 x3 x4 f : String} {args : List ME} {r : Fl × St} {C : Prop} (h : exS cf (.unp x1 x2 x3 x4 f args) σ = some r) (k : ∀ ds q, evEs cf (vis σ) args = some ds → cf.callw f ds = some q → (.next, unpS x1 x2 x3 x4 (Mine.freeze (namesL args) σ) q) = r → C) : C := by
  rw [xs_unp] at h
  cases he : evEs cf (vis σ) args with
  | none => rw [he] at h; exact fin_none h
  | some ds =>
    rw [he] at h
    dsimp only at h
    cases hq : cf.callw f ds with
    | none => rw [hq] at h; exact fin_none h
    | some q => rw [hq] at h; exact k ds q he hq (Option.some.inj h)
theorem ss_unp (Z : Cx prog w A base mg mb cf) (x1 x2 x3 x4 f : String) (args : List ME) : SS prog w A base cf (.unp x1 x2 x3 x4 f args) := fun s env st H₀ ent own m σ r E hc S hev =>
  xi_unp hev fun ds q hds hq er => er ▸ IUnp.rec (motive := fun st _ => wpAny (model prog w) A (exec st env) (SPost w base ent env H₀ s own (.next, unpS x1 x2 x3 x4 (Mine.freeze (namesL args) σ) q)) E s) (fun {p1 p2 p3 p4 n tp v pos} g1 g2 g3 g4 hne hcl => by
    have hcl' := hcl
    obtain @⟨gp, as, cpos, hg, hch⟩ := hcl'
    refine PyProof.Rows.Assign_Tuple (run_W Z S hcl hds hq fun u h₁ tk₁ dw₁ hk t => ?_)
    obtain @⟨t, tn, v1, v2, L, v4, ho, hL, hH, ow, r1, r2, r4⟩ := t
    refine wpAny_assign_Tuple (s := { s with heap := h₁, toks := tk₁, drawn := dw₁ }) Z.hh ⟨_, ho, rfl, _, rfl⟩ rfl rfl fun h₂ he => ?_
    have k12 : KH h₁ h₂ := Heap.gt_up fun b o e => he b o (Nat.ne_of_lt (Heap.lt_size e)) e
    have k02 : KH s.heap h₂ := fun b o e => k12 b o (hk b o e)
    have nf : ¬ frm env L := fun q => (frame_ex S.rep q).elim fun o e => no_sn e hL
    have nE : gat ent L = none := none_up S.keep hL
    have nH : ¬ H₀ L := fun q => hH (.inl q)
    have ex2 : ∃ o, gat h₂ L = some o := (OwnD.ex (d := .list _) ow).elim fun o e => ⟨o, k12 _ _ e⟩
    have S2 := (S.freeze (namesL args)).addH (I := L) k02 hL ex2
    have sb : ∀ b, Hot env (fun b => H₀ b ∨ b = L) (own.less (namesL args)) b → Hot env H₀ (own.less (namesL args)) b ∨ b = L := fun b q => hot_add q
    have R1 := (r1.keeps k12).sub sb
    have R2 := (r2.keeps k12).sub sb
    have R4 := (r4.keeps k12).sub sb
    have O2 : OwnL w.params h₂ (Hot env (fun b => H₀ b ∨ b = L) (own.less (namesL args))) L q.2.2.1 := ow.mono (fun o e => k12 _ _ e) (fun b o _ e => k12 b o e) fun b o _ q => sb b q
    have t0 : Tr s.heap env own h₂ (own.less (namesL args)) := .of k02 fun _ _ => less_sub
    refine PyProof.Rows.assignInOrder_cons (PyProof.Rows.assign_Name (store_snd (s := { s with heap := h₂, toks := tk₁, drawn := dw₁ }) S2.rep (isStore_kind g1) fun h₃ tk₃ dw₃ a3 E3 f3 b3 => ?_))
    have z3 := st_step s S2 R1 E3 (f3.imp id fun e => ⟨_, e⟩) nf b3
    refine PyProof.Rows.assignInOrder_cons (PyProof.Rows.assign_Name (store_snd (s := { s with heap := h₃, toks := tk₃, drawn := dw₃ }) z3.1.1.rep (isStore_kind g2) fun h₄ tk₄ dw₄ a4 E4 f4 b4 => ?_))
    have z4 := st_step s z3.1.1 (z3.2.1 _ _ R2) E4 (f4.imp id fun e => ⟨_, e⟩) nf b4
    refine PyProof.Rows.assignInOrder_cons (PyProof.Rows.assign_Name (store_snd (s := { s with heap := h₄, toks := tk₄, drawn := dw₄ }) z4.1.1.rep (isStore_kind g3) fun h₅ tk₅ dw₅ a5 E5 f5 b5 => ?_))
    have z5 := st_step (d := .ptr L) s z4.1.1 rfl E5 (f5.imp id fun e => ⟨_, e⟩) nf b5
    refine PyProof.Rows.assignInOrder_cons (PyProof.Rows.assign_Name (store_snd (s := { s with heap := h₅, toks := tk₅, drawn := dw₅ }) z5.1.1.rep (isStore_kind g4) fun h₆ tk₆ dw₆ a6 E6 f6 b6 => ?_))
    have z6 := st_step s z5.1.1 (z5.2.1 _ _ (z4.2.1 _ _ (z3.2.1 _ _ R4))) E6 (f6.imp id fun e => ⟨_, e⟩) nf b6
    have O6 := z6.2.2 _ (z5.2.2 _ (z4.2.2 _ (z3.2.2 _ O2)))
    have T6 := (((t0.trans z3.1.2).trans z4.1.2).trans z5.1.2).trans z6.1.2
    have S6 := z6.1.1.take (x := x3) (σ' := unpS x1 x2 x3 x4 (Mine.freeze (namesL args) σ) q) ((upd_ne hne).trans (if_pos rfl)) O6 nE nH nf (fun y hy => by
        unfold unpS
        rw [lookup_setv x4 y, lookup_setv x4 y, lookup_setv x3 y, lookup_setv x3 y, if_neg hy, if_neg hy]) (by
        unfold unpS
        rw [lookup_setv x4, if_neg hne, lookup_setv x3, if_pos rfl])
    exact wpAny_pure (SPost.nx ⟨T6.k, T6.x, fun y a e => own_inv e (fun _ q => .inr (Option.some.inj q ▸ hL)) fun _ q => T6.o y a q⟩ S6)) (inv_unp hc)
end
end Mine
namespace Mine
open PySem PySem.SeqAt
section
variable {prog : Program} {w : World} {A : Around} {base : Heap} {mg mb : Str → Option Value} {cf : CF}
theorem all_S (Z : Cx prog w A base mg mb cf) (ms : MS) : SS prog w A base cf ms :=
  MS.rec (motive_1 := SS prog w A base cf) (motive_2 := SSs prog w A base cf) (fun x e => ss_assign Z x e) (fun x e => ss_append Z x e) (fun x k e => ss_setk Z x k e) (fun c t f ht hf => ss_ite Z ht hf) (fun x src body h => ss_for Z h) (fun e => ss_ret Z e)
    (fun s env st H₀ ent own m σ r E hc S hev => fin_none hev)
    (fun x1 x2 x3 x4 f args => ss_unp Z x1 x2 x3 x4 f args)
    sss_nil (fun a r ha hr => sss_cons ha hr) ms
theorem all_Ss (Z : Cx prog w A base mg mb cf) (ms : List MS) : SSs prog w A base cf ms := List.rec (motive := SSs prog w A base cf) sss_nil (fun a r hr => sss_cons (all_S Z a) hr) ms
end
end Mine
namespace Mine
open PySem PySem.SeqAt
section
variable {prog : Program} {w : World} {A : Around} {base : Heap} {mg mb : Str → Option Value} {cf : CF}
theorem ret4_inv {st : MS} {q : String × String × String × String} {C : MS → Prop} (h : ret4 st = some q) (k : C (.ret (.tup [.var q.1, .var q.2.1, .var q.2.2.1, .var q.2.2.2]))) : C st := by
  unfold ret4 at h
  split at h
  · cases h; exact k
  · exact fin_none h
theorem splitR_eq : ∀ {l b : List MS} {q : String × String × String × String}, splitR l = some (b, q) → l = b ++ [.ret (.tup [.var q.1, .var q.2.1, .var q.2.2.1, .var q.2.2.2])]
  | [], _, _, h => fin_none h
  | s :: [], b, q, h => om_inv (o := ret4 s) h fun q' h1 h2 => by
    obtain ⟨rfl, rfl⟩ := Prod.mk.inj h2
    exact ret4_inv (C := fun s => [s] = _) h1 rfl
  | s :: s' :: r, b, q, h => om_inv (o := splitR (s' :: r)) h fun q' h1 h2 => by
    obtain ⟨rfl, rfl⟩ := Prod.mk.inj h2
    rw [splitR_eq (b := q'.1) (q := q'.2) h1]
    rfl
section
variable {env : Env} {H₀ : Addr → Prop} {ent : Heap}
theorem StOk.val {h : Heap} {own : Own} {m : Str → Option Value} {σ : St} (S : StOk w base ent h env H₀ own m σ) {x c : String} {d : D} {L : Addr} (hx : lookD σ x = some d) (hne : x ≠ c) (hc : own c = some L) : ∃ v, m (Str.ofString x) = some v ∧ Rep w.params h (fun b => H₀ b ∨ b = L) v d := by
  have up : ∀ b, (H₀ b ∨ b = L) → Hot env H₀ own b := fun b q => q.elim .inl fun q => .inr (.inr ⟨c, q ▸ hc⟩)
  refine om_inv hx fun p h1 h2 => ?_
  obtain ⟨fr, d'⟩ := p
  have h2 : d' = d := h2
  subst h2
  cases fr with
  | false => exact (S.plain x _ h1).elim fun v q => ⟨v, q.1, q.2.sub up⟩
  | true => exact (S.owned x _ h1).elim fun a q => ⟨_, q.2.1, (q.2.2.sub up).rep fun z => z.elim (S.own1 x a q.1).2.1 fun z => hne (S.inj x c L (z ▸ q.1) hc)⟩
theorem lookL_inv {σ : St} {x : String} {ds : List D} (h : lookL σ x = some ds) : σ.lookup x = some (true, .list ds) := by
  unfold lookL at h
  split at h
  · rename_i e; rw [e]; cases h; rfl
  · cases h
theorem look4_inv {σ : St} {n : String × String × String × String} {q : D × D × List D × D} {C : Prop} (h : look4 σ n = some q) (k : n.1 ≠ n.2.2.1 → n.2.1 ≠ n.2.2.1 → n.2.2.2 ≠ n.2.2.1 → lookD σ n.1 = some q.1 → lookD σ n.2.1 = some q.2.1 → σ.lookup n.2.2.1 = some (true, .list q.2.2.1) → lookD σ n.2.2.2 = some q.2.2.2 → C) : C :=
  if_inv' h fun hn h => ob_inv h fun d1 h1 h => ob_inv h fun d2 h2 h => ob_inv h fun d3 h3 h => om_inv h fun d4 h4 e => by subst e; exact k hn.1 hn.2.1 hn.2.2 h1 h2 (lookL_inv h3) h4
theorem ret_run (Z : Cx prog w A base mg mb cf) {n : String × String × String × String} {q : D × D × List D × D} {Q : Flow → Shared → Prop} {E : Value → Shared → Prop} {σ' : St} (hl : look4 σ' n = some q) : ∀ (b : List MS) (σ : St) (ss : List Stmt) (s : Shared) (own : Own) (m : Str → Option Value), chkSs env.kindOf ss (b ++ [.ret (.tup [.var n.1, .var n.2.1, .var n.2.2.1, .var n.2.2.2])]) = true → StOk w base ent s.heap env H₀ own m σ → exSs cf b σ = some (.next, σ') →
    (∀ v h tk dw, KH ent h → WTup w.params ent h H₀ q v → Q (.ret v) { s with heap := h, toks := tk, drawn := dw }) → wpAny (model prog w) A (execs ss env) Q E s
  | [], σ, ss, s, own, m, hc, S, he, k => by
    have es : σ = σ' := (Prod.mk.inj (Option.some.inj he)).2
    subst es
    cases ss with
    | nil => cases hc
    | cons st ss =>
      refine and2 hc fun hc _ => ?_
      obtain @⟨v, pos, hc⟩ := inv_ret hc
      obtain @⟨vs, tn, tp, hc⟩ := inv_tup hc
      refine look4_inv hl fun n1 n2 n4 l1 l2 l3 l4 => (S.owned _ _ l3).elim fun L qL => ?_
      obtain ⟨v1, m1, r1⟩ := S.val l1 n1 qL.1
      obtain ⟨v2, m2, r2⟩ := S.val l2 n2 qL.1
      obtain ⟨v4, m4, r4⟩ := S.val l4 n4 qL.1
      have g := S.own1 _ L qL.1
      refine wpAny_execs_cons (wpAny_Return_some (PyProof.Rows.Tuple_ ?_))
      rw [spliced_ok hc, backTo_ok]
      refine chks_inv (C := fun vs => wpAny (model prog w) A (spliced (vs.map fun e => (false, eval e env))) _ E s) hc fun e1 vs c1 hc => chks_inv (C := fun vs => wpAny (model prog w) A (spliced ((e1 :: vs).map fun e => (false, eval e env))) _ E s) hc fun e2 vs c2 hc => chks_inv (C := fun vs => wpAny (model prog w) A (spliced ((e1 :: e2 :: vs).map fun e => (false, eval e env))) _ E s) hc fun e3 vs c3 hc => chks_inv (C := fun vs => wpAny (model prog w) A (spliced ((e1 :: e2 :: e3 :: vs).map fun e => (false, eval e env))) _ E s) hc fun e4 vs c4 hc => chks_nil (C := fun vs => wpAny (model prog w) A (spliced ((e1 :: e2 :: e3 :: e4 :: vs).map fun e => (false, eval e env))) _ E s) hc ?_
      obtain @⟨p1, i1⟩ := inv_var c1
      obtain @⟨p2, i2⟩ := inv_var c2
      obtain @⟨p3, i3⟩ := inv_var c3
      obtain @⟨p4, i4⟩ := inv_var c4
      refine Calls.spliced_cons (load_snd S.rep i1 m1 (Calls.spliced_cons (load_snd S.rep i2 m2 (Calls.spliced_cons (load_snd S.rep i3 qL.2.1 (Calls.spliced_cons (load_snd S.rep i4 m4 (Calls.spliced_nil ?_))))))))
      have kp : KH s.heap (s.heap.push (tupO #[v1, v2, .ref L, v4] 0)) := fun _ _ e => Heap.gt_push_of_some _ e
      have own : OwnL w.params (s.heap.push (tupO #[v1, v2, .ref L, v4] 0)) H₀ L q.2.2.1 := OwnL.mono (h := s.heap) (H := Hot env H₀ own) qL.2.2 (fun o e => kp _ _ e) (fun b o _ e => kp b o e) fun b _ _ z => .inl (.inl z)
      exact wpAny_newObj_type (k _ (s.heap.push (tupO #[v1, v2, .ref L, v4] 0)) s.toks s.drawn (fun b o e => kp b o (S.keep b o e)) ⟨Heap.get?_push_size _ rfl, g.1, g.2.1, own, r1.keeps kp, r2.keeps kp, r4.keeps kp⟩) (show 4 ≤ sizeLine by decide)
  | a :: b, σ, ss, s, own, m, hc, S, he, k => by
    cases ss with
    | nil => cases hc
    | cons st ss =>
      exact and2 hc fun hc1 hc2 => xi_cons he (fun σ₁ h1 h2 => wpAny_execs_cons (wp_S (all_S Z a s env st H₀ ent own m σ _ E hc1 S h1) (fun h tk dw own' m' _ t S' => ret_run Z hl b σ₁ ss _ own' m' hc2 S' h2 k) fun _ _ _ _ _ _ e _ _ => nomatch e)) fun fr d _ h2 => nomatch h2
end
end
end Mine
namespace Mine
open PySem PySem.SeqAt

noncomputable def CodeR (h : Heap) (cd : Value) (q : Str) : Prop := ∃ c o vs t, cd = .ref c ∧ gat h c = some o ∧ o.cls = .type "code" ∧ o.data = .fields vs ∧ vs[1]? = some (.str q t)
theorem CodeR.rec {h : Heap} {cd : Value} {q : Str} (x : CodeR h cd q) : h.CodeRec cd q := x.elim fun c x => x.elim fun o x => x.elim fun vs x => x.elim fun t x => ⟨c, o, vs, t, x.1, Heap.of_gt' x.2.1 (by rw [x.2.2.1]; nofun), x.2.2.2⟩
theorem CodeR.keeps {h h' : Heap} {cd : Value} {q : Str} (x : CodeR h cd q) (hk : KH h h') : CodeR h' cd q := x.elim fun c x => x.elim fun o x => x.elim fun vs x => x.elim fun t x => ⟨c, o, vs, t, x.1, hk _ _ x.2.1, x.2.2⟩
structure FnAt (base : Heap) (mg : Str → Option Value) (f : String) (fn : Fn) (a : Addr) (o : Obj) (fd : FuncData) (body : List Stmt) : Prop where
  f1 : mg (Str.ofString f) = some (.ref a)
  f2 : gat base a = some o
  f3 : o.data = .func fd
  f4 : fd.body = .stmts body
  f5 : fd.closure = []
  f6 : fd.globals = mainGlobals
  f7 : fd.builtins = builtinsNs
  f8 : CodeR base fd.code fd.qualname
  f9 : fd.params.posonlyargs = []
  f10 : fd.params.kwonlyargs = []
  f11 : fd.params.vararg = none
  f12 : fd.params.kwarg = none
  f13 : fd.defaults = .none
  f14 : fd.params.args.map (·.arg) = fn.params.map Str.ofString
  f15 : fn.params.Nodup
  f16 : fd.scope.kind = .function
  f17 : fd.scope.isCoroutine = false
  f18 : fd.scope.isGenerator = false
  f19 : (fd.scope.names.map (·.1)).Nodup
  f20 : (∀ p ∈ fd.scope.names, p.2 ≠ .free)
  f21 : (∀ x ∈ fn.params, fd.scope.names.lookup (Str.ofString x) = some .local ∨ fd.scope.names.lookup (Str.ofString x) = some .cell)
  f22 : chkSs (fun x => fd.scope.names.lookup x) body fn.body = true
  f23 : (ordK (fun x => fd.scope.names.lookup x) = true → fd.code = .ref oc ∧ fd.qualname = lamN)
structure FnOk (base : Heap) (mg : Str → Option Value) (f : String) (fn : Fn) : Prop where
  ok : ∃ a o fd body, FnAt base mg f fn a o fd body

theorem no_lookup {r : List (Str × Value)} {n : Str} (h : ¬ n ∈ r.map (·.1)) : r.lookup n = none := by
  cases q : r.lookup n with
  | none => rfl
  | some c => exact absurd (List.mem_map_of_mem (f := (·.1)) (mem_of_lookup q)) h
theorem bindL_eq {k : KD} (binds : List (Str × Value)) (m : Str → Option Value) (x : Str) (hn : (binds.map (·.1)).Nodup) (hk : k x = some .local) : bindL k binds m x = (binds.lookup x).or (m x) := by
  induction binds generalizing m with
  | nil => rfl
  | cons p r ih =>
    have hn := List.nodup_cons.mp hn
    unfold bindL
    rw [ih _ hn.2, lookup_cons']
    by_cases h : x = p.1
    · subst h
      rw [no_lookup hn.1, if_pos rfl, if_pos hk]
      exact if_pos rfl
    · rw [if_neg h]
      split
      · exact congrArg _ (if_neg h)
      · rfl
theorem bindC_eq {k : KD} (binds : List (Str × Value)) (m : Str → Option Value) (x : Str) (hn : (binds.map (·.1)).Nodup) (hk : k x ≠ some .local) : bindC k binds m x = (binds.lookup x).or (m x) := by
  induction binds generalizing m with
  | nil => rfl
  | cons p r ih =>
    have hn := List.nodup_cons.mp hn
    unfold bindC
    rw [ih _ hn.2, lookup_cons']
    by_cases h : x = p.1
    · subst h
      rw [no_lookup hn.1, if_pos rfl, if_neg hk]
      exact if_pos rfl
    · rw [if_neg h]
      split
      · rfl
      · exact congrArg _ (if_neg h)
theorem lookup_zip_map {h : Heap} {P : Params} {H : Addr → Prop} {ns : List String} {vs : List Value} {ds : List D} {x : String} {d : D} (r : RepAll P h H vs ds) (e : (ns.zip ds).lookup x = some d) : ∃ v, ((ns.map Str.ofString).zip vs).lookup (Str.ofString x) = some v ∧ Rep P h H v d := by
  induction ns generalizing vs ds with
  | nil => cases e
  | cons n ns ih =>
    cases ds with
    | nil => cases e
    | cons d' ds =>
      refine RCons.rec (motive := fun vs _ => ∃ v, (((n :: ns).map Str.ofString).zip vs).lookup (Str.ofString x) = some v ∧ Rep P h H v d) (fun hv hr => ?_) r
      rw [List.zip_cons_cons, List.lookup_cons] at e
      rw [List.map_cons, List.zip_cons_cons, lookup_cons']
      by_cases h : x = n
      · subst h
        rw [beq_self_eq_true] at e
        exact ⟨_, if_pos rfl, Option.some.inj e ▸ hv⟩
      · rw [show (x == n) = false from beq_eq_false_iff_ne.mpr h] at e
        rw [if_neg (fun q => h (ofString_inj q))]
        exact ih hr e
theorem lookup_start (x : String) (ns : List String) (ds : List D) : ((ns.zip ds).map fun p => (p.1, (false, p.2))).lookup x = ((ns.zip ds).lookup x).map fun d => (false, d) := by
  generalize ns.zip ds = l
  induction l with
  | nil => rfl
  | cons p l ih =>
    rw [List.map_cons, List.lookup_cons, List.lookup_cons]
    cases x == p.1 with
    | true => rfl
    | false => exact ih

section
variable {prog : Program} {w : World} {base : Heap} {mg mb : Str → Option Value} {P : List (String × Fn)} {X : CF}
theorem lt_up3 {a b k j n m l : Nat} (h : a ≤ b + k) (h2 : b + m < l) (h3 : k + j + n ≤ m := by decide) : a + j + n < l := Nat.lt_of_le_of_lt (Nat.le_trans (Nat.add_le_add_right (Nat.add_le_add_right h j) n) (by rw [Nat.add_assoc b, Nat.add_assoc b]; exact Nat.add_le_add_left h3 b)) h2
theorem call_fn (G : GOk mg mb base) {A₀ : Around} {cf : CF} (hh : A₀.handled = none) (hd : A₀.depth + 10 < recursionLimit) (hu : A₀.units + 40 < cLine) (C : ∀ A, Near A₀ A → ∀ env, CSound prog w base mg cf (A.deeper env)) {f : String} {fn : Fn} (F : FnOk base mg f fn) {ds : List D} (hl : ds.length = fn.params.length)
    {r : Fl × St} (hev : exSs cf fn.body ((fn.params.zip ds).map fun p => (p.1, (false, p.2))) = some r) {d : D} {fr : Bool} (hrn : r.1 = .next → d = .none ∧ fr = false) (hrr : ∀ fr' d', r.1 = .ret fr' d' → d' = d ∧ fr' = fr) :
    ∃ a o fd, mg (Str.ofString f) = some (.ref a) ∧ gat base a = some o ∧ o.data = .func fd ∧
    ∀ A, Near A₀ A → ∀ (s : Shared) (H : Addr → Prop) (vs : List Value) (E : Value → Shared → Prop), HOk base s.heap H → RepAll w.params s.heap H vs ds → wpAny (model prog w) A (PySem.call (.ref a) vs) (PostF w s H d fr) E s := by
  refine F.ok.elim fun a q => q.elim fun o q => q.elim fun fd q => q.elim fun body q => q.rec fun f1 f2 f3 f4 f5 f6 f7 f8 f9 f10 f11 f12 f13 f14 f15 f16 f17 f18 f19 f20 f21 f22 f23 => ⟨a, o, fd, f1, f2, f3, fun A hN s H vs E hw hvs => ?_⟩
  replace hh : A.handled = none := hN.handled.trans hh
  have hrm : Room (A.deeper default) := ⟨lt_up3 hN.units hu, lt_up3 hN.depth hd⟩
  replace hd : A.depth < recursionLimit := Nat.lt_of_le_of_lt hN.depth (Nat.lt_of_le_of_lt (Nat.add_le_add_left (by decide) _) hd)
  have hnames : (fd.params.args.map (·.arg)).Nodup := f14 ▸ List.pairwise_map.mpr (f15.imp fun hne e => hne (ofString_inj e))
  have hlen : (fd.params.args.map (·.arg)).length = vs.length := by rw [f14, List.length_map, hvs.length, hl]
  have hbn : ((((fd.params.args.map (·.arg)).zip vs)).map (·.1)) = fd.params.args.map (·.arg) := zip_fst hlen
  have hnb : ((((fd.params.args.map (·.arg)).zip vs)).map (·.1)).Nodup := hbn.symm ▸ hnames
  have cellAt : ∀ x, fd.scope.names.lookup x = some .cell → ∃ c, (callEnvC fd s.heap.objs.size a).cells.lookup x = some c := fun x hx => (cellsFrom_has fd.scope.names (s.heap.objs.size + 1) x (mem_of_lookup hx)).elim fun c hc => lookup_some_of_mem hc
  refine wpAny_call (codeAny_call_cells (binds := (fd.params.args.map (·.arg)).zip vs) hd (Heap.of_gt (hw.keep _ _ f2) (notTab_of (by rw [f3]; nofun))) f3 (NoLimit.keepG G.lim hw.keep) (f8.keeps hw.keep).rec f4 (bindArgs_plain (vals := vs) f9 f10 f11 f12 f13 hnames hlen) f5 (fun x hx => ?_) (fun s₁ ic => ?_) f17 f18 f16)
  · have hx' : x.1 ∈ fn.params.map Str.ofString := f14 ▸ hbn ▸ List.mem_map_of_mem hx
    exact (List.mem_map.mp hx').elim fun z q => q.2 ▸ (f21 z q.1).imp id fun e => ⟨e, (cellAt _ e).elim fun c h => by rw [show (cellsFrom (s.heap.objs.size + 1) fd.scope.names []).lookup (Str.ofString z) = some c from h]; rfl⟩
  · obtain ⟨h₁, tk₁, rfl, hk⟩ := ic.toInCall.done
    replace hk := Heap.gt_up hk
    have cge : ∀ x c, (callEnvC fd s.heap.objs.size a).cells.lookup x = some c → @LT.lt Nat _ s.heap.objs.size c := fun x c hc => ic.above x c (mem_of_lookup hc)
    have R : EnvRep h₁ (callEnvC fd s.heap.objs.size a) (fun x => ((fd.params.args.map (·.arg)).zip vs).lookup x) := by
      refine ⟨f16, f6, f7, ⟨_, ic.toInCall.ns, fun x hx => ?_⟩, fun x hx => ?_, fun x y c h1 h2 => name_of_addr ic.apart (mem_of_lookup h1) (mem_of_lookup h2), fun x c hc e => Nat.lt_irrefl _ (e ▸ cge x c hc), fun x c hc => gt_cell (ic.cell x c hc), fun ho => ⟨(f23 ho).1, by show fd.qualname ++ _ = _; rw [(f23 ho).2]; rfl⟩⟩
      · rw [bindL_eq _ _ x hnb hx, Option.or_none]
      · have hcell : fd.scope.names.lookup x = some .cell := hx.elim id fun q => absurd rfl (f20 _ (mem_of_lookup q))
        refine (cellAt x hcell).elim fun c hc => ⟨c, hc, ?_⟩
        have := ic.cell x c hc
        rwa [bindC_eq _ _ x hnb (by rw [show (callEnvC fd s.heap.objs.size a).kindOf x = _ from hcell]; nofun), Option.or_none] at this
    have frn : ∀ b, frm (callEnvC fd s.heap.objs.size a) b → gat s.heap b = none := fun b q => q.elim (fun q => q ▸ fresh_size _) fun q => q.elim fun x q => Heap.gt_none_of_le (Nat.le_of_lt (cge x b q))
    have hot : ∀ b, Hot (callEnvC fd s.heap.objs.size a) H (fun _ => none) b → H b ∨ frm (callEnvC fd s.heap.objs.size a) b := fun b q => q.imp id fun q => q.elim id fun q => q.elim fun _ e => fin_none e
    have S : StOk w base s.heap h₁ (callEnvC fd s.heap.objs.size a) H (fun _ => none) (fun x => ((fd.params.args.map (·.arg)).zip vs).lookup x) ((fn.params.zip ds).map fun p => (p.1, (false, p.2))) := by
      refine ⟨R, fun x d' e => ?_, fun x d' e => ?_, ⟨fun b o' e => hk b o' (hw.keep b o' e), fun b q => (hot b q).elim (fun q => (hw.ex b q).elim fun b' z => z.elim fun o' z => ⟨b', o', z.1, hk _ _ z.2⟩) fun q => (frame_ex R q).elim fun o' ho' => ⟨b, o', Nat.le_refl _, ho'⟩, fun b o' e q => (hot b q).elim (hw.off b o' e) fun q => no_sn (hw.keep b o' e) (frn b q)⟩, hk, frn, fun x c e => fin_none e, fun x y c e => fin_none e, fun x c e => fin_none e⟩
      · rw [lookup_start] at e
        exact om_inv e fun d'' e1 e2 => (lookup_zip_map (ns := fn.params) hvs e1).elim fun v q => ⟨v, f14 ▸ q.1, (Prod.mk.inj e2).2 ▸ q.2.mono (fun b o' _ e => hk b o' e) fun b o' e q => (hot b q).elim id fun q => no_sn e (frn b q)⟩
      · rw [lookup_start] at e
        exact om_inv e fun _ _ e2 => nomatch (Prod.mk.inj e2).1
    exact wp_S (all_Ss ⟨G, C A hN (callEnvC fd s.heap.objs.size a), hh, ⟨hrm.units, hrm.depth⟩⟩ (A := A.deeper (callEnvC fd s.heap.objs.size a)) fn.body { s with heap := h₁, toks := tk₁ } (callEnvC fd s.heap.objs.size a) body H s.heap (fun _ => none) _ _ r _ f22 S hev)
      (fun h' tk' dw' own' m' e _ S' => ⟨.mk h' tk' dw' S'.keep, (hrn e).1 ▸ rfl, fun q => nomatch (hrn e).2.symm.trans q⟩) fun h' tk' dw' fr' d' v e _ R => (hrr _ _ e).1 ▸ (hrr _ _ e).2 ▸ ⟨.mk h' tk' dw' R.keep, R.rep, R.fr⟩

theorem call_fw (G : GOk mg mb base) {A₀ : Around} {cf : CF} (hh : A₀.handled = none) (hd : A₀.depth + 10 < recursionLimit) (hu : A₀.units + 40 < cLine) (C : ∀ A, Near A₀ A → ∀ env, CSound prog w base mg cf (A.deeper env)) {f : String} {fn : Fn} (F : FnOk base mg f fn) {ds : List D} (hl : ds.length = fn.params.length)
    {bd : List MS} {n : String × String × String × String} (hsp : splitR fn.body = some (bd, n)) {σ' : St} (hev : exSs cf bd ((fn.params.zip ds).map fun p => (p.1, (false, p.2))) = some (.next, σ')) {q : D × D × List D × D} (hl4 : look4 σ' n = some q) :
    ∃ a o fd, mg (Str.ofString f) = some (.ref a) ∧ gat base a = some o ∧ o.data = .func fd ∧
    ∀ A, Near A₀ A → ∀ (s : Shared) (H : Addr → Prop) (vs : List Value) (E : Value → Shared → Prop), HOk base s.heap H → RepAll w.params s.heap H vs ds → wpAny (model prog w) A (PySem.call (.ref a) vs) (PostW w s H q) E s := by
  refine F.ok.elim fun a q => q.elim fun o q => q.elim fun fd q => q.elim fun body q => q.rec fun f1 f2 f3 f4 f5 f6 f7 f8 f9 f10 f11 f12 f13 f14 f15 f16 f17 f18 f19 f20 f21 f22 f23 => ⟨a, o, fd, f1, f2, f3, fun A hN s H vs E hw hvs => ?_⟩
  replace hh : A.handled = none := hN.handled.trans hh
  have hrm : Room (A.deeper default) := ⟨lt_up3 hN.units hu, lt_up3 hN.depth hd⟩
  replace hd : A.depth < recursionLimit := Nat.lt_of_le_of_lt hN.depth (Nat.lt_of_le_of_lt (Nat.add_le_add_left (by decide) _) hd)
  have hnames : (fd.params.args.map (·.arg)).Nodup := f14 ▸ List.pairwise_map.mpr (f15.imp fun hne e => hne (ofString_inj e))
  have hlen : (fd.params.args.map (·.arg)).length = vs.length := by rw [f14, List.length_map, hvs.length, hl]
  have hbn : ((((fd.params.args.map (·.arg)).zip vs)).map (·.1)) = fd.params.args.map (·.arg) := zip_fst hlen
  have hnb : ((((fd.params.args.map (·.arg)).zip vs)).map (·.1)).Nodup := hbn.symm ▸ hnames
  have cellAt : ∀ x, fd.scope.names.lookup x = some .cell → ∃ c, (callEnvC fd s.heap.objs.size a).cells.lookup x = some c := fun x hx => (cellsFrom_has fd.scope.names (s.heap.objs.size + 1) x (mem_of_lookup hx)).elim fun c hc => lookup_some_of_mem hc
  refine wpAny_call (codeAny_call_cells (binds := (fd.params.args.map (·.arg)).zip vs) hd (Heap.of_gt (hw.keep _ _ f2) (notTab_of (by rw [f3]; nofun))) f3 (NoLimit.keepG G.lim hw.keep) (f8.keeps hw.keep).rec f4 (bindArgs_plain (vals := vs) f9 f10 f11 f12 f13 hnames hlen) f5 (fun x hx => ?_) (fun s₁ ic => ?_) f17 f18 f16)
  · have hx' : x.1 ∈ fn.params.map Str.ofString := f14 ▸ hbn ▸ List.mem_map_of_mem hx
    exact (List.mem_map.mp hx').elim fun z q => q.2 ▸ (f21 z q.1).imp id fun e => ⟨e, (cellAt _ e).elim fun c h => by rw [show (cellsFrom (s.heap.objs.size + 1) fd.scope.names []).lookup (Str.ofString z) = some c from h]; rfl⟩
  · obtain ⟨h₁, tk₁, rfl, hk⟩ := ic.toInCall.done
    replace hk := Heap.gt_up hk
    have cge : ∀ x c, (callEnvC fd s.heap.objs.size a).cells.lookup x = some c → @LT.lt Nat _ s.heap.objs.size c := fun x c hc => ic.above x c (mem_of_lookup hc)
    have R : EnvRep h₁ (callEnvC fd s.heap.objs.size a) (fun x => ((fd.params.args.map (·.arg)).zip vs).lookup x) := by
      refine ⟨f16, f6, f7, ⟨_, ic.toInCall.ns, fun x hx => ?_⟩, fun x hx => ?_, fun x y c h1 h2 => name_of_addr ic.apart (mem_of_lookup h1) (mem_of_lookup h2), fun x c hc e => Nat.lt_irrefl _ (e ▸ cge x c hc), fun x c hc => gt_cell (ic.cell x c hc), fun ho => ⟨(f23 ho).1, by show fd.qualname ++ _ = _; rw [(f23 ho).2]; rfl⟩⟩
      · rw [bindL_eq _ _ x hnb hx, Option.or_none]
      · have hcell : fd.scope.names.lookup x = some .cell := hx.elim id fun q => absurd rfl (f20 _ (mem_of_lookup q))
        refine (cellAt x hcell).elim fun c hc => ⟨c, hc, ?_⟩
        have := ic.cell x c hc
        rwa [bindC_eq _ _ x hnb (by rw [show (callEnvC fd s.heap.objs.size a).kindOf x = _ from hcell]; nofun), Option.or_none] at this
    have frn : ∀ b, frm (callEnvC fd s.heap.objs.size a) b → gat s.heap b = none := fun b q => q.elim (fun q => q ▸ fresh_size _) fun q => q.elim fun x q => Heap.gt_none_of_le (Nat.le_of_lt (cge x b q))
    have hot : ∀ b, Hot (callEnvC fd s.heap.objs.size a) H (fun _ => none) b → H b ∨ frm (callEnvC fd s.heap.objs.size a) b := fun b q => q.imp id fun q => q.elim id fun q => q.elim fun _ e => fin_none e
    have S : StOk w base s.heap h₁ (callEnvC fd s.heap.objs.size a) H (fun _ => none) (fun x => ((fd.params.args.map (·.arg)).zip vs).lookup x) ((fn.params.zip ds).map fun p => (p.1, (false, p.2))) := by
      refine ⟨R, fun x d' e => ?_, fun x d' e => ?_, ⟨fun b o' e => hk b o' (hw.keep b o' e), fun b q => (hot b q).elim (fun q => (hw.ex b q).elim fun b' z => z.elim fun o' z => ⟨b', o', z.1, hk _ _ z.2⟩) fun q => (frame_ex R q).elim fun o' ho' => ⟨b, o', Nat.le_refl _, ho'⟩, fun b o' e q => (hot b q).elim (hw.off b o' e) fun q => no_sn (hw.keep b o' e) (frn b q)⟩, hk, frn, fun x c e => fin_none e, fun x y c e => fin_none e, fun x c e => fin_none e⟩
      · rw [lookup_start] at e
        exact om_inv e fun d'' e1 e2 => (lookup_zip_map (ns := fn.params) hvs e1).elim fun v q => ⟨v, f14 ▸ q.1, (Prod.mk.inj e2).2 ▸ q.2.mono (fun b o' _ e => hk b o' e) fun b o' e q => (hot b q).elim id fun q => no_sn e (frn b q)⟩
      · rw [lookup_start] at e
        exact om_inv e fun _ _ e2 => nomatch (Prod.mk.inj e2).1
    exact ret_run ⟨G, C A hN (callEnvC fd s.heap.objs.size a), hh, ⟨hrm.units, hrm.depth⟩⟩ (A := A.deeper (callEnvC fd s.heap.objs.size a)) hl4 bd _ body { s with heap := h₁, toks := tk₁ } (fun _ => none) _ (splitR_eq hsp ▸ f22) S hev fun v h' tk' dw' hk' t => ⟨.mk h' tk' dw' hk', t⟩
theorem AOk.zero {A : Around} {n : Nat} (h : AOk A n) : AOk A 0 := ⟨h.handled, Nat.lt_of_le_of_lt (Nat.add_le_add_right (Nat.add_le_add_left (Nat.zero_le _) _) _) h.depth, Nat.lt_of_le_of_lt (Nat.add_le_add_right (Nat.add_le_add_left (Nat.zero_le _) _) _) h.units⟩
theorem AOk.deeper {A A' : Around} {n : Nat} (h : AOk A (n + 1)) (hN : Near A A') (env : Env) : AOk (A'.deeper env) n := ⟨hN.handled.trans h.handled, Nat.lt_of_le_of_lt (by
    have := hN.depth
    show A'.depth + 1 + 2 * n + 20 ≤ A.depth + 2 * (n + 1) + 20
    exact om51 this) h.depth, Nat.lt_of_le_of_lt (by
    have := hN.units
    show A'.units + 3 + 13 * n + 100 ≤ A.units + 13 * (n + 1) + 100
    exact om52 this) h.units⟩
theorem callN_sound (G : GOk mg mb base) (HF : ∀ f fn, P.lookup f = some fn → FnOk base mg f fn) (HX : ∀ A, AOk A 0 → CSound prog w base mg X A) (n : Nat) : ∀ (A : Around), AOk A n → CSound prog w base mg (callN P X n) A := by
  induction n with
  | zero => exact fun A hA => ⟨fun f ds d fr h => fin_none h, (HX A hA).glob, fun f ds q h => fin_none h⟩
  | succ n ih =>
    refine fun A hA => ⟨fun f ds d fr h => ?_, (HX A hA.zero).glob, fun f ds q h => ob_inv (o := P.lookup f) h fun fn hf h => if_inv' h fun hl h => ob_inv h fun sp hsp h => ?_⟩
    rotate_left
    · have hd : A.depth + 10 < recursionLimit := Nat.lt_of_le_of_lt (Nat.add_le_add (Nat.le_add_right _ _) (by decide)) hA.depth
      have hu : A.units + 40 < cLine := Nat.lt_of_le_of_lt (Nat.add_le_add (Nat.le_add_right _ _) (by decide)) hA.units
      cases he : exSs (callN P X n) sp.1 ((fn.params.zip ds).map fun p => (p.1, (false, p.2))) with
      | none => rw [he] at h; exact fin_none h
      | some r =>
        rw [he] at h
        obtain ⟨fl, σ⟩ := r
        cases fl with
        | ret => exact fin_none h
        | next => exact call_fw G hA.handled hd hu (fun A' hN env => ih _ (hA.deeper hN env)) (HF f fn hf) hl hsp he h
    simp only [callN] at h
    cases hf : P.lookup f with
    | none => rw [hf] at h; exact (HX A hA.zero).call f ds d fr h
    | some fn =>
      rw [hf] at h
      refine if_inv' h fun hl h => ?_
      have hd : A.depth + 10 < recursionLimit := Nat.lt_of_le_of_lt (Nat.add_le_add (Nat.le_add_right _ _) (by decide)) hA.depth
      have hu : A.units + 40 < cLine := Nat.lt_of_le_of_lt (Nat.add_le_add (Nat.le_add_right _ _) (by decide)) hA.units
      cases he : exSs (callN P X n) fn.body ((fn.params.zip ds).map fun p => (p.1, (false, p.2))) with
      | none => rw [he] at h; exact fin_none h
      | some r =>
        rw [he] at h
        obtain ⟨fl, σ⟩ := r
        refine call_fn G hA.handled hd hu (fun A' hN env => ih _ (hA.deeper hN env)) (HF f fn hf) hl he ?_ ?_
        · intro q
          have q : fl = .next := q
          subst q
          exact ⟨(Prod.mk.inj (Option.some.inj h)).1.symm, (Prod.mk.inj (Option.some.inj h)).2.symm⟩
        · intro fr' d' q
          have q : fl = .ret fr' d' := q
          subst q
          exact Prod.mk.inj (Option.some.inj h)
end
end Mine
namespace Mine
open PySem PySem.SeqAt PySem.W PyProof.Rows

noncomputable def chkFn (d : DefRec) (fn : Fn) : Bool :=
  (d.params.posonlyargs.isEmpty && d.params.kwonlyargs.isEmpty && d.params.vararg.isNone && d.params.kwarg.isNone && d.params.args.map (·.arg) == fn.params.map Str.ofString) && (decide fn.params.Nodup &&
  d.scope.kind == .function && !d.scope.isCoroutine && !d.scope.isGenerator && decide (d.scope.names.map (·.1)).Nodup) && (d.scope.names.all (fun p => p.2 != .free) &&
  fn.params.all (fun x => d.scope.names.lookup (Str.ofString x) == some .local || d.scope.names.lookup (Str.ofString x) == some .cell) && chkSs (fun x => d.scope.names.lookup x) d.body fn.body && (!ordK (fun x => d.scope.names.lookup x) || d.name == lamN))
noncomputable def chkProg (recs : List DefRec) (P : List (String × Fn)) : Bool := P.all fun q => match recs.find? (fun d => d.name == Str.ofString q.1) with
  | some d => chkFn d q.2
  | none => false
noncomputable def bltFree (p : Program) (loose : List Str) : Bool := ((recsOf p).map (·.name)).contains lamN && bltNames.all fun f => !startupNames.contains (Str.ofString f) && !loose.contains (Str.ofString f) && !((recsOf p).map (·.name)).contains (Str.ofString f) && !((litsOf p).map (·.1)).contains (Str.ofString f) && !((clssOf p loose).map (·.name)).contains (Str.ofString f)

theorem mem_of_lookupS {α : Type} {l : List (String × α)} {x : String} {c : α} (h : l.lookup x = some c) : (x, c) ∈ l := by
  induction l with
  | nil => cases h
  | cons p l ih =>
    rw [List.lookup_cons] at h
    cases e : x == p.1 with
    | true => rw [e] at h; exact (show (x, c) = p from Prod.ext (eq_of_beq e) (Option.some.inj h).symm) ▸ .head _
    | false => rw [e] at h; exact .tail _ (ih h)

noncomputable def TbOk (mg : Str → Option Value) (h : Heap) : Prop := ∃ a o fd c vs, mg lamN = some (.ref a) ∧ h.get? a = some o ∧ o.data = .func fd ∧ fd.code = .ref oc ∧ h.get? oc = some c ∧ c.data = .fields vs ∧ vs[11]? = some (.ref tb)
theorem TbOk.keeps {mg : Str → Option Value} {h h' : Heap} (x : TbOk mg h) (hk : ∀ b o, h.get? b = some o → h'.get? b = some o) : TbOk mg h' :=
  x.elim fun a x => x.elim fun o x => x.elim fun fd x => x.elim fun c x => x.elim fun vs x => ⟨a, o, fd, c, vs, x.1, hk _ _ x.2.1, x.2.2.1, x.2.2.2.1, hk _ _ x.2.2.2.2.1, x.2.2.2.2.2⟩
theorem cRef_inv {v : Option Value} {f : Addr → Bool} {C : Prop} (h : cRef v f = true) (k : ∀ a, v = some (.ref a) → f a = true → C) : C := by
  cases v with
  | none => cases h
  | some v => cases v with
    | ref a => exact k a rfl h
    | _ => cases h
theorem cObj_inv {v : Option Obj} {f : Data → Bool} {C : Prop} (h : cObj v f = true) (k : ∀ o, v = some o → f o.data = true → C) : C := by
  cases v with
  | none => cases h
  | some v => exact k v rfl h
theorem tb_of (s : Shared) (e : tbAt s = true) : TbOk (s.heap.nsMap mainGlobals) s.heap := by
  refine cRef_inv e fun a ha e => cObj_inv e fun o ho e => ?_
  generalize hd : o.data = dt at e
  cases dt with
  | func fd =>
    refine and2 e fun e1 e => cObj_inv e fun c hc e => ?_
    generalize hd2 : c.data = dt at e
    cases dt with
    | fields vs => exact ⟨a, o, fd, c, vs, ha, ho, hd, eq_of_beq e1, hc, hd2, eq_of_beq e⟩
    | _ => cases e
  | _ => cases e
theorem lam_of {p : Program} {loose : List Str} {mean : ExcName → Option Value} {mg mb : Str → Option Value} {h : Heap} (T : Top p loose mean mg mb h) (hB : bltFree p loose = true) (hT : TbOk mg h) : h.IsCode oc tb #[] ∧ h.TableAt oc tb #[] ∧ h.BuiltinsAt mg tb := by
  refine Classical.byContradiction fun hG => and2 hB fun hB _ => ?_
  obtain ⟨d, hd, hn⟩ := List.mem_map.mp (List.contains_iff_mem.mp hB)
  obtain ⟨a', o', fd', c, Pl, g1, g2, g3, g4, g5, g6⟩ := T.tab d hd
  obtain ⟨a, o, fd, oc', vs, q1, q2, q3, q4, q5, q6, q7⟩ := hT
  rw [hn, q1] at g1; cases g1
  rw [q2] at g2; cases g2
  rw [q3] at g3; cases g3
  have e1 : c = oc := (Value.ref.inj ((show Value.ref oc = Value.ref c from q4.symm.trans g4))).symm
  subst e1
  obtain ⟨o1, v1, r1, _, r2, r3⟩ := g6.1
  rw [q5] at r1; cases r1
  rw [q6] at r2; cases r2
  have e2 : Pl = tb := (Value.ref.inj (Option.some.inj (q7.symm.trans r3))).symm
  subst e2
  obtain ⟨bm, ob, b1, b2, b3, b4, b5, b6⟩ := T.bmain
  refine hG ⟨g5, g6, bm, ob, b1, b2, fun q => ?_, fun q => ?_, b3, b4, b5, b6⟩
  · obtain ⟨o, es, ep, e, hd, _⟩ := T.g
    rw [q, e] at b3; cases b3; rw [hd] at b6; cases b6
  · rw [q, g6.2] at b3; cases b3; cases b4

theorem notT : ∀ {b : Bool}, (!b) = true → b = false
  | false, _ => rfl
theorem fnOk_of {p : Program} {loose : List Str} {mean : ExcName → Option Value} {mg mb : Str → Option Value} {h : Heap} (T : Top p loose mean mg mb h) (htb : TbOk mg h) (htt : h.TableAt oc tb #[]) {P : List (String × Fn)} (hP : chkProg (recsOf p) P = true) {f : String} {fn : Fn} (hf : P.lookup f = some fn) : FnOk h mg f fn := by
  refine Classical.byContradiction fun hG => ?_
  have this := List.all_eq_true.mp hP _ (mem_of_lookupS hf)
  dsimp only at this
  cases hd : (recsOf p).find? (fun d => d.name == Str.ofString f) with
  | none => rw [hd] at this; cases this
  | some d =>
    rw [hd] at this
    have hn : d.name = Str.ofString f := eq_of_beq (List.find?_some (p := fun d : DefRec => d.name == Str.ofString f) hd)
    have hm := List.mem_of_find?_eq_some hd
    obtain ⟨a, o, pm, code, doc, h1, h2, h3, h4⟩ := T.fn d hm
    refine and3 this fun k1 k2 k3 => and5 k1 fun c1 c2 c3 c4 c5 => and5 k2 fun c6 c7 c8 c9 c10 => and4 k3 fun c11 c12 c13 c14 => ?_
    have h5 : CodeR h code d.name := by
      obtain ⟨a', o', fd', c, Pl, g1, g2, g3, g4, _, ⟨oc, vc, g5, g6, _⟩, _⟩ := T.tab d hm
      rw [h1] at g1; cases g1
      rw [h2] at g2; cases g2
      rw [h3] at g3; cases g3
      obtain ⟨c', o'', vs, t, q1, q2, q3, q4⟩ := h4
      have q5 : c' = c := Value.ref.inj (show Value.ref c' = Value.ref c from q1.symm.trans g4)
      subst q5
      rw [q2] at g5; cases g5
      have hne : c' ≠ tb := fun q => by
        rw [q, htt.2] at q2
        rw [← Option.some.inj q2] at g6; cases g6
      exact ⟨c', _, vs, t, q1, by rw [Heap.gt_ne hne]; exact q2, g6, q3, q4⟩
    refine hG ⟨a, o, _, d.body, hn ▸ h1, Heap.gt_of h2 (notTab_of (by rw [h3]; nofun)), h3, rfl, rfl, rfl, rfl, h5, List.isEmpty_iff.mp c1, List.isEmpty_iff.mp c2, Option.isNone_iff_eq_none.mp c3, Option.isNone_iff_eq_none.mp c4, rfl, eq_of_beq c5, of_decide_eq_true c6, eq_of_beq c7, notT c8, notT c9, of_decide_eq_true c10, fun q hq => bne_iff_ne.mp (List.all_eq_true.mp c11 q hq), fun x hx => (Bool.or_eq_true_iff.mp (List.all_eq_true.mp c12 x hx)).imp eq_of_beq eq_of_beq, c13, fun ho => ?_⟩
    have hl : d.name = lamN := (Bool.or_eq_true_iff.mp c14).elim (fun q => by rw [show ordK (fun x => d.scope.names.lookup x) = true from ho] at q; cases q) eq_of_beq
    obtain ⟨a', o', fd', _, _, q1, q2, q3, q4, _⟩ := htb
    rw [hl, q1] at h1; cases h1
    rw [q2] at h2; cases h2
    rw [q3] at h3; cases h3
    exact ⟨q4, hl⟩

theorem gOk_of {p : Program} {loose : List Str} {mean : ExcName → Option Value} {mg mb : Str → Option Value} {h : Heap} (T : Top p loose mean mg mb h) (hB : bltFree p loose = true) (hT : TbOk mg h) : GOk mg mb h := by
  refine ⟨T.g, T.b, T.nolimit, fun f hf => ⟨?_, ?_⟩, lam_of T hB hT⟩
  · refine and2 hB fun _ hB => and5 (List.all_eq_true.mp hB f hf) fun c1 c2 c3 c4 c5 => ?_
    simp only [Bool.not_eq_true', List.contains_eq_mem, decide_eq_false_iff_not] at c1 c2 c3 c4 c5
    exact T.free _ c1 c2 c3 c4 c5
  · rw [T.builtins]
    · have : (bltNames.all fun f => bootBuiltins (Str.ofString f) == some (bltVal f)) = true := by decide +kernel
      exact eq_of_beq (List.all_eq_true.mp this f hf)
    · have : (bltNames.all fun f => Str.ofString f != Str.ofString "__name__") = true := by decide +kernel
      exact bne_iff_ne.mp (List.all_eq_true.mp this f hf)

theorem oldK_of {h h' : Heap} (htb : ∃ c, h.TableAt c tb #[]) (hk : KH h h') : OldK h h' := by
  obtain ⟨c, ht⟩ := htb
  have one : ∀ b o, h.get? b = some o → h'.get? b = some o ∨ b = tb ∧ o = tabE ∧ ∃ xs, h'.get? b = some { cls := .none, data := .fields xs } := fun b o e => by
    by_cases hb : b = tb
    · subst hb
      have eo : o = tabE := Option.some.inj (e.symm.trans ht.2)
      obtain ⟨o', e', ⟨_, q⟩ | ⟨_, _, xs, q, _⟩⟩ := Heap.gt_some (hk _ _ (Heap.gt_good ht.2 GoodT.empty))
      · cases q rfl
      · exact .inr ⟨rfl, eo, xs, q ▸ e'⟩
    · have q := hk b o (by rw [Heap.gt_ne hb]; exact e)
      rw [Heap.gt_ne hb] at q
      exact .inl q
  refine ⟨fun b o e => ?_, fun b o e => ?_⟩
  · rcases one b o e with q | ⟨rfl, rfl, xs, q⟩
    · exact .inl q
    · exact .inr (.inl ⟨ht.isCodeTable, rfl, #[], xs, rfl, by rw [q, Array.empty_append]⟩)
  · rcases one b o e with q | ⟨_, _, xs, q⟩
    · exact ⟨_, q⟩
    · exact ⟨_, q⟩
theorem wellInts {P : Params} {h : Heap} {H : Addr → Prop} {ns : List Int} {vs : List Value} (hw : WellAll P h vs (ofPys (ns.map PyData.int))) : RepAll P h H vs (ns.map .int) := by
  induction ns generalizing vs with
  | nil => cases hw; rfl
  | cons n ns ih =>
    cases hw with
    | cons h1 h2 =>
      cases h1
      exact .mk (.mk _) (ih h2)
theorem aOk_top {N : Nat} (hN : N ≤ 300) : AOk callerA N := ⟨rfl, by
    show 1 + claimMargin + 2 * N + 20 < recursionLimit
    have e1 : claimMargin = 300 := rfl
    have e2 : recursionLimit = 1000 := rfl
    exact om53 hN e1 e2, by
    show 4 + 13 * N + 100 < cLine
    have e2 : cLine = 9900 := rfl
    exact om54 hN e2⟩
theorem law_fin {l : OpenLaw} {w : World} {s₀ s₁ : Shared} {mg mb : Str → Option Value} {p : Program} {loose : List Str} {mean mean' : ExcName → Option Value} {P : List (String × Fn)} {X : CF} (N : Nat) (T : Top p loose mean mg mb s₁.heap)
    (hP : chkProg (recsOf p) P = true) (hB : bltFree p loose = true) (hN : N ≤ 300) (HX : ∀ A, AOk A 0 → CSound l.prog w s₁.heap mg X A) (htb : TbOk mg s₁.heap)
    {fa a : Addr} {ns : List Int} (hmg : mg (Str.ofString "law") = some (.ref fa)) (hg : s₁.gens = #[]) (hw : Well w.params s₁.heap (.ref a) (ofPy (PyData.list (ns.map PyData.int)))) (hlen : ¬ ((63 : Nat) : Int) < (ns.length : Int))
    (hpure : ∃ fr, (callN P X N).call "law" [.list (ns.map .int)] = some (.bool true, fr)) :
    wpAny (model l.row.toRowW.prog w) callerA (call (.ref fa) [.ref a]) (fun v s' => GoodWG l.row.toRowW.claim (classAt s₀.heap) mean' [ofPy (PyData.list (ns.map PyData.int))] s₁ (.ok (.ret v)) s')
      (fun e s' => GoodWG l.row.toRowW.claim (classAt s₀.heap) mean' [ofPy (PyData.list (ns.map PyData.int))] s₁ (.error e) s') s₁ := by
  have G := gOk_of T hB htb
  have hrep : Rep w.params s₁.heap (fun _ => False) (.ref a) (.list (ns.map .int)) := by
    cases hw with
    | list ho hr => exact .mk ho (fun q => q) (by rw [List.length_map]; exact Nat.le_trans (Int.ofNat_le.mp (Int.not_lt.mp hlen)) (by decide)) (wellInts (by simpa using hr))
  refine hpure.elim fun fr hp => ((callN_sound (prog := l.prog) (w := w) G (fun f fn hf => fnOk_of T htb G.lam.2.1 hP hf) HX N callerA (aOk_top hN)).call "law" _ _ fr hp).elim fun a' q => q.elim fun o q => q.elim fun fd q => ?_
  have e : a' = fa := Value.ref.inj (Option.some.inj (q.1.symm.trans hmg))
  subst e
  refine wp_m (q.2.2.2 callerA (.refl _) s₁ (fun _ => False) [.ref a] _ ⟨fun _ _ e => e, fun _ q => q.elim, fun _ _ _ q => q⟩ (.cons hrep .nil)) fun v s' q => q.rec fun k r _ => ?_
  refine Keeps.rec (motive := fun s' _ => GoodWG l.row.toRowW.claim (classAt s₀.heap) mean' [ofPy (PyData.list (ns.map PyData.int))] s₁ (.ok (.ret v)) s') (fun h' tk dw hk => ?_) k
  rw [show v = .bool true from r]
  exact ⟨.inl ⟨.bool true, .bool true, [], rfl, fun _ => rfl, .bool true, postW_of (r := l.row.toRowW) rfl (w_eq_bool (w_res rfl) w_lit) rfl, fun _ => ⟨.nil, fun _ h => nomatch h⟩⟩, oldK_of ⟨_, G.lam.2.1⟩ hk, rfl, .of_eq hg⟩
end Mine
namespace Mine
open PySem
noncomputable def Run (cf : CF) (ss : List MS) (σ : St) (d : D) (fr : Bool) : Prop := fin (exSs cf ss σ) = some (d, fr)
noncomputable def Nxt (cf : CF) (ss : List MS) (σ σ' : St) : Prop := exSs cf ss σ = some (.next, σ')
structure Stp (cf : CF) (s : MS) (σ σ' : St) : Prop where
  go : ∀ r, exSs cf (s :: r) σ = exSs cf r σ'
section
variable {cf : CF} {ρ : List (String × D)} {σ σ' : St} {a b c e : ME} {d x y : D} {i j : Int} {fr : Bool} {r t f body : List MS} {z : String}
theorem v_map (h : evE cf ρ e = some d) (hc : isCallE e = none) (hf : frF e d = fr) : evF cf ρ e = some (d, fr) := by
  unfold evF; rw [hc, h]; show some (d, frF e d) = _; rw [hf]
theorem v_call {g : String} {as : List ME} {ds : List D} (h : evEs cf ρ as = some ds) (hc : cf.call g ds = some (d, fr)) : evF cf ρ (.call g as) = some (d, fr) := by
  rw [evF_call, h]; exact hc
theorem v_callE {g : String} {as : List ME} {ds : List D} (h : evEs cf ρ as = some ds) (hc : cf.call g ds = some (d, fr)) : evE cf ρ (.call g as) = some d := by
  rw [e_call, h]; show (cf.call g ds).map _ = _; rw [hc]; rfl
theorem v_cons {es : List ME} {ds : List D} (h : evE cf ρ e = some d) (hs : evEs cf ρ es = some ds) : evEs cf ρ (e :: es) = some (d :: ds) := by
  rw [es_cons, h, hs]; rfl
theorem v_bin {op : Operator} (ha : evE cf ρ a = some x) (hb : evE cf ρ b = some y) (h : binD op x y = some d) : evE cf ρ (.bin op a b) = some d := by
  rw [e_bin, ha, hb]; exact h
theorem b_mul (h : -lim < j ∧ j < lim) : binD .Mult (.int i) (.int j) = some (.int (i * j)) := if_pos (.inr h)
theorem b_mulL (h : -lim < i ∧ i < lim) : binD .Mult (.int i) (.int j) = some (.int (i * j)) := if_pos (.inl h)
theorem b_div (h : 0 < j ∧ j < lim) : binD .FloorDiv (.int i) (.int j) = some (.int (i / j)) := if_pos h
theorem b_mod (h : 0 < j) : binD .Mod (.int i) (.int j) = some (.int (i % j)) := if_pos h
theorem b_pow (h : -powLim < i ∧ i < powLim ∧ 0 ≤ j ∧ j ≤ 100) : binD .Pow (.int i) (.int j) = some (.int (i ^ j.toNat)) := if_pos h
theorem b_add : binD .Add (.int i) (.int j) = some (.int (i + j)) := rfl
theorem b_sb : binD .Sub (.int i) (.int j) = some (.int (i - j)) := rfl
theorem v_cmp {op : CmpOp} (ha : evE cf ρ a = some x) (hb : evE cf ρ b = some y) (h : cmpD op x y = some d) : evE cf ρ (.cmp op a b) = some d := by
  rw [e_cmp, ha, hb]; exact h
theorem v_sub (ha : evE cf ρ a = some x) (hb : evE cf ρ b = some y) (h : subD x y = some d) : evE cf ρ (.sub a b) = some d := by
  rw [e_sub, ha, hb]; exact h
theorem v_sl {l h : ME} {u v : D} (ha : evE cf ρ a = some x) (hl : evE cf ρ l = some u) (hh : evE cf ρ h = some v) (hd : slD x u v = some d) : evE cf ρ (.sl a l h) = some d := by
  rw [e_sl, ha, hl, hh]; exact hd
theorem v_not {k : Bool} (ha : evE cf ρ a = some x) (h : truth x = some k) : evE cf ρ (.not a) = some (.bool (!k)) := by
  rw [e_not, ha]; show (truth x).map _ = _; rw [h]; rfl
theorem v_isi {T : String} {k : Bool} (ha : evE cf ρ a = some x) (h : isiD x T = some k) : evE cf ρ (.isi a T) = some (.bool k) := by
  rw [e_isi, ha]; show (isiD x T).map _ = _; rw [h]; rfl
theorem v_blt {g : String} {as : List ME} {ds : List D} (ha : evEs cf ρ as = some ds) (h : bltD g ds = some d) : evE cf ρ (.blt g as) = some d := by
  rw [e_blt, ha]; exact h
theorem v_tup {as : List ME} {ds : List D} (ha : evEs cf ρ as = some ds) (h : ds.length ≤ big) : evE cf ρ (.tup as) = some (.tup ds) := by
  rw [e_tup, ha]; exact if_pos h
theorem v_lst {as : List ME} {ds : List D} (ha : evEs cf ρ as = some ds) (h : ds.length ≤ big) : evE cf ρ (.lst as) = some (.list ds) := by
  rw [e_lst, ha]; exact if_pos h
theorem v_rev {ds : List D} (ha : evE cf ρ a = some (.list ds)) : evE cf ρ (.rev a) = some (.list ds.reverse) := by rw [ev_rev, ha]; rfl
theorem v_lcp {ds : List D} (ha : evE cf ρ a = some x) (h : lstD x = some ds) : evE cf ρ (.lcp a) = some (.list ds) := by
  rw [e_lcp, ha]; show (lstD x).map _ = _; rw [h]; rfl
theorem v_comp {elt src : ME} {cs : List ME} {its ds : List D} (ha : evE cf ρ src = some x) (hi : x.items = some its) (hl : its.length ≤ big) (h : compM (compF cf ρ elt z cs) its = some ds) : evE cf ρ (.comp elt z src cs) = some (.list ds) := by
  rw [e_comp, ha]; show (match x.items with | some its => _ | none => _) = _; rw [hi]; show (if its.length ≤ big then _ else _) = _; rw [if_pos hl, h]; rfl

theorem v_and {k l : Bool} {r' : List ME} (ha : evE cf ρ a = some (.bool k)) (hb : k = true → evE cf ρ (.bop .And (b :: r')) = some (.bool l)) : evE cf ρ (.bop .And (a :: b :: r')) = some (.bool (k && l)) := by
  rw [e_bop, b_and, ha, oB_bool]
  cases k with
  | false => rfl
  | true => exact hb rfl
theorem v_or {k l : Bool} {r' : List ME} (ha : evE cf ρ a = some (.bool k)) (hb : k = false → evE cf ρ (.bop .Or (b :: r')) = some (.bool l)) : evE cf ρ (.bop .Or (a :: b :: r')) = some (.bool (k || l)) := by
  rw [e_bop, b_or, ha, oB_bool]
  cases k with
  | true => rfl
  | false => exact hb rfl
theorem v_bop1 {op : BoolOp} (ha : evE cf ρ a = some d) : evE cf ρ (.bop op [a]) = some d := ha
theorem p_assign (h : evF cf (vis σ) e = some (d, fr)) : Stp cf (.assign z e) σ (setv (settle d e.names σ) z (fr, d)) := ⟨fun r => x_go (by rw [xs_assign, h])⟩
theorem p_append {ds : List D} (h : evE cf (vis σ) e = some d) (hl : (settle d e.names σ).lookup z = some (true, .list ds)) (hb : ds.length < big) : Stp cf (.append z e) σ (setv (settle d e.names σ) z (true, .list (ds ++ [d]))) := ⟨fun r => x_go (by rw [xs_append, h]; dsimp only; rw [hl]; exact if_pos hb)⟩
theorem p_setk {k : ME} {dk : D} {ks vs : List D} (h : evE cf (vis σ) e = some d) (hk : evE cf (vis σ) k = some dk) (hl : (settle dk k.names (settle d e.names σ)).lookup z = some (true, .dict ks vs)) (hb : (keyOk dk ks && decide (ks.length < big)) = true) :
    Stp cf (.setk z k e) σ (setv (settle dk k.names (settle d e.names σ)) z (true, .dict (dput ks vs dk d).1 (dput ks vs dk d).2)) := ⟨fun r => x_go (by rw [xs_setk, h]; dsimp only; rw [hk]; dsimp only; rw [hl]; exact if_pos hb)⟩
theorem p_setl {k : ME} {i : Nat} {ds : List D} (h : evE cf (vis σ) e = some d) (hk : evE cf (vis σ) k = some (.int i)) (hl : (settle (.int i) k.names (settle d e.names σ)).lookup z = some (true, .list ds)) (hb : i < ds.length) :
    Stp cf (.setk z k e) σ (setv (settle (.int i) k.names (settle d e.names σ)) z (true, .list (ds.set i d))) := ⟨fun r => x_go (by rw [xs_setk, h]; dsimp only; rw [hk]; dsimp only; rw [hl]; exact if_pos ⟨Int.natCast_nonneg i, Int.ofNat_lt.mpr hb⟩)⟩
theorem p_unp {x1 x2 x3 x4 g : String} {as : List ME} {ds : List D} {q : D × D × List D × D} (h : evEs cf (vis σ) as = some ds) (hq : cf.callw g ds = some q) : Stp cf (.unp x1 x2 x3 x4 g as) σ (unpS x1 x2 x3 x4 (freeze (namesL as) σ) q) := ⟨fun r => x_go (by rw [xs_unp, h]; dsimp only; rw [hq])⟩
theorem run_callw {P : List (String × Fn)} {X : CF} {g : String} {ps : List String} {bd b : List MS} {n : Nat} {args : List D} {nm : String × String × String × String} {q : D × D × List D × D} (h : P.lookup g = some ⟨ps, bd⟩) (hl : args.length = ps.length) (hs : splitR bd = some (b, nm)) (k : Nxt (callN P X n) b ((ps.zip args).map fun p => (p.1, (false, p.2))) σ') (h4 : look4 σ' nm = some q) :
    (callN P X (n + 1)).callw g args = some q := by
  show (P.lookup g).bind _ = _
  rw [h]
  show (if _ then _ else _) = _
  rw [if_pos hl]
  show (splitR bd).bind _ = _
  rw [hs]
  show (match exSs (callN P X n) b ((ps.zip args).map fun p => (p.1, (false, p.2))) with | some (.next, σ) => look4 σ nm | _ => Option.none) = _
  rw [show exSs (callN P X n) b ((ps.zip args).map fun p => (p.1, (false, p.2))) = some (.next, σ') from k]
  exact h4
theorem r_step {s : MS} (h : Stp cf s σ σ') (k : Run cf r σ' d fr) : Run cf (s :: r) σ d fr := by unfold Run; rw [h.go]; exact k
theorem r_if {k : Bool} (h : evE cf (vis σ) c = some x) (hx : truth x = some k) (ht : k = true → Run cf (t ++ r) σ d fr) (hf : k = false → Run cf (f ++ r) σ d fr) : Run cf (.ite c t f :: r) σ d fr := by
  unfold Run; rw [x_iteb h hx]
  cases k with
  | true => exact ht rfl
  | false => exact hf rfl
theorem r_ret (h : evF cf (vis σ) e = some (d, fr)) (hv : e.varOf = none) : Run cf (.ret e :: r) σ d fr := by unfold Run; rw [x_end (x_rv hv h)]; rfl
theorem r_retv (h : σ.lookup z = some (fr, d)) : Run cf (.ret (.var z) :: r) σ d fr := by unfold Run; rw [x_end (x_rx h)]; rfl
theorem r_for {src : ME} {its : List D} (hs : evE cf (vis σ) src = some x) (hi : x.items = some its) (h : forD (bodyF cf body z) its (freeze src.names σ) = some (.next, σ')) (k : Run cf r σ' d fr) : Run cf (.for_ z src body :: r) σ d fr := by
  unfold Run; rw [x_for hs hi, h]; exact k
theorem r_forR {src : ME} {its : List D} (hs : evE cf (vis σ) src = some x) (hi : x.items = some its) (h : forD (bodyF cf body z) its (freeze src.names σ) = some (.ret fr d, σ')) : Run cf (.for_ z src body :: r) σ d fr := by
  unfold Run; rw [x_for hs hi, h]; rfl
theorem run_call {P : List (String × Fn)} {X : CF} {g : String} {ps : List String} {bd : List MS} {n : Nat} {args : List D} (h : P.lookup g = some ⟨ps, bd⟩) (hl : args.length = ps.length) (k : Run (callN P X n) bd ((ps.zip args).map fun p => (p.1, (false, p.2))) d fr) :
    (callN P X (n + 1)).call g args = some (d, fr) := by rw [call_eq n args h hl]; exact k
theorem no_tf {k : Bool} {α : Prop} (h : k = true) (h' : k = false) : α := by rw [h] at h'; cases h'
theorem bin_ss {u v : Str} (h : u.length + v.length ≤ big) : binD .Add (.str u) (.str v) = some (.str (u ++ v)) := if_pos h
theorem bin_tt {u v : List D} (h : u.length + v.length ≤ big) : binD .Add (.tup u) (.tup v) = some (.tup (u ++ v)) := if_pos h
theorem bin_ll {u v : List D} (h : u.length + v.length ≤ big) : binD .Add (.list u) (.list v) = some (.list (u ++ v)) := if_pos h
theorem bin_lm {u : List D} {k : Int} (h : 0 ≤ k ∧ k ≤ 1000 ∧ u.length * k.toNat ≤ big) : binD .Mult (.list u) (.int k) = some (.list (repL u k.toNat)) := if_pos h
theorem bin_sm {u : Str} {k : Int} (h : 0 ≤ k ∧ k ≤ 1000 ∧ u.length ≤ 1000) : binD .Mult (.str u) (.int k) = some (.str (Txt.mul u k)) := if_pos h
theorem sub_s {u : Str} {k : Int} (h : 0 ≤ k ∧ k < u.length ∧ u.length ≤ big) : subD (.str u) (.int k) = some (.str (charAt u k.toNat)) := if_pos h
theorem sub_l {u : List D} {k : Nat} (h : k < u.length) (he : u[k]? = some d) : subD (.list u) (.int k) = some d := by
  show (idx k u.length).bind _ = _
  have : idx (k : Int) u.length = some k := if_pos ⟨Int.natCast_nonneg k, Int.ofNat_lt.mpr h⟩
  rw [this]; exact he
theorem sub_t {u : List D} {k : Nat} (h : k < u.length) (he : u[k]? = some d) : subD (.tup u) (.int k) = some d := sub_l h he
theorem blt_rng {k : Nat} (h : k ≤ big) : bltD "range" [.int k] = some (.rng 0 k) := by
  show (if _ then _ else _) = _
  exact if_pos (om183 h)
theorem len_s {u : Str} (h : u.length ≤ big) : bltD "len" [.str u] = some (.int u.length) := if_pos h
noncomputable def Rex (cf : CF) (ss : List MS) (σ : St) (Q : D → Bool → Prop) : Prop := ∃ d fr, Q d fr ∧ Run cf ss σ d fr
variable {Q : D → Bool → Prop}
theorem q_step {s : MS} (h : Stp cf s σ σ') (k : Rex cf r σ' Q) : Rex cf (s :: r) σ Q := let ⟨d, fr, q, k⟩ := k; ⟨d, fr, q, r_step h k⟩
theorem q_if {k : Bool} (h : evE cf (vis σ) c = some x) (hx : truth x = some k) (ht : k = true → Rex cf (t ++ r) σ Q) (hf : k = false → Rex cf (f ++ r) σ Q) : Rex cf (.ite c t f :: r) σ Q := by
  cases k with
  | true => obtain ⟨d, fr, q, k⟩ := ht rfl; exact ⟨d, fr, q, r_if h hx (fun _ => k) nofun⟩
  | false => obtain ⟨d, fr, q, k⟩ := hf rfl; exact ⟨d, fr, q, r_if h hx nofun fun _ => k⟩
theorem q_ret (h : evF cf (vis σ) e = some (d, fr)) (hv : e.varOf = none) (q : Q d fr) : Rex cf (.ret e :: r) σ Q := ⟨d, fr, q, r_ret h hv⟩
theorem rex_call {P : List (String × Fn)} {X : CF} {g : String} {ps : List String} {bd : List MS} {n : Nat} {args : List D} (h : P.lookup g = some ⟨ps, bd⟩) (hl : args.length = ps.length) (k : Rex (callN P X n) bd ((ps.zip args).map fun p => (p.1, (false, p.2))) Q) :
    ∃ d fr, Q d fr ∧ (callN P X (n + 1)).call g args = some (d, fr) := let ⟨d, fr, q, k⟩ := k; ⟨d, fr, q, run_call h hl k⟩
theorem v_rows {elt src : ME} {k : Nat} (hk : k ≤ 1000) (R : D → Prop) (hs : evE cf ρ src = some (.int k)) (h : ∀ i : Nat, i < k → ∃ d, R d ∧ evE cf ((z, .int i) :: ρ) elt = some d) :
    ∃ ds : List D, ds.length = k ∧ (∀ d ∈ ds, R d) ∧ evE cf ρ (.blt "tuple" [.comp elt z (.blt "range" [src]) []]) = some (.tup ds) := by
  obtain ⟨ds, e, hl, hq⟩ := compM_ok (compF cf ρ elt z []) (fun _ d => R d) ((List.range k).map fun (i : Nat) => D.int (i : Int)) (by
    intro it hit
    obtain ⟨i, hi, rfl⟩ := List.mem_map.mp hit
    obtain ⟨d, q, e⟩ := h i (List.mem_range.mp hi)
    exact ⟨d, q, compF_nil e⟩)
  have hb : k ≤ big := Nat.le_trans hk (by decide)
  have hl' : ((List.range k).map fun (i : Nat) => D.int (i : Int)).length = k := by simp
  refine ⟨ds, hl.trans hl', fun d hd => let ⟨_, _, q⟩ := hq d hd; q, ?_⟩
  exact v_blt (v_cons (v_comp (v_blt (v_cons hs vN) (blt_rng hb)) (items_rng k) (Nat.le_trans (Nat.le_of_eq hl') hb) e) vN) rfl
noncomputable def Out (cf : CF) (ss : List MS) (σ : St) (R : Fl → St → Prop) : Prop := ∃ fl σ', R fl σ' ∧ exSs cf ss σ = some (fl, σ')
variable {R : Fl → St → Prop}
theorem o_step {s : MS} (h : Stp cf s σ σ') (k : Out cf r σ' R) : Out cf (s :: r) σ R := let ⟨fl, s', q, k⟩ := k; ⟨fl, s', q, (h.go r).trans k⟩
theorem o_if {k : Bool} (h : evE cf (vis σ) c = some x) (hx : truth x = some k) (ht : k = true → Out cf (t ++ r) σ R) (hf : k = false → Out cf (f ++ r) σ R) : Out cf (.ite c t f :: r) σ R := by
  unfold Out; rw [x_iteb h hx]
  cases k with
  | true => exact ht rfl
  | false => exact hf rfl
theorem o_ret (h : evF cf (vis σ) e = some (d, fr)) (hv : e.varOf = none) (q : R (.ret fr d) σ) : Out cf (.ret e :: r) σ R := ⟨_, _, q, x_end (x_rv hv h)⟩
theorem o_nil (q : R .next σ) : Out cf [] σ R := ⟨_, _, q, x_nil cf σ⟩
theorem p_cell (h : evF cf (vis σ) e = some (d, fr)) (hc : d.isCell = true) : Stp cf (.assign z e) σ (setv σ z (fr, d)) := by
  have := p_assign (z := z) h
  unfold settle at this
  rwa [if_pos (by cases d <;> first | rfl | cases hc)] at this
end

noncomputable def HasR (ρ : List (String × D)) (x : String) (d : D) : Prop := ρ.lookup x = some d
noncomputable def Has (σ : St) (x : String) (d : D) : Prop := ∃ fr, σ.lookup x = some (fr, d)
noncomputable def OwnV (σ : St) (x : String) (d : D) : Prop := σ.lookup x = some (true, d)
section
variable {cf : CF} {ρ : List (String × D)} {σ : St} {x y : String} {d e : D} {v : Bool × D} {ns : List String} {fr : Bool}
theorem hr_eq : HasR ((x, d) :: ρ) x d := by unfold HasR; rw [List.lookup_cons, beq_self_eq_true]
theorem hr_ne (h : (x == y) = false) (k : HasR ρ x d) : HasR ((y, e) :: ρ) x d := by unfold HasR; rw [List.lookup_cons, h]; exact k
theorem hr_vis (h : Has σ x d) : HasR (vis σ) x d := by obtain ⟨fr, h⟩ := h; unfold HasR; rw [lookup_vis, h]; rfl
theorem h_eq : Has (setv σ x (fr, d)) x d := ⟨fr, by rw [lookup_setv, if_pos rfl]⟩
theorem h_ne (h : (x == y) = false) (k : Has σ x d) : Has (setv σ y v) x d := let ⟨fr, k⟩ := k; ⟨fr, by rw [lookup_setv, if_neg (by rintro rfl; rw [beq_self_eq_true] at h; cases h)]; exact k⟩
theorem h_fr (k : Has σ x d) : Has (freeze ns σ) x d := let ⟨fr, k⟩ := k; ⟨_, by rw [lookup_freeze, k]; rfl⟩
theorem h_st (k : Has σ x d) : Has (settle e ns σ) x d := by unfold settle; split; exact k; exact h_fr k
theorem h_cons : Has ((x, (fr, d)) :: σ) x d := ⟨fr, by rw [List.lookup_cons, beq_self_eq_true]⟩
theorem h_consn (h : (x == y) = false) (k : Has σ x d) : Has ((y, v) :: σ) x d := let ⟨fr, k⟩ := k; ⟨fr, by rw [List.lookup_cons, h]; exact k⟩
theorem h_own (k : OwnV σ x d) : Has σ x d := ⟨true, k⟩
theorem w_eq : OwnV (setv σ x (true, d)) x d := by unfold OwnV; rw [lookup_setv, if_pos rfl]
theorem w_ne (h : (x == y) = false) (k : OwnV σ x d) : OwnV (setv σ y v) x d := by unfold OwnV; rw [lookup_setv, if_neg (by rintro rfl; rw [beq_self_eq_true] at h; cases h)]; exact k
theorem w_fr (h : ns.contains x = false) (k : OwnV σ x d) : OwnV (freeze ns σ) x d := by unfold OwnV; rw [lookup_freeze, k]; show some (true && !ns.contains x, d) = _; rw [h]; rfl
theorem w_st (h : ns.contains x = false) (k : OwnV σ x d) : OwnV (settle e ns σ) x d := by unfold settle; split; exact k; exact w_fr h k
theorem o_for {src : ME} {z : String} {body r : List MS} {its : List D} {σ' : St} {R : Fl → St → Prop} (hs : evE cf (vis σ) src = some d) (hi : d.items = some its) (h : forD (bodyF cf body z) its (freeze src.names σ) = some (.next, σ')) (k : Out cf r σ' R) : Out cf (.for_ z src body :: r) σ R := by
  unfold Out; rw [x_for hs hi, h]; exact k
theorem v_var (h : HasR ρ x d) : evE cf ρ (.var x) = some d := h
theorem vr {cf : CF} {σ : St} {x : String} {d : D} (h : Has σ x d) : evE cf (vis σ) (.var x) = some d := hr_vis h
theorem vv {cf : CF} {σ : St} {x : String} {d : D} {es : List ME} {ds : List D} (h : Has σ x d) (hs : evEs cf (vis σ) es = some ds) : evEs cf (vis σ) (.var x :: es) = some (d :: ds) := v_cons (hr_vis h) hs
theorem vsi {cf : CF} {σ : St} {x : String} {d r : D} {i : Int} (h : Has σ x d) (k : subD d (.int i) = some r) : evE cf (vis σ) (.sub (.var x) (.int i)) = some r := v_sub (hr_vis h) rfl k
end

set_option maxRecDepth 100000
set_option maxHeartbeats 4000000
noncomputable def fn_before : Fn := ⟨["one", "other"], [
    .ite (.cmp .NotEq (.isi (.var "one") "str") (.isi (.var "other") "str")) [.ret (.isi (.var "other") "str")] [],
    .ret (.cmp .Lt (.var "one") (.var "other"))]⟩
noncomputable def fn_law_before : Fn := ⟨["_law_one", "_law_other"], [
    .ite (.bop .And [.isi (.var "_law_one") "str", .isi (.var "_law_other") "str"]) [.ret (.cmp .Lt (.var "_law_one") (.var "_law_other"))] [],
    .ite (.bop .Or [.isi (.var "_law_one") "str", .isi (.var "_law_other") "str"]) [.ret (.isi (.var "_law_other") "str")] [],
    .ret (.cmp .Lt (.var "_law_one") (.var "_law_other"))]⟩
noncomputable def fn_law_alike : Fn := ⟨["_law_one", "_law_other"], [
    .ite (.bop .Or [.isi (.var "_law_one") "str", .isi (.var "_law_other") "str"]) [.ret (.bop .And [.isi (.var "_law_one") "str", .isi (.var "_law_other") "str", .cmp .Eq (.var "_law_one") (.var "_law_other")])] [],
    .ret (.cmp .Eq (.var "_law_one") (.var "_law_other"))]⟩
noncomputable def fn_law_sign_by : Fn := ⟨["_law_cell"], [
    .assign "_law_some" (.str " !\"#$&'()*+,-./0123456789:;<=>?@ABCDEFGHIJKLMNOPQRSTUVWXYZ[\\]^_`"),
    .assign "_law_some" (.bin .Add (.var "_law_some") (.str "abcdefghijklmnopqrstuvwxyz{|}~")),
    .ret (.sub (.var "_law_some") (.bin .Mod (.var "_law_cell") (.int 94)))]⟩
noncomputable def fn_law_cell_at : Fn := ⟨["_law_script", "_law_k"], [
    .ite (.cmp .Lt (.var "_law_k") (.blt "len" [.var "_law_script"])) [.ret (.sub (.var "_law_script") (.var "_law_k"))] [],
    .ret (.int 0)]⟩
noncomputable def fn_law_thing_by : Fn := ⟨["_law_cell"], [
    .assign "_law_way" (.bin .Mod (.var "_law_cell") (.int 9)),
    .assign "_law_rest" (.bin .FloorDiv (.var "_law_cell") (.int 9)),
    .ite (.cmp .Lt (.var "_law_way") (.int 4)) [.ret (.bin .Sub (.bin .Mod (.var "_law_rest") (.int 4)) (.int 1))] [],
    .ite (.cmp .Eq (.var "_law_way") (.int 4)) [.ret (.bin .Sub (.bin .Mod (.var "_law_rest") (.int 2000001)) (.int 1000000))] [],
    .ite (.cmp .Eq (.var "_law_way") (.int 5)) [.ret (.sub (.lst [.str "a", .str "b", .str "1", .str "0", .str "-1", .str "col", .str "is", .str "count"]) (.bin .Mod (.var "_law_rest") (.int 8)))] [],
    .ite (.cmp .Eq (.var "_law_way") (.int 6)) [.ret (.bin .Mult (.call "_law_sign_by" [.var "_law_rest"]) (.bin .Mod (.bin .FloorDiv (.var "_law_rest") (.int 94)) (.int 100)))] [],
    .ite (.cmp .Eq (.var "_law_way") (.int 7)) [.ret (.bin .Add (.bin .Sub (.bin .Mod (.bin .Pow (.bin .Add (.bin .Mod (.var "_law_rest") (.bin .Pow (.int 10) (.int 60))) (.int 3)) (.int 9)) (.bin .Sub (.bin .Mult (.int 2) (.bin .Pow (.int 10) (.int 60))) (.int 1))) (.bin .Pow (.int 10) (.int 60))) (.int 1))] [],
    .assign "_law_word" (.sl (.str "any word") .none (.bin .Mod (.var "_law_rest") (.int 9))),
    .assign "_law_at" (.bin .Mod (.bin .FloorDiv (.var "_law_rest") (.int 9)) (.bin .Add (.blt "len" [.var "_law_word"]) (.int 1))),
    .ret (.bin .Add (.bin .Add (.sl (.var "_law_word") .none (.var "_law_at")) (.call "_law_sign_by" [.bin .FloorDiv (.var "_law_rest") (.int 81)])) (.sl (.var "_law_word") (.var "_law_at") .none))]⟩
noncomputable def fn_law_mixed : Fn := ⟨["_law_cell", "_law_k"], [
    .ret (.bin .Mod (.bin .Pow (.bin .Mod (.bin .Add (.bin .Mult (.var "_law_cell") (.int 48271)) (.bin .Mult (.bin .Add (.var "_law_k") (.int 1)) (.int 1299721))) (.int 2147483647)) (.int 5)) (.int 2147483647))]⟩
structure BG (P : List (String × Fn)) : Prop where
  sign : P.lookup "_law_sign_by" = some fn_law_sign_by
  cell : P.lookup "_law_cell_at" = some fn_law_cell_at
  thing : P.lookup "_law_thing_by" = some fn_law_thing_by
  mixed : P.lookup "_law_mixed" = some fn_law_mixed
structure BC (P : List (String × Fn)) : Prop where
  before : P.lookup "before" = some fn_before
  lalike : P.lookup "_law_alike" = some fn_law_alike
  lbefore : P.lookup "_law_before" = some fn_law_before
noncomputable def signs : Str := Str.ofString " !\"#$&'()*+,-./0123456789:;<=>?@ABCDEFGHIJKLMNOPQRSTUVWXYZ[\\]^_`" ++ Str.ofString "abcdefghijklmnopqrstuvwxyz{|}~"
theorem signs_len : signs.length = 94 := by decide +kernel
theorem emod_nat (c : Int) {k : Nat} (h : 0 < k) : ∃ m : Nat, c % (k : Int) = m ∧ m < k := ⟨(c % k).toNat, (Int.toNat_of_nonneg (Int.emod_nonneg _ (om15 h))).symm, by have := Int.emod_nonneg c (b := (k : Int)) (om15 h); have := Int.emod_lt_of_pos c (b := (k : Int)) (om16 h); exact om17 h this⟩
section
variable {P : List (String × Fn)} {X : CF}
theorem sign_at (B : BG P) (n : Nat) (c : Int) : (callN P X (n + 1)).call "_law_sign_by" [.int c] = some (.str (charAt signs (c % 94).toNat), false) := by
  have h1 : (Str.ofString " !\"#$&'()*+,-./0123456789:;<=>?@ABCDEFGHIJKLMNOPQRSTUVWXYZ[\\]^_`").length + (Str.ofString "abcdefghijklmnopqrstuvwxyz{|}~").length ≤ big := by decide +kernel
  have h2 : 0 ≤ c % 94 ∧ c % 94 < (signs.length : Int) ∧ signs.length ≤ big := by rw [signs_len]; refine ⟨by exact om18, by exact om19, by decide⟩
  refine run_call B.sign rfl ?_
  have q : binD .Add (.str (Str.ofString " !\"#$&'()*+,-./0123456789:;<=>?@ABCDEFGHIJKLMNOPQRSTUVWXYZ[\\]^_`")) (.str (Str.ofString "abcdefghijklmnopqrstuvwxyz{|}~")) = some (.str signs) := bin_ss h1
  have q2 := sub_s h2
  exact r_step (p_cell (d := .str (Str.ofString " !\"#$&'()*+,-./0123456789:;<=>?@ABCDEFGHIJKLMNOPQRSTUVWXYZ[\\]^_`")) (fr := false) (v_map vS rfl rfl) rfl) (r_step (p_cell (d := .str signs) (fr := false) (v_map (v_bin (vr h_eq) vS q) rfl rfl) rfl) (r_ret (v_map (v_sub (vr h_eq) (v_bin (vr (h_ne rfl (h_ne rfl h_cons))) vI (b_mod (by decide))) q2) rfl rfl) rfl))
theorem sign_by (B : BG P) (n : Nat) (c : Int) : ∃ x : Str, x.length = 1 ∧ (callN P X (n + 1)).call "_law_sign_by" [.int c] = some (.str x, false) := ⟨charAt signs (c % 94).toNat, rfl, sign_at B n c⟩
noncomputable def alikeV (a b : D) : Bool := cellEq a b
theorem cellCases {a : D} {C : D → Prop} (ha : a.isCell = true) (hi : ∀ i, C (.int i)) (hs : ∀ x, C (.str x)) : C a := by
  cases a <;> first | exact hi _ | exact hs _ | cases ha
theorem cell_at (B : BG P) (n : Nat) (ns : List Int) (k : Nat) : (callN P X (n + 1)).call "_law_cell_at" [.list (ns.map .int), .int k] = some (.int (ns.getD k 0), false) := by
  have hl : (ns.map D.int).length = ns.length := List.length_map ..
  refine run_call B.cell rfl ?_
  have hln : bltD "len" [.list (ns.map .int)] = some (.int ns.length) := by show some (D.int ((ns.map D.int).length : Nat)) = _; rw [hl]
  refine r_if (k := decide ((k : Int) < ns.length)) (v_cmp (vr (h_consn rfl h_cons)) (v_blt (vv h_cons vN) hln) rfl) rfl (fun h => ?_) fun h => ?_
  · have h : k < ns.length := Int.ofNat_lt.mp (of_decide_eq_true h)
    exact r_ret (v_map (v_sub (vr h_cons) (vr (h_consn rfl h_cons)) (sub_l (by rw [hl]; exact h) (by rw [List.getElem?_map, List.getElem?_eq_getElem h, List.getD_eq_getElem?_getD, List.getElem?_eq_getElem h]; rfl))) rfl rfl) rfl
  · have h : ns.length ≤ k := Nat.not_lt.mp fun q => of_decide_eq_false h (Int.ofNat_lt.mpr q)
    rw [List.getD_eq_getElem?_getD, List.getElem?_eq_none h]
    exact r_ret (v_map vI rfl rfl) rfl
theorem mixed (B : BG P) (n : Nat) (c k : Int) : ∃ r : Int, 0 ≤ r ∧ (callN P X (n + 1)).call "_law_mixed" [.int c, .int k] = some (.int r, false) := by
  have hp : -powLim < (c * 48271 + (k + 1) * 1299721) % 2147483647 ∧ (c * 48271 + (k + 1) * 1299721) % 2147483647 < powLim ∧ (0 : Int) ≤ 5 ∧ (5 : Int) ≤ 100 := by
    have h1 : (2147483647 : Int) < powLim := by decide +kernel
    generalize powLim = pl at *
    generalize c * 48271 + (k + 1) * 1299721 = z
    exact om20 h1
  have q := b_pow hp
  exact ⟨((c * 48271 + (k + 1) * 1299721) % 2147483647) ^ (5 : Int).toNat % 2147483647, Int.emod_nonneg _ (by decide), run_call B.mixed rfl (r_ret (v_map (v_bin (v_bin (v_bin (v_bin (v_bin (vr h_cons) vI (b_mul (by decide))) (v_bin (v_bin (vr (h_consn rfl h_cons)) vI b_add) vI (b_mul (by decide))) b_add) vI (b_mod (by decide))) vI q) vI (b_mod (by decide))) rfl rfl) rfl)⟩
end
noncomputable def Good (d : D) : Prop := (∃ i : Int, d = .int i ∧ -(10 ^ 61) < i ∧ i < 10 ^ 61) ∨ ∃ x : Str, d = .str x ∧ x.length ≤ 200
theorem Good.cell {d : D} (h : Good d) : d.isCell = true := by rcases h with ⟨i, rfl, _⟩ | ⟨x, rfl, _⟩ <;> rfl

theorem len_append (x y : Str) : (x ++ y).length = x.length + y.length := by
  show (x.cps ++ y.cps).size = _
  simp [Str.length]
theorem mul_len {x : Str} (hx : x.length = 1) {n : Int} (h0 : 0 ≤ n) (h1 : n ≤ 100) : (Txt.mul x n).length ≤ 100 := by
  unfold Txt.mul
  split
  · decide
  · split
    · exact om21 hx
    · show ((List.replicate n.toNat x.cps).foldl (· ++ ·) #[]).size ≤ 100
      have : ∀ (k : Nat) (a : Array Nat), ((List.replicate k x.cps).foldl (· ++ ·) a).size = a.size + k := by
        intro k
        induction k with
        | zero => intro a; simp
        | succ k ih =>
          intro a
          rw [List.replicate_succ, List.foldl_cons, ih]
          have : x.cps.size = 1 := hx
          simp; exact om22 this
      rw [this]; simp; exact om23 h1

theorem slD_hi (x : Str) (j : Int) (h : x.length ≤ big) : ∃ W : Str, W.length ≤ x.length ∧ slD (.str x) .none (.int j) = some (.str W) := ⟨_, Txt.slice_le _ _ _, if_pos h⟩
theorem slD_lo (x : Str) (j : Int) (h : x.length ≤ big) : ∃ W : Str, W.length ≤ x.length ∧ slD (.str x) (.int j) .none = some (.str W) := ⟨_, Txt.slice_le _ _ _, if_pos h⟩
noncomputable def T60 : Int := 10 ^ 60
theorem list_pick {l : List D} (hn : 0 < l.length) (c : Int) {R : D → Prop} (h : ∀ d ∈ l, R d) : ∃ d, R d ∧ subD (.list l) (.int (c % (l.length : Int))) = some d := by
  obtain ⟨m, e, hm⟩ := emod_nat c hn
  rw [e]
  exact ⟨l[m], h _ (List.getElem_mem hm), sub_l hm (List.getElem?_eq_getElem hm)⟩
theorem thing_by {P : List (String × Fn)} {X : CF} (B : BG P) (n : Nat) (c : Int) : ∃ d, Good d ∧ (callN P X (n + 2)).call "_law_thing_by" [.int c] = some (d, false) := by
  obtain ⟨x, hx, hs⟩ := sign_by (X := X) B n (c / 9)
  obtain ⟨x', hx', hs'⟩ := sign_by (X := X) B n (c / 9 / 81)
  obtain ⟨y, ⟨y', rfl, hy⟩, q5⟩ := list_pick (l := [.str (Str.ofString "a"), .str (Str.ofString "b"), .str (Str.ofString "1"), .str (Str.ofString "0"), .str (Str.ofString "-1"), .str (Str.ofString "col"), .str (Str.ofString "is"), .str (Str.ofString "count")]) (by decide) (c / 9) (R := fun d => ∃ x : Str, d = .str x ∧ x.length ≤ 200) (by
    intro d hd
    simp only [List.mem_cons, List.not_mem_nil, or_false] at hd
    rcases hd with rfl | rfl | rfl | rfl | rfl | rfl | rfl | rfl <;> exact ⟨_, rfl, by decide +kernel⟩)
  have q5' : subD (.list [.str (Str.ofString "a"), .str (Str.ofString "b"), .str (Str.ofString "1"), .str (Str.ofString "0"), .str (Str.ofString "-1"), .str (Str.ofString "col"), .str (Str.ofString "is"), .str (Str.ofString "count")]) (.int (c / 9 % 8)) = some (.str y') := q5
  have hm : 0 ≤ c / 9 / 94 % 100 ∧ c / 9 / 94 % 100 ≤ 100 := by exact om24
  have q6 := bin_sm (u := x) (k := c / 9 / 94 % 100) ⟨hm.1, Int.le_trans hm.2 (by decide), by rw [hx]; decide⟩
  have p1 : binD .Pow (.int 10) (.int 60) = some (.int T60) := b_pow (i := 10) (j := 60) (by decide +kernel)
  have t0 : 0 < T60 := by decide +kernel
  have hz : 0 ≤ c / 9 % T60 ∧ c / 9 % T60 < T60 := ⟨Int.emod_nonneg _ (by decide +kernel), Int.emod_lt_of_pos _ t0⟩
  have p2 : binD .Pow (.int (c / 9 % T60 + 3)) (.int 9) = some (.int ((c / 9 % T60 + 3) ^ (9 : Int).toNat)) := b_pow (by
    have h2 : T60 + 3 < powLim := by decide +kernel
    generalize powLim = pl at *
    exact om25 hz h2)
  have p3 : binD .Mult (.int 2) (.int T60) = some (.int (2 * T60)) := b_mulL (by decide)
  have t1 : 0 < 2 * T60 - 1 := by exact om26 t0
  obtain ⟨W, hW, w1⟩ := slD_hi (Str.ofString "any word") (c / 9 % 9) (by decide +kernel)
  have hW8 : W.length ≤ 8 := Nat.le_trans hW (by decide +kernel)
  have hWb : W.length ≤ big := Nat.le_trans hW8 (by decide)
  have w2 := len_s hWb
  have w3 : (0 : Int) < (W.length : Int) + 1 := by exact om27
  obtain ⟨U, hU, w4⟩ := slD_hi W (c / 9 / 9 % ((W.length : Int) + 1)) hWb
  obtain ⟨V, hV, w5⟩ := slD_lo W (c / 9 / 9 % ((W.length : Int) + 1)) hWb
  have hb0 : (16 : Nat) + 1 ≤ big := by decide
  have w6 := bin_ss (u := U) (v := x') (om28 hx' hW8 hU hb0)
  have w7 := bin_ss (u := U ++ x') (v := V) (by rw [len_append]; exact om29 hx' hW8 hU hV hb0)
  have g1 : -(10 : Int) ^ 61 < c / 9 % 4 - 1 ∧ c / 9 % 4 - 1 < 10 ^ 61 := by exact om30
  have g2 : -(10 : Int) ^ 61 < c / 9 % 2000001 - 1000000 ∧ c / 9 % 2000001 - 1000000 < 10 ^ 61 := by exact om31
  have g3 : -(10 : Int) ^ 61 < (c / 9 % T60 + 3) ^ (9 : Int).toNat % (2 * T60 - 1) - T60 + 1 ∧ (c / 9 % T60 + 3) ^ (9 : Int).toNat % (2 * T60 - 1) - T60 + 1 < 10 ^ 61 := by
    have h1 := Int.emod_nonneg ((c / 9 % T60 + 3) ^ (9 : Int).toNat) (b := 2 * T60 - 1) (om32)
    have h2 := Int.emod_lt_of_pos ((c / 9 % T60 + 3) ^ (9 : Int).toNat) t1
    generalize (c / 9 % T60 + 3) ^ (9 : Int).toNat % (2 * T60 - 1) = v at *
    have e2 : (10 : Int) ^ 61 = 10 * T60 := by decide +kernel
    rw [e2]
    generalize T60 = tt at *
    exact om33 h1 h2
  have g4 : (U ++ x' ++ V).length ≤ 200 := by rw [len_append, len_append]; exact om34 hx' hW8 hU hV
  have g5 := Nat.le_trans (mul_len hx hm.1 hm.2) (show 100 ≤ 200 by decide)
  have key : Rex (callN P X (n + 1)) fn_law_thing_by.body [("_law_cell", (false, .int c))] fun d fr => Good d ∧ fr = false := by
    clear hm hz hW hW8 hWb hU hV hb0 hx hx' q5
    refine q_step (p_cell (d := .int (c % 9)) (fr := false) (v_map (v_bin (vr h_cons) vI (b_mod (by decide))) rfl rfl) rfl) (q_step (p_cell (d := .int (c / 9)) (fr := false) (v_map (v_bin (vr (h_ne rfl h_cons)) vI (b_div (by decide))) rfl rfl) rfl) ?_)
    have i1 : Has (setv (setv [("_law_cell", (false, .int c))] "_law_way" (false, .int (c % 9))) "_law_rest" (false, .int (c / 9))) "_law_way" (.int (c % 9)) := h_ne rfl h_eq
    have i2 : Has (setv (setv [("_law_cell", (false, .int c))] "_law_way" (false, .int (c % 9))) "_law_rest" (false, .int (c / 9))) "_law_rest" (.int (c / 9)) := h_eq
    generalize setv (setv [("_law_cell", (false, .int c))] "_law_way" (false, .int (c % 9))) "_law_rest" (false, .int (c / 9)) = σ at *
    have rest : ∀ {k : Int}, 0 < k → evE (callN P X (n + 1)) (vis σ) (.bin .Mod (.var "_law_rest") (.int k)) = some (.int (c / 9 % k)) := fun h => v_bin (vr i2) vI (b_mod h)
    have way : ∀ k : Int, evE (callN P X (n + 1)) (vis σ) (.cmp .Eq (.var "_law_way") (.int k)) = some (.bool (c % 9 == k)) := fun _ => v_cmp (vr i1) vI rfl
    have t60 : evE (callN P X (n + 1)) (vis σ) (.bin .Pow (.int 10) (.int 60)) = some (.int T60) := v_bin vI vI p1
    refine q_if (k := decide (c % 9 < 4)) (v_cmp (vr i1) vI rfl) rfl (fun _ => q_ret (v_map (v_bin (rest (by decide)) vI b_sb) rfl rfl) rfl ⟨.inl ⟨_, rfl, g1⟩, rfl⟩) fun _ => ?_
    refine q_if (way 4) rfl (fun _ => q_ret (v_map (v_bin (rest (by decide)) vI b_sb) rfl rfl) rfl ⟨.inl ⟨_, rfl, g2⟩, rfl⟩) fun _ => ?_
    refine q_if (way 5) rfl (fun _ => q_ret (v_map (v_sub (x := .list [.str (Str.ofString "a"), .str (Str.ofString "b"), .str (Str.ofString "1"), .str (Str.ofString "0"), .str (Str.ofString "-1"), .str (Str.ofString "col"), .str (Str.ofString "is"), .str (Str.ofString "count")]) rfl (rest (by decide)) q5') rfl rfl) rfl ⟨.inr ⟨_, rfl, hy⟩, rfl⟩) fun _ => ?_
    refine q_if (way 6) rfl (fun _ => q_ret (v_map (v_bin (v_callE (vv i2 vN) hs) (v_bin (v_bin (vr i2) vI (b_div (by decide))) vI (b_mod (by decide))) q6) rfl rfl) rfl ⟨.inr ⟨_, rfl, g5⟩, rfl⟩) fun _ => ?_
    refine q_if (way 7) rfl (fun _ => q_ret (v_map (v_bin (v_bin (v_bin (v_bin (v_bin (v_bin (vr i2) t60 (b_mod t0)) vI b_add) vI p2) (v_bin (v_bin vI t60 p3) vI b_sb) (b_mod t1)) t60 b_sb) vI b_add) rfl rfl) rfl ⟨.inl ⟨_, rfl, g3⟩, rfl⟩) fun _ => ?_
    refine q_step (p_cell (d := .str W) (fr := false) (v_map (v_sl vS (e_none _ _) (rest (by decide)) w1) rfl rfl) rfl) (q_step (p_cell (d := .int (c / 9 / 9 % ((W.length : Int) + 1))) (fr := false) (v_map (v_bin (v_bin (vr (h_ne rfl i2)) vI (b_div (by decide))) (v_bin (v_blt (vv h_eq vN) w2) vI b_add) (b_mod w3)) rfl rfl) rfl) ?_)
    exact q_ret (v_map (v_bin (v_bin (v_sl (vr (h_ne rfl h_eq)) (e_none _ _) (vr h_eq) w4) (v_callE (v_cons (v_bin (vr (h_ne rfl (h_ne rfl i2))) vI (b_div (by decide))) vN) hs') w6) (v_sl (vr (h_ne rfl h_eq)) (vr h_eq) (e_none _ _) w5) w7) rfl rfl) rfl ⟨.inr ⟨_, rfl, g4⟩, rfl⟩
  obtain ⟨d, fr, ⟨hd, rfl⟩, hr⟩ := rex_call (X := X) (n := n + 1) (args := [.int c]) B.thing rfl key
  exact ⟨d, hd, hr⟩
theorem r_norm {cf : CF} {r : List MS} {σ σ' : St} {d : D} {fr : Bool} (h : σ = σ') (k : Run cf r σ' d fr) : Run cf r σ d fr := h ▸ k
theorem getD_at {row : List D} {p : Nat} (h : p < row.length) : subD (.tup row) (.int p) = some (row.getD p .none) := sub_t h (by rw [List.getD_eq_getElem?_getD, List.getElem?_eq_getElem h]; rfl)

theorem compF_one {cf : CF} {ρ : List (String × D)} {elt c : ME} {x : String} {it y d : D} {k : Bool} (hc : evE cf ((x, it) :: ρ) c = some d) (ht : truth d = some k) (he : k = true → evE cf ((x, it) :: ρ) elt = some y) : compF cf ρ elt x [c] it = some (if k = true then some y else none) := by
  have e : evCs cf ((x, it) :: ρ) [c] = some k := by
    show (match evE cf ((x, it) :: ρ) c with | some d => (match truth d with | some t => if t then some true else some false | none => none) | none => none) = _
    rw [hc]; show (match truth d with | some t => _ | none => _) = _; rw [ht]; cases k <;> rfl
  unfold compF; rw [e]
  cases k with
  | true => show (match evE cf ((x, it) :: ρ) elt with | some y => _ | none => _) = _; rw [he rfl]; rfl
  | false => rfl
theorem compM_mm {α : Type} (f : D → Option (Option D)) (h g : α → D) : ∀ (l : List α), (∀ a ∈ l, f (h a) = some (some (g a))) → compM f (l.map h) = some (l.map g)
  | [], _ => rfl
  | a :: r, e => by
    rw [List.map_cons, compM, e a (.head _)]
    show (match compM f (r.map h) with | none => none | some ds => _) = _
    rw [compM_mm f h g r fun i hi => e i (.tail _ hi)]; rfl

set_option maxRecDepth 100000
set_option maxHeartbeats 400000
noncomputable def fn_alike : Fn := ⟨["one", "other"], [
    .ret (.bop .And [.cmp .Eq (.isi (.var "one") "str") (.isi (.var "other") "str"), .cmp .Eq (.var "one") (.var "other")])]⟩
noncomputable def fn_law_cell_is : Fn := ⟨["_law_found", "_law_due"], [
    .ite (.bop .Or [.isi (.var "_law_due") "str", .isi (.var "_law_found") "bool"]) [.ret (.bop .And [.isi (.var "_law_found") "str", .isi (.var "_law_due") "str", .cmp .Eq (.var "_law_found") (.var "_law_due")])] [],
    .ret (.bop .And [.isi (.var "_law_found") "int", .cmp .Eq (.var "_law_found") (.var "_law_due")])]⟩
noncomputable def fn_meets : Fn := ⟨["one", "other", "pairs"], [
    .for_ "pair" (.var "pairs") [.ite (.not (.call "alike" [.sub (.var "one") (.sub (.var "pair") (.int 0)), .sub (.var "other") (.sub (.var "pair") (.int 1))])) [.ret (.bool false)] []],
    .ret (.bool true)]⟩
noncomputable def fn_law_rows_of : Fn := ⟨["_law_cell"], [
    .ret (.sub (.lst [.int 5, .int 7, .int 4, .int 8, .int 6, .int 2, .int 0]) (.bin .Mod (.bin .FloorDiv (.var "_law_cell") (.int 5)) (.int 7)))]⟩
noncomputable def fn_law_row_is : Fn := ⟨["_law_found", "_law_due"], [
    .ite (.bop .Or [.not (.isi (.var "_law_found") "tuple"), .cmp .NotEq (.blt "len" [.var "_law_found"]) (.blt "len" [.var "_law_due"])]) [.ret (.bool false)] [],
    .ret (.not (.comp (.var "_law_k") "_law_k" (.blt "range" [.blt "len" [.var "_law_due"]]) [.not (.call "_law_cell_is" [.sub (.var "_law_found") (.var "_law_k"), .sub (.var "_law_due") (.var "_law_k")])]))]⟩
noncomputable def fn_met : Fn := ⟨["first", "second", "pairs"], [
    .assign "found" (.lst []),
    .for_ "one" (.var "first") [.for_ "other" (.var "second") [.ite (.call "meets" [.var "one", .var "other", .var "pairs"]) [.append "found" (.bin .Add (.var "one") (.var "other"))] []]],
    .ret (.var "found")]⟩
noncomputable def fn_law_rows_by : Fn := ⟨["_law_cell", "_law_wide", "_law_many"], [
    .assign "_law_rows" (.lst []),
    .for_ "_law_at" (.blt "range" [.var "_law_many"]) [.assign "_law_like" (.bin .Sub (.var "_law_at") (.bin .FloorDiv (.bin .Mod (.var "_law_at") (.int 3)) (.int 2))), .ite (.cmp .Eq (.bin .Mod (.var "_law_at") (.int 5)) (.int 4)) [.assign "_law_like" (.int 0)] [], .append "_law_rows" (.blt "tuple" [.comp (.call "_law_thing_by" [.call "_law_mixed" [.var "_law_cell", .bin .Add (.bin .Mult (.int 13) (.var "_law_like")) (.var "_law_k")]]) "_law_k" (.blt "range" [.var "_law_wide"]) []])],
    .ret (.var "_law_rows")]⟩
noncomputable def fn_law_wide_by : Fn := ⟨["_law_cell"], [
    .ite (.cmp .Eq (.bin .Mod (.bin .FloorDiv (.var "_law_cell") (.int 35)) (.int 6)) (.int 2)) [.ret (.bin .Mod (.bin .FloorDiv (.var "_law_cell") (.int 210)) (.int 13))] [],
    .ret (.sub (.lst [.int 2, .int 1, .int 3, .int 2, .int 0]) (.bin .Mod (.var "_law_cell") (.int 5)))]⟩
noncomputable def fn_law_table_by : Fn := ⟨["_law_script", "_law_k"], [
    .assign "_law_cell" (.call "_law_cell_at" [.var "_law_script", .var "_law_k"]),
    .assign "_law_many" (.call "_law_rows_of" [.var "_law_cell"]),
    .ite (.cmp .Eq (.bin .Mod (.bin .FloorDiv (.var "_law_cell") (.int 35)) (.int 6)) (.int 1)) [.assign "_law_many" (.bin .Mod (.bin .FloorDiv (.var "_law_cell") (.int 210)) (.int 70))] [],
    .ret (.call "_law_rows_by" [.call "_law_cell_at" [.var "_law_script", .bin .Add (.var "_law_k") (.int 1)], .call "_law_wide_by" [.var "_law_cell"], .var "_law_many"])]⟩
noncomputable def fn_law_stayed : Fn := ⟨["_law_handed", "_law_tables"], [
    .ite (.cmp .NotEq (.lcp (.var "_law_handed")) (.lcp (.var "_law_tables"))) [.ret (.bool false)] [],
    .ret (.not (.comp (.var "_law_name") "_law_name" (.lcp (.var "_law_tables")) [.not (.call "_law_rows_are" [.sub (.var "_law_handed") (.var "_law_name"), .sub (.var "_law_tables") (.var "_law_name")])]))]⟩
noncomputable def fn_law_rows_are : Fn := ⟨["_law_found", "_law_due"], [
    .ite (.bop .Or [.not (.isi (.var "_law_found") "list"), .cmp .NotEq (.blt "len" [.var "_law_found"]) (.blt "len" [.var "_law_due"])]) [.ret (.bool false)] [],
    .ret (.not (.comp (.var "_law_k") "_law_k" (.blt "range" [.blt "len" [.var "_law_due"]]) [.not (.call "_law_row_is" [.sub (.var "_law_found") (.var "_law_k"), .sub (.var "_law_due") (.var "_law_k")])]))]⟩
noncomputable def fn_answer : Fn := ⟨["query", "tables"], [
    .assign "word" (.sub (.var "query") (.int 0)),
    .ite (.cmp .NotIn (.var "word") (.glob "STEPS")) [.bad] [],
    .ite (.cmp .Eq (.var "word") (.str "table")) [.ite (.cmp .NotIn (.sub (.var "query") (.int 1)) (.var "tables")) [.bad] [], .ret (.lcp (.sub (.var "tables") (.sub (.var "query") (.int 1))))] [],
    .ite (.cmp .Eq (.var "word") (.str "join")) [.assign "first" (.call "answer" [.sub (.var "query") (.int 1), .var "tables"]), .ret (.call "met" [.var "first", .call "answer" [.sub (.var "query") (.int 2), .var "tables"], .sub (.var "query") (.int 3)])] [],
    .ite (.cmp .Eq (.var "word") (.str "both")) [.assign "first" (.call "answer" [.sub (.var "query") (.int 1), .var "tables"]), .ret (.bin .Add (.var "first") (.call "answer" [.sub (.var "query") (.int 2), .var "tables"]))] [],
    .bad]⟩
noncomputable def fn_law_copied : Fn := ⟨["_law_tables"], [
    .assign "_law_made" (.dct [] []),
    .for_ "_law_name" (.lcp (.var "_law_tables")) [.setk "_law_made" (.var "_law_name") (.lcp (.sub (.var "_law_tables") (.var "_law_name")))],
    .ret (.var "_law_made")]⟩
noncomputable def fn_law_sides : Fn := ⟨["_law_script"], [
    .assign "_law_ones" (.call "_law_table_by" [.var "_law_script", .int 0]),
    .assign "_law_others" (.call "_law_table_by" [.var "_law_script", .int 2]),
    .assign "_law_wide" (.lst [.call "_law_wide_by" [.call "_law_cell_at" [.var "_law_script", .int 0]], .call "_law_wide_by" [.call "_law_cell_at" [.var "_law_script", .int 2]]]),
    .ite (.cmp .Gt (.blt "len" [.var "_law_others"]) (.int 18)) [.assign "_law_ones" (.sl (.var "_law_ones") .none (.int 9))] [],
    .assign "_law_way" (.bin .Mod (.bin .FloorDiv (.call "_law_cell_at" [.var "_law_script", .int 4]) (.int 5)) (.int 4)),
    .ite (.cmp .Eq (.bin .Mod (.bin .FloorDiv (.call "_law_cell_at" [.var "_law_script", .int 4]) (.int 20)) (.int 6)) (.int 1)) [.assign "_law_way" (.int 0), .assign "_law_wide" (.lst [.int 1, .int 1]), .assign "_law_ones" (.call "_law_rows_by" [.call "_law_cell_at" [.var "_law_script", .int 1], .int 1, .bin .Add (.int 19) (.bin .Mod (.call "_law_cell_at" [.var "_law_script", .int 0]) (.int 22))]), .assign "_law_others" (.call "_law_rows_by" [.call "_law_cell_at" [.var "_law_script", .int 3], .int 1, .bin .Add (.int 19) (.bin .Mod (.call "_law_cell_at" [.var "_law_script", .int 2]) (.int 22))])] [],
    .ite (.cmp .Gt (.var "_law_way") (.int 1)) [.assign "_law_ones" (.sl (.var "_law_ones") .none (.int 18)), .assign "_law_others" (.comp (.bin .Add (.blt "tuple" [.comp (.blt "str" [.var "_law_cell"]) "_law_cell" (.sl (.var "_law_row") .none (.int 1)) []]) (.sl (.var "_law_row") (.int 1) .none)) "_law_row" (.var "_law_ones") []), .setk "_law_wide" (.int 1) (.sub (.var "_law_wide") (.int 0))] [],
    .ite (.bop .And [.cmp .NotEq (.var "_law_others") (.lst []), .cmp .Eq (.bin .Mod (.var "_law_way") (.int 2)) (.int 1)]) [.assign "_law_ones" (.sl (.var "_law_ones") .none (.int 9)), .assign "_law_others" (.bin .Mult (.bin .Add (.var "_law_others") (.rev (.var "_law_others"))) (.bin .Add (.int 1) (.bin .FloorDiv (.int 100) (.bin .Mult (.int 2) (.blt "len" [.var "_law_others"])))))] [],
    .ret (.tup [.var "_law_ones", .var "_law_others", .var "_law_wide", .var "_law_way"])]⟩
noncomputable def fn_law : Fn := ⟨["_law_script"], [
    .unp "_law_ones" "_law_others" "_law_wide" "_law_way" "_law_sides" [.var "_law_script"],
    .assign "_law_names" (.lst [.str "a", .str "b"]),
    .ite (.cmp .Eq (.bin .Mod (.call "_law_cell_at" [.var "_law_script", .int 4]) (.int 5)) (.int 1)) [.assign "_law_ones" (.sl (.var "_law_ones") .none (.int 18)), .assign "_law_others" (.var "_law_ones"), .setk "_law_wide" (.int 1) (.sub (.var "_law_wide") (.int 0)), .assign "_law_names" (.lst [.str "a", .str "a"])] [],
    .assign "_law_pairs" (.lst []),
    .ite (.bop .And [.cmp .Gt (.sub (.var "_law_wide") (.int 0)) (.int 0), .cmp .Gt (.sub (.var "_law_wide") (.int 1)) (.int 0)]) [.assign "_law_cell" (.call "_law_cell_at" [.var "_law_script", .int 5]), .assign "_law_many" (.bin .Add (.bin .Mod (.var "_law_cell") (.int 4)) (.bin .Mult (.bin .FloorDiv (.bin .Mod (.bin .FloorDiv (.var "_law_cell") (.int 4)) (.int 9)) (.int 8)) (.int 9))), .assign "_law_pairs" (.comp (.tup [.bin .Mod (.call "_law_mixed" [.var "_law_cell", .var "_law_k"]) (.sub (.var "_law_wide") (.int 0)), .bin .Mod (.call "_law_mixed" [.var "_law_cell", .bin .Add (.int 9) (.var "_law_k")]) (.sub (.var "_law_wide") (.int 1))]) "_law_k" (.blt "range" [.var "_law_many"]) []), .ite (.cmp .Gt (.var "_law_way") (.int 1)) [.assign "_law_pairs" (.bin .Add (.lst [.tup [.int 0, .int 0]]) (.sl (.var "_law_pairs") (.int 1) .none))] []] [],
    .assign "_law_due" (.lst []),
    .for_ "_law_one" (.var "_law_ones") [.for_ "_law_other" (.var "_law_others") [.ite (.not (.comp (.var "_law_pair") "_law_pair" (.var "_law_pairs") [.not (.call "_law_alike" [.sub (.var "_law_one") (.sub (.var "_law_pair") (.int 0)), .sub (.var "_law_other") (.sub (.var "_law_pair") (.int 1))])])) [.append "_law_due" (.bin .Add (.var "_law_one") (.var "_law_other"))] []]],
    .assign "_law_tables" (.dct [.str "a", .str "b"] [.var "_law_ones", .var "_law_others"]),
    .assign "_law_handed" (.call "_law_copied" [.var "_law_tables"]),
    .assign "_law_found" (.call "answer" [.tup [.str "join", .tup [.str "table", .sub (.var "_law_names") (.int 0)], .tup [.str "table", .sub (.var "_law_names") (.int 1)], .blt "tuple" [.var "_law_pairs"]], .var "_law_handed"]),
    .ret (.bop .And [.call "_law_rows_are" [.var "_law_found", .var "_law_due"], .call "_law_stayed" [.var "_law_handed", .var "_law_tables"]])]⟩
noncomputable def PP : List (String × Fn) := [("alike", fn_alike), ("_law_sign_by", fn_law_sign_by), ("_law_cell_is", fn_law_cell_is), ("meets", fn_meets), ("_law_thing_by", fn_law_thing_by), ("_law_rows_of", fn_law_rows_of), ("_law_row_is", fn_law_row_is), ("met", fn_met), ("_law_rows_by", fn_law_rows_by), ("_law_wide_by", fn_law_wide_by), ("_law_table_by", fn_law_table_by), ("_law_stayed", fn_law_stayed), ("_law_rows_are", fn_law_rows_are), ("answer", fn_answer), ("_law_copied", fn_law_copied), ("_law_alike", fn_law_alike), ("_law_mixed", fn_law_mixed), ("_law_cell_at", fn_law_cell_at), ("_law_sides", fn_law_sides), ("law", fn_law)]
noncomputable def steps : List D := ["table", "sieve", "pick", "join", "group", "order", "both", "once", "first"].map fun x => .str (Str.ofString x)
noncomputable def X7 : CF := ⟨fun _ _ => none, fun x => if x = "STEPS" then some (.tup steps) else none, fun _ _ => none⟩
theorem bg : BG PP := ⟨rfl, rfl, rfl, rfl⟩
section
variable {α : Type} {cf : CF} {body : List MS} {z : String} {g : α → D}
theorem loopT (I : List α → St → Prop) : ∀ (l a : List α) (σ : St), I a σ → (∀ (b : List α) (x : α) (σ : St), x ∈ l → b.length < a.length + l.length → I b σ → Out cf body (setv σ z (false, g x)) fun fl σ' => fl = .next ∧ I (b ++ [x]) σ') → ∃ σ', I (a ++ l) σ' ∧ forD (bodyF cf body z) (l.map g) σ = some (.next, σ')
  | [], a, σ, h, _ => ⟨σ, (List.append_nil a).symm ▸ h, rfl⟩
  | x :: l, a, σ, h, hs => by
    obtain ⟨fl, σ₁, ⟨rfl, i1⟩, e⟩ := hs a x σ (.head _) (Nat.lt_add_of_pos_right (Nat.succ_pos _)) h
    obtain ⟨σ₂, i2, e2⟩ := loopT I l (a ++ [x]) σ₁ i1 fun b y s hy hb h => hs b y s (.tail _ hy) (by rw [List.length_append] at hb; exact Nat.lt_of_lt_of_le hb (Nat.le_of_eq (by rw [Nat.add_assoc, Nat.add_comm [x].length]; rfl))) h
    exact ⟨σ₂, by rw [List.append_cons]; exact i2, by rw [List.map_cons, forB_cons, e]; exact e2⟩
theorem findT (p : α → Bool) (I : St → Prop) (fr : Bool) (d : D) : ∀ (l : List α), (∀ x ∈ l, ∀ σ, I σ → Out cf body (setv σ z (false, g x)) fun fl σ' => if p x = true then fl = .ret fr d else fl = .next ∧ I σ') →
    ∀ σ, I σ → ∃ σ', (l.any p = true → forD (bodyF cf body z) (l.map g) σ = some (.ret fr d, σ')) ∧ (l.any p = false → I σ' ∧ forD (bodyF cf body z) (l.map g) σ = some (.next, σ'))
  | [], _, σ, hσ => ⟨σ, nofun, fun _ => ⟨hσ, rfl⟩⟩
  | x :: r, h, σ, hσ => by
    obtain ⟨fl, σ₁, q, e⟩ := h x (.head _) σ hσ
    rw [List.any_cons, List.map_cons, forB_cons, e]
    cases hp : p x with
    | true =>
      rw [if_pos hp] at q
      subst q
      exact ⟨σ₁, fun _ => rfl, nofun⟩
    | false =>
      rw [if_neg (by rw [hp]; exact Bool.false_ne_true)] at q
      obtain ⟨rfl, i1⟩ := q
      exact findT p I fr d r (fun i hi => h i (.tail _ hi)) σ₁ i1
theorem run_find (p : α → Bool) (l : List α) {s : String} {c : ME} {b : Bool} {σ : St} (hs : Has σ s (.tup (l.map g))) (I : St → Prop) (h0 : I (freeze [s] σ)) (hc : ∀ x ∈ l, ∀ σ, I σ → I (setv σ z (false, g x)) ∧ evE cf (vis (setv σ z (false, g x))) c = some (.bool (p x))) :
    Run cf [.for_ z (.var s) [.ite c [.ret (.bool b)] []], .ret (.bool (!b))] σ (.bool (if l.any p = true then b else !b)) false := by
  obtain ⟨σ', k1, k2⟩ := findT (cf := cf) (body := [.ite c [.ret (.bool b)] []]) (z := z) (g := g) p I false (.bool b) l (fun x hx σ hσ => o_if (hc x hx σ hσ).2 rfl (fun h => o_ret (v_map vB rfl rfl) rfl (by rw [if_pos h]; rfl)) fun h => o_nil (by rw [h, if_neg Bool.false_ne_true]; exact ⟨rfl, (hc x hx σ hσ).1⟩)) _ h0
  cases hb : l.any p with
  | true => exact r_forR (vr hs) rfl (k1 hb)
  | false => exact r_for (vr hs) rfl (k2 hb).2 (r_ret (v_map vB rfl rfl) rfl)
theorem v_mapT {ρ : List (String × D)} {elt src : ME} {f : α → D} {l : List α} {d : D} (hs : evE cf ρ src = some d) (hi : d.items = some (l.map g)) (hl : l.length ≤ big) (h : ∀ x ∈ l, evE cf ((z, g x) :: ρ) elt = some (f x)) : evE cf ρ (.comp elt z src []) = some (.list (l.map f)) :=
  v_comp hs hi (by rw [List.length_map]; exact hl) (compM_mm _ _ _ _ fun x hx => compF_nil (h x hx))
end
noncomputable abbrev Tab := List (List D)
noncomputable def RowOk (m : Nat) (r : List D) : Prop := r.length = m ∧ ∀ d ∈ r, d.isCell = true
noncomputable def TbsOk (m : Nat) (t : Tab) : Prop := ∀ r ∈ t, RowOk m r
noncomputable def RowG (m : Nat) (r : List D) : Prop := r.length = m ∧ ∀ d ∈ r, Good d
noncomputable def TbsG (m : Nat) (t : Tab) : Prop := ∀ r ∈ t, RowG m r
theorem TbsG.ok {m : Nat} {t : Tab} (h : TbsG m t) : TbsOk m t := fun r hr => ⟨(h r hr).1, fun d hd => ((h r hr).2 d hd).cell⟩
noncomputable def tabD (t : Tab) : D := .list (t.map .tup)
noncomputable def prT (k : Nat × Nat) : D := .tup [.int (k.1 : Int), .int (k.2 : Int)]
noncomputable def meetsV (prs : List (Nat × Nat)) (a b : List D) : Bool := prs.all fun p => alikeV (a.getD p.1 .none) (b.getD p.2 .none)
theorem ite_any {α : Type} (q : α → Bool) (l : List α) : (if (l.any fun x => !q x) = true then false else !false) = l.all q := by
  rw [← List.not_all_eq_any_not]
  cases l.all q <;> rfl
theorem cell_getD {row : List D} (hr : ∀ d ∈ row, d.isCell = true) {p : Nat} (hp : p < row.length) : (row.getD p .none).isCell = true := by
  rw [List.getD_eq_getElem?_getD, List.getElem?_eq_getElem hp]; exact hr _ (List.getElem_mem hp)
theorem at_e {m p : Nat} {r : List D} (hr : RowOk m r) (hp : p < m) : subD (.tup r) (.int p) = some (r.getD p .none) := getD_at (hr.1.symm ▸ hp)
theorem at_c {m p : Nat} {r : List D} (hr : RowOk m r) (hp : p < m) : (r.getD p .none).isCell = true := cell_getD hr.2 (hr.1.symm ▸ hp)
theorem getD_mem {α : Type} {left : List α} {z : α} {j : Nat} (h : j < left.length) : left.getD j z ∈ left := by
  rw [List.getD_eq_getElem?_getD, List.getElem?_eq_getElem h]; exact List.getElem_mem h
theorem list_sub {α : Type} {g : α → D} {l : List α} {z : α} {k : Nat} (h : k < l.length) : subD (.list (l.map g)) (.int k) = some (g (l.getD k z)) := sub_l (by rw [List.length_map]; exact h) (by rw [List.getElem?_map, List.getD_eq_getElem?_getD, List.getElem?_eq_getElem h]; rfl)
theorem compM_fm {α : Type} {f : D → Option (Option D)} {g : α → D} {p : α → Bool} : ∀ (l : List α), (∀ x ∈ l, f (g x) = some (if p x = true then some (g x) else none)) → compM f (l.map g) = some ((l.filter p).map g)
  | [], _ => rfl
  | a :: r, e => by
    rw [List.map_cons, compM, e a (.head _)]
    show (match compM f (r.map g) with | none => none | some ds => _) = _
    rw [compM_fm r fun i hi => e i (.tail _ hi)]
    cases hp : p a with
    | true => rw [List.filter_cons_of_pos hp]; rfl
    | false => rw [List.filter_cons_of_neg (by rw [hp]; nofun)]; rfl
theorem not_any_filter {α β : Type} (p : α → Bool) (g : α → β) (l : List α) : (!(!((l.filter p).map g).isEmpty)) = !l.any p := by
  induction l with
  | nil => rfl
  | cons a l ih =>
    rw [List.any_cons]
    cases hp : p a with
    | true => rw [List.filter_cons_of_pos hp]; rfl
    | false => rw [List.filter_cons_of_neg (by rw [hp]; nofun), Bool.false_or]; exact ih
section
variable {α : Type} {cf : CF} {ρ : List (String × D)} {z : String} {g : α → D}
theorem v_noneT {p : α → Bool} {l : List α} {src c : ME} {d : D} (hs : evE cf ρ src = some d) (hi : d.items = some (l.map g)) (hl : l.length ≤ big) (hc : ∀ x ∈ l, evE cf ((z, g x) :: ρ) c = some (.bool (p x))) : evE cf ρ (.not (.comp (.var z) z src [c])) = some (.bool (!l.any p)) := by
  rw [← not_any_filter p g l]
  exact v_not (v_comp hs hi (by rw [List.length_map]; exact hl) (compM_fm l fun x hx => compF_one (hc x hx) rfl fun _ => v_var hr_eq)) rfl
end
theorem alike_eq (n : Nat) (a b : D) (ha : a.isCell = true) (hb : b.isCell = true) : (callN PP X7 (n + 1)).call "alike" [a, b] = some (.bool (alikeV a b), false) := by
  refine run_call (by rfl : PP.lookup "alike" = some fn_alike) rfl ?_
  cases a <;> first | (cases ha; done) | (cases b <;> first | (cases hb; done) | rfl)
theorem lalike (n : Nat) (a b : D) (ha : a.isCell = true) (hb : b.isCell = true) : (callN PP X7 (n + 1)).call "_law_alike" [a, b] = some (.bool (alikeV a b), false) := by
  refine run_call (by rfl : PP.lookup "_law_alike" = some fn_law_alike) rfl ?_
  cases a <;> first | (cases ha; done) | (cases b <;> first | (cases hb; done) | rfl)
theorem meets_eq (n : Nat) {m k : Nat} {a b : List D} (ha : RowOk m a) (hb : RowOk k b) {prs : List (Nat × Nat)} (hp : ∀ p ∈ prs, p.1 < m ∧ p.2 < k) : (callN PP X7 (n + 2)).call "meets" [.tup a, .tup b, .tup (prs.map prT)] = some (.bool (meetsV prs a b), false) := by
  refine run_call (by rfl : PP.lookup "meets" = some fn_meets) rfl ?_
  show Run _ fn_meets.body [("one", (false, .tup a)), ("other", (false, .tup b)), ("pairs", (false, .tup (prs.map prT)))] _ _
  have q := run_find (cf := callN PP X7 (n + 1)) (z := "pair") (g := prT) (s := "pairs") (σ := [("one", (false, .tup a)), ("other", (false, .tup b)), ("pairs", (false, .tup (prs.map prT)))]) (c := .not (.call "alike" [.sub (.var "one") (.sub (.var "pair") (.int 0)), .sub (.var "other") (.sub (.var "pair") (.int 1))])) (b := false) (fun p => !alikeV (a.getD p.1 .none) (b.getD p.2 .none)) prs (h_consn rfl (h_consn rfl h_cons)) (fun σ => Has σ "one" (.tup a) ∧ Has σ "other" (.tup b)) ⟨h_fr h_cons, h_fr (h_consn rfl h_cons)⟩ fun p hps σ hσ => ⟨⟨h_ne rfl hσ.1, h_ne rfl hσ.2⟩,
    v_not (v_callE (v_cons (v_sub (vr (h_ne rfl hσ.1)) (v_sub (x := prT p) (vr h_eq) vI rfl) (at_e ha (hp p hps).1)) (v_cons (v_sub (vr (h_ne rfl hσ.2)) (v_sub (x := prT p) (vr h_eq) vI rfl) (at_e hb (hp p hps).2)) vN)) (alike_eq n _ _ (at_c ha (hp p hps).1) (at_c hb (hp p hps).2))) rfl⟩
  rw [ite_any] at q
  exact q
noncomputable def metV (prs : List (Nat × Nat)) (t1 t2 : Tab) : Tab := t1.flatMap fun a => (t2.filter (meetsV prs a)).map (a ++ ·)
theorem metV_len (prs : List (Nat × Nat)) (t1 t2 : Tab) : (metV prs t1 t2).length ≤ t1.length * t2.length := by
  induction t1 with
  | nil => exact Nat.zero_le _
  | cons a t1 ih =>
    show (_ ++ metV prs t1 t2).length ≤ _
    rw [List.length_append, List.length_map, List.length_cons, Nat.succ_mul, Nat.add_comm]
    exact Nat.add_le_add ih (List.length_filter_le _ _)
theorem metV_snoc (prs : List (Nat × Nat)) (t1 t2 : Tab) (a : List D) : metV prs (t1 ++ [a]) t2 = metV prs t1 t2 ++ (t2.filter (meetsV prs a)).map (a ++ ·) := by
  unfold metV; rw [List.flatMap_append, List.flatMap_cons, List.flatMap_nil, List.append_nil]
theorem tabD_snoc (t : Tab) (r : List D) : tabD (t ++ [r]) = .list (t.map .tup ++ [.tup r]) := by unfold tabD; rw [List.map_append]; rfl
noncomputable abbrev metIn : List MS := [.ite (.call "meets" [.var "one", .var "other", .var "pairs"]) [.append "found" (.bin .Add (.var "one") (.var "other"))] []]
structure MetI (t2 : Tab) (prs : List (Nat × Nat)) (acc : Tab) (σ : St) : Prop where
  s : Has σ "second" (tabD t2)
  p : Has σ "pairs" (.tup (prs.map prT))
  f : OwnV σ "found" (tabD acc)
theorem met_in (n : Nat) {m k : Nat} {a : List D} {t2 acc : Tab} (ha : RowOk m a) (h2 : TbsOk k t2) (hw : m + k ≤ big) {prs : List (Nat × Nat)} (hp : ∀ p ∈ prs, p.1 < m ∧ p.2 < k) (hl : acc.length + t2.length ≤ big) {σ : St} (h1 : Has σ "one" (.tup a)) (I : MetI t2 prs acc σ) :
    ∃ σ', MetI t2 prs (acc ++ (t2.filter (meetsV prs a)).map (a ++ ·)) σ' ∧ forD (bodyF (callN PP X7 (n + 2)) metIn "other") (t2.map .tup) σ = some (.next, σ') := by
  obtain ⟨σ', I', e⟩ := loopT (cf := callN PP X7 (n + 2)) (body := metIn) (z := "other") (g := D.tup) (fun c σ => Has σ "one" (.tup a) ∧ MetI t2 prs (acc ++ (c.filter (meetsV prs a)).map (a ++ ·)) σ) t2 [] σ ⟨h1, by rw [List.filter_nil, List.map_nil, List.append_nil]; exact I⟩ (by
    rintro c b σ hb hc ⟨i1, i2, i3, i4⟩
    refine o_if (v_callE (vv (h_ne rfl i1) (vv h_eq (vv (h_ne rfl i3) vN))) (meets_eq n ha (h2 b hb) hp)) rfl (fun h => ?_) fun h => ?_
    · refine o_step (p_append (d := .tup (a ++ b)) (ds := ((acc ++ (c.filter (meetsV prs a)).map (a ++ ·)).map .tup)) (v_bin (vr (h_ne rfl i1)) (vr h_eq) (if_pos (by rw [ha.1, (h2 b hb).1]; exact hw))) (w_st rfl (w_ne rfl i4)) ?_) (o_nil ⟨rfl, h_ne rfl (h_st (h_ne rfl i1)), h_ne rfl (h_st (h_ne rfl i2)), h_ne rfl (h_st (h_ne rfl i3)), ?_⟩)
      · rw [List.length_map, List.length_append, List.length_map]
        exact Nat.lt_of_lt_of_le (Nat.add_lt_add_left (Nat.lt_of_le_of_lt (List.length_filter_le _ _) (Nat.zero_add t2.length ▸ hc)) _) hl
      · rw [show acc ++ ((c ++ [b]).filter (meetsV prs a)).map (a ++ ·) = acc ++ (c.filter (meetsV prs a)).map (a ++ ·) ++ [a ++ b] from by rw [List.filter_append, show [b].filter (meetsV prs a) = [b] from List.filter_cons_of_pos h, List.map_append, List.append_assoc]; rfl, tabD_snoc]
        exact w_eq
    · refine o_nil ⟨rfl, h_ne rfl i1, h_ne rfl i2, h_ne rfl i3, ?_⟩
      rw [List.filter_append, show [b].filter (meetsV prs a) = [] from List.filter_cons_of_neg (by rw [h]; nofun), List.append_nil]
      exact w_ne rfl i4)
  exact ⟨σ', I'.2, e⟩
theorem met_eq (n : Nat) {m k : Nat} {t1 t2 : Tab} (h1 : TbsOk m t1) (h2 : TbsOk k t2) (l1 : t1.length ≤ 69) (l2 : t2.length ≤ 300) (hw : m + k ≤ big) {prs : List (Nat × Nat)} (hp : ∀ p ∈ prs, p.1 < m ∧ p.2 < k) :
    (callN PP X7 (n + 3)).call "met" [tabD t1, tabD t2, .tup (prs.map prT)] = some (tabD (metV prs t1 t2), true) := by
  refine run_call (by rfl : PP.lookup "met" = some fn_met) rfl ?_
  show Run _ fn_met.body [("first", (false, tabD t1)), ("second", (false, tabD t2)), ("pairs", (false, .tup (prs.map prT)))] _ _
  refine r_step (p_assign (d := .list []) (fr := true) rfl) ?_
  obtain ⟨σ', I', e⟩ := loopT (cf := callN PP X7 (n + 2)) (body := [.for_ "other" (.var "second") metIn]) (z := "one") (g := D.tup) (fun b σ => MetI t2 prs (metV prs b t2) σ) t1 [] (freeze ["first"] (setv [("first", (false, tabD t1)), ("second", (false, tabD t2)), ("pairs", (false, .tup (prs.map prT)))] "found" (true, .list []))) ⟨h_fr (h_ne rfl (h_consn rfl h_cons)), h_fr (h_ne rfl (h_consn rfl (h_consn rfl h_cons))), w_fr rfl w_eq⟩ (by
    rintro b a σ ha hb ⟨i2, i3, i4⟩
    obtain ⟨σ2, J, e⟩ := met_in (σ := freeze ["second"] (setv σ "one" (false, .tup a))) n (h1 a ha) h2 hw hp (acc := metV prs b t2) (Nat.le_trans (Nat.add_le_add (Nat.le_trans (metV_len prs b t2) (Nat.mul_le_mul (Nat.le_trans (Nat.le_of_lt (Nat.zero_add t1.length ▸ hb)) l1) l2)) l2) (by decide)) (h_fr h_eq) ⟨h_fr (h_ne rfl i2), h_fr (h_ne rfl i3), w_fr rfl (w_ne rfl i4)⟩
    refine o_for (vr (h_ne rfl i2)) rfl e (o_nil ⟨rfl, ?_⟩)
    rw [metV_snoc]; exact J)
  exact r_for (vr (h_ne rfl h_cons)) rfl e (r_retv I'.f)

set_option maxRecDepth 100000
set_option maxHeartbeats 400000
theorem tabG_snoc {m : Nat} {t : Tab} {cs : List D} (h : TbsG m t) (h1 : cs.length = m) (h2 : ∀ d ∈ cs, Good d) : TbsG m (t ++ [cs]) := fun r hr => (List.mem_append.mp hr).elim (h r) fun hr => List.mem_singleton.mp hr ▸ ⟨h1, h2⟩
noncomputable abbrev rowsB : List MS := [.assign "_law_like" (.bin .Sub (.var "_law_at") (.bin .FloorDiv (.bin .Mod (.var "_law_at") (.int 3)) (.int 2))), .ite (.cmp .Eq (.bin .Mod (.var "_law_at") (.int 5)) (.int 4)) [.assign "_law_like" (.int 0)] [], .append "_law_rows" (.blt "tuple" [.comp (.call "_law_thing_by" [.call "_law_mixed" [.var "_law_cell", .bin .Add (.bin .Mult (.int 13) (.var "_law_like")) (.var "_law_k")]]) "_law_k" (.blt "range" [.var "_law_wide"]) []])]
theorem rows_by (n : Nat) (c : Int) {m k : Nat} (hm : m ≤ 1000) (hk : k ≤ 69) : ∃ t : Tab, TbsG m t ∧ t.length = k ∧ (callN PP X7 (n + 3)).call "_law_rows_by" [.int c, .int m, .int k] = some (tabD t, true) := by
  obtain ⟨σ', ⟨t, h1, h2, h3, _⟩, e⟩ := loopT (cf := callN PP X7 (n + 2)) (body := rowsB) (z := "_law_at") (g := fun i : Nat => D.int (i : Int)) (fun b σ => ∃ t : Tab, TbsG m t ∧ t.length = b.length ∧ OwnV σ "_law_rows" (tabD t) ∧ Has σ "_law_cell" (.int c) ∧ Has σ "_law_wide" (.int m)) (List.range k) [] (freeze ["_law_many"] (setv [("_law_cell", (false, .int c)), ("_law_wide", (false, .int m)), ("_law_many", (false, .int k))] "_law_rows" (true, .list [])))
    ⟨[], (fun _ h => nomatch h), rfl, w_fr rfl w_eq, h_fr (h_ne rfl h_cons), h_fr (h_ne rfl (h_consn rfl h_cons))⟩ (by
    rintro b i σ _ hb ⟨t, h1, h2, h3, h4, h5⟩
    have fin : ∀ (L : Int) (σ : St), OwnV σ "_law_rows" (tabD t) → Has σ "_law_cell" (.int c) → Has σ "_law_wide" (.int m) → Has σ "_law_like" (.int L) → Out (callN PP X7 (n + 2)) (rowsB.drop 2) σ fun fl σ' => fl = .next ∧ ∃ t : Tab, TbsG m t ∧ t.length = (b ++ [i]).length ∧ OwnV σ' "_law_rows" (tabD t) ∧ Has σ' "_law_cell" (.int c) ∧ Has σ' "_law_wide" (.int m) := fun L σ i3 i4 i5 i6 => by
      obtain ⟨cs, q1, q2, q3⟩ := v_rows (cf := callN PP X7 (n + 2)) (ρ := vis σ) (z := "_law_k") (elt := .call "_law_thing_by" [.call "_law_mixed" [.var "_law_cell", .bin .Add (.bin .Mult (.int 13) (.var "_law_like")) (.var "_law_k")]]) (src := .var "_law_wide") hm Good (vr i5) fun j _ => by
        obtain ⟨r, _, hr⟩ := mixed (X := X7) bg (n + 1) c (13 * L + j)
        obtain ⟨d, gd, hd⟩ := thing_by (X := X7) bg n r
        exact ⟨d, gd, v_callE (v_cons (v_callE (v_cons (v_var (hr_ne rfl (hr_vis i4))) (v_cons (v_bin (v_bin vI (v_var (hr_ne rfl (hr_vis i6))) (b_mulL (by decide))) (v_var hr_eq) b_add) vN)) hr) vN) hd⟩
      refine o_step (p_append (ds := t.map .tup) q3 (w_st rfl i3) ?_) (o_nil ⟨rfl, t ++ [cs], tabG_snoc h1 q1 q2, ?_, ?_, h_ne rfl (h_st i4), h_ne rfl (h_st i5)⟩)
      · rw [List.length_map, h2]
        exact Nat.lt_of_lt_of_le (by rw [List.length_range, List.length_nil, Nat.zero_add] at hb; exact hb) (Nat.le_trans hk (by decide))
      · rw [List.length_append, List.length_append, h2]; rfl
      · rw [tabD_snoc]; exact w_eq
    refine o_step (p_cell (d := .int (i - i % 3 / 2)) (fr := false) (v_map (v_bin (vr h_eq) (v_bin (v_bin (vr h_eq) vI (b_mod (by decide))) vI (b_div (by unfold lim; decide))) b_sb) rfl rfl) rfl) (o_if (k := (i : Int) % 5 == 4) (v_cmp (v_bin (vr (h_ne rfl h_eq)) vI (b_mod (by decide))) vI rfl) rfl (fun _ => ?_) fun _ => ?_)
    · exact o_step (p_cell (d := .int 0) (fr := false) (v_map vI rfl rfl) rfl) (fin 0 _ (w_ne rfl (w_ne rfl (w_ne rfl h3))) (h_ne rfl (h_ne rfl (h_ne rfl h4))) (h_ne rfl (h_ne rfl (h_ne rfl h5))) h_eq)
    · exact fin _ _ (w_ne rfl (w_ne rfl h3)) (h_ne rfl (h_ne rfl h4)) (h_ne rfl (h_ne rfl h5)) h_eq)
  refine ⟨t, h1, h2.trans (by rw [List.nil_append, List.length_range]), run_call (by rfl : PP.lookup "_law_rows_by" = some fn_law_rows_by) rfl ?_⟩
  exact r_step (p_assign (d := .list []) (fr := true) rfl) (r_for (x := .rng 0 k) (v_blt (v_cons (d := .int k) (vr (h_ne rfl (h_consn rfl (h_consn rfl h_cons)))) vN) (blt_rng (Nat.le_trans hk (by decide)))) (items_rng k) e (r_retv h3))
noncomputable def wideV (c : Int) : Nat := if (c / 35 % 6 == 2) = true then (c / 210 % 13).toNat else [2, 1, 3, 2, 0].getD (c % 5).toNat 0
theorem wide_le (c : Int) : wideV c ≤ 12 := by
  unfold wideV
  split
  · omega
  · obtain ⟨m, e, hm⟩ := emod_nat c (k := 5) (by decide)
    have e : c % 5 = m := e
    rw [e, Int.toNat_natCast]
    exact (by decide : ∀ m < 5, [2, 1, 3, 2, 0].getD m 0 ≤ 12) m hm
theorem wide_by (n : Nat) (c : Int) : (callN PP X7 (n + 1)).call "_law_wide_by" [.int c] = some (.int (wideV c), false) := by
  refine run_call (by rfl : PP.lookup "_law_wide_by" = some fn_law_wide_by) rfl ?_
  unfold wideV
  cases h : (c / 35 % 6 == 2) with
  | true =>
    rw [if_pos rfl]
    have e : ((c / 210 % 13).toNat : Int) = c / 210 % 13 := by omega
    rw [e]
    exact r_if (v_cmp (v_bin (v_bin (v_var rfl) vI (b_div (dtt rfl))) vI (b_mod (dtt rfl))) vI rfl) rfl (fun hh => r_ret (v_map (v_bin (v_bin (v_var rfl) vI (b_div (dtt rfl))) vI (b_mod (dtt rfl))) rfl rfl) rfl) fun hh => no_tf h hh
  | false =>
    rw [if_neg Bool.false_ne_true]
    obtain ⟨m, e, hm⟩ := emod_nat c (k := 5) (by decide)
    have e : c % 5 = m := e
    have q : subD (.list [.int 2, .int 1, .int 3, .int 2, .int 0]) (.int (c % 5)) = some (.int (([2, 1, 3, 2, 0].getD (c % 5).toNat 0 : Nat) : Int)) := by
      rw [e, Int.toNat_natCast]
      exact list_sub (g := fun k : Nat => D.int (k : Int)) (l := [2, 1, 3, 2, 0]) (z := 0) hm
    exact r_if (v_cmp (v_bin (v_bin (v_var rfl) vI (b_div (dtt rfl))) vI (b_mod (dtt rfl))) vI rfl) rfl (fun hh => no_tf hh h) fun _ => r_ret (v_map (v_sub (x := .list [.int 2, .int 1, .int 3, .int 2, .int 0]) (by rfl) (v_bin (v_var rfl) vI (b_mod (by decide))) q) rfl rfl) rfl
theorem rows_of (n : Nat) (c : Int) : ∃ m : Nat, m ≤ 8 ∧ (callN PP X7 (n + 1)).call "_law_rows_of" [.int c] = some (.int m, false) := by
  obtain ⟨d, ⟨m, rfl, hm⟩, q⟩ := list_pick (l := [.int 5, .int 7, .int 4, .int 8, .int 6, .int 2, .int 0]) (by decide) (c / 5) (R := fun d => ∃ m : Nat, d = .int m ∧ m ≤ 8) (by
    intro d hd
    simp only [List.mem_cons, List.not_mem_nil, or_false] at hd
    rcases hd with rfl | rfl | rfl | rfl | rfl | rfl | rfl <;> first | exact ⟨5, rfl, by decide⟩ | exact ⟨7, rfl, by decide⟩ | exact ⟨4, rfl, by decide⟩ | exact ⟨8, rfl, by decide⟩ | exact ⟨6, rfl, by decide⟩ | exact ⟨2, rfl, by decide⟩ | exact ⟨0, rfl, by decide⟩)
  have q : subD (.list [.int 5, .int 7, .int 4, .int 8, .int 6, .int 2, .int 0]) (.int (c / 5 % 7)) = some (.int m) := q
  exact ⟨m, hm, run_call (by rfl : PP.lookup "_law_rows_of" = some fn_law_rows_of) rfl (r_ret (v_map (v_sub (x := .list [.int 5, .int 7, .int 4, .int 8, .int 6, .int 2, .int 0]) (by rfl) (v_bin (v_bin (v_var rfl) vI (b_div (dtt rfl))) vI (b_mod (by decide))) q) rfl rfl) rfl)⟩
theorem cellA (n : Nat) (ns : List Int) (k : Nat) : (callN PP X7 (n + 1)).call "_law_cell_at" [.list (ns.map .int), .int k] = some (.int (ns.getD k 0), false) := cell_at bg n ns k
theorem table_by (n : Nat) (ns : List Int) (k : Nat) : ∃ t : Tab, TbsG (wideV (ns.getD k 0)) t ∧ t.length ≤ 69 ∧ (callN PP X7 (n + 4)).call "_law_table_by" [.list (ns.map .int), .int k] = some (tabD t, true) := by
  obtain ⟨m, hm, hro⟩ := rows_of (n + 2) (ns.getD k 0)
  have c1 := cellA (n + 2) ns k
  have c2 := cellA (n + 2) ns (k + 1)
  have w1 := wide_by (n + 2) (ns.getD k 0)
  have e1 : ((k + 1 : Nat) : Int) = (k : Int) + 1 := by omega
  rw [e1] at c2
  have fin : ∀ (j : Nat) (σ : St), j ≤ 69 → Has σ "_law_script" (.list (ns.map .int)) → Has σ "_law_k" (.int k) → Has σ "_law_cell" (.int (ns.getD k 0)) → Has σ "_law_many" (.int j) → ∃ t : Tab, TbsG (wideV (ns.getD k 0)) t ∧ t.length ≤ 69 ∧ Run (callN PP X7 (n + 3)) [.ret (.call "_law_rows_by" [.call "_law_cell_at" [.var "_law_script", .bin .Add (.var "_law_k") (.int 1)], .call "_law_wide_by" [.var "_law_cell"], .var "_law_many"])] σ (tabD t) true := fun j σ hj i1 i2 i3 i4 => by
    obtain ⟨t, t1, t2, ht⟩ := rows_by n (ns.getD (k + 1) 0) (m := wideV (ns.getD k 0)) (k := j) (Nat.le_trans (wide_le _) (by decide)) hj
    exact ⟨t, t1, t2 ▸ hj, r_ret (v_call (v_cons (v_callE (vv i1 (v_cons (v_bin (vr i2) vI b_add) vN)) c2) (v_cons (v_callE (vv i3 vN) w1) (vv i4 vN))) ht) rfl⟩
  have i0 : ∀ {x d}, Has [("_law_script", (false, D.list (ns.map .int))), ("_law_k", (false, .int k))] x d → (x == "_law_cell") = false → (x == "_law_many") = false → Has (setv (setv [("_law_script", (false, D.list (ns.map .int))), ("_law_k", (false, .int k))] "_law_cell" (false, .int (ns.getD k 0))) "_law_many" (false, .int m)) x d := fun i h1 h2 => h_ne h2 (h_ne h1 i)
  cases hb : ((ns.getD k 0) / 35 % 6 == 1) with
  | false =>
    obtain ⟨t, t1, t2, ht⟩ := fin m _ (Nat.le_trans hm (by decide)) (i0 h_cons rfl rfl) (i0 (h_consn rfl h_cons) rfl rfl) (h_ne rfl h_eq) h_eq
    refine ⟨t, t1, t2, run_call (by rfl : PP.lookup "_law_table_by" = some fn_law_table_by) rfl ?_⟩
    refine r_step (p_cell (d := .int (ns.getD k 0)) (fr := false) (v_call (vv h_cons (vv (h_consn rfl h_cons) vN)) c1) rfl) (r_step (p_cell (d := .int m) (fr := false) (v_call (vv h_eq vN) hro) rfl) ?_)
    exact r_if (v_cmp (v_bin (v_bin (vr (h_ne rfl h_eq)) vI (b_div (dtt rfl))) vI (b_mod (dtt rfl))) vI rfl) rfl (fun hh => no_tf hh hb) fun _ => ht
  | true =>
    obtain ⟨j, ej, hj⟩ := emod_nat ((ns.getD k 0) / 210) (k := 70) (by decide)
    have ej : (ns.getD k 0) / 210 % 70 = j := ej
    obtain ⟨t, t1, t2, ht⟩ := fin j (setv (setv (setv [("_law_script", (false, D.list (ns.map .int))), ("_law_k", (false, .int k))] "_law_cell" (false, .int (ns.getD k 0))) "_law_many" (false, .int m)) "_law_many" (false, .int j)) (Nat.le_of_lt_succ hj) (h_ne rfl (i0 h_cons rfl rfl)) (h_ne rfl (i0 (h_consn rfl h_cons) rfl rfl)) (h_ne rfl (h_ne rfl h_eq)) h_eq
    refine ⟨t, t1, t2, run_call (by rfl : PP.lookup "_law_table_by" = some fn_law_table_by) rfl ?_⟩
    refine r_step (p_cell (d := .int (ns.getD k 0)) (fr := false) (v_call (vv h_cons (vv (h_consn rfl h_cons) vN)) c1) rfl) (r_step (p_cell (d := .int m) (fr := false) (v_call (vv h_eq vN) hro) rfl) ?_)
    refine r_if (v_cmp (v_bin (v_bin (vr (h_ne rfl h_eq)) vI (b_div (dtt rfl))) vI (b_mod (dtt rfl))) vI rfl) rfl (fun _ => ?_) fun hh => no_tf hb hh
    exact r_step (p_cell (d := .int j) (fr := false) (v_map (ej ▸ v_bin (v_bin (vr (h_ne rfl h_eq)) vI (b_div (dtt rfl))) vI (b_mod (by decide))) rfl rfl) rfl) ht
theorem any_no {α : Type} (l : List α) : (l.any fun _ => false) = false := List.any_eq_false.mpr fun _ _ => Bool.false_ne_true
theorem neq_nat (n : Nat) : cmpD .NotEq (.int n) (.int n) = some (.bool false) := by
  show some (D.bool (!((n : Int) == (n : Int)))) = _
  rw [beq_self_eq_true]; rfl
theorem lcell_is (n : Nat) {c : D} (hc : c.isCell = true) : (callN PP X7 (n + 1)).call "_law_cell_is" [c, c] = some (.bool true, false) := by
  refine run_call (by rfl : PP.lookup "_law_cell_is" = some fn_law_cell_is) rfl ?_
  refine cellCases (C := fun c => Run (callN PP X7 n) fn_law_cell_is.body [("_law_found", (false, c)), ("_law_due", (false, c))] (.bool true) false) hc (fun i => ?_) fun x => ?_
  · have e : cmpD .Eq (.int i) (.int i) = some (.bool true) := by show some (D.bool (i == i)) = _; rw [beq_self_eq_true]
    refine r_if (k := false) (v_or (k := false) (l := false) (v_isi (vr (h_consn rfl h_cons)) rfl) fun _ => v_bop1 (v_isi (vr h_cons) rfl)) rfl nofun fun _ => ?_
    exact r_ret (v_map (v_and (k := true) (l := true) (v_isi (vr h_cons) rfl) fun _ => v_bop1 (v_cmp (vr h_cons) (vr (h_consn rfl h_cons)) e)) rfl rfl) rfl
  · have e : cmpD .Eq (.str x) (.str x) = some (.bool true) := by show some (D.bool (x == x)) = _; rw [beq_self_eq_true]
    refine r_if (k := true) (v_or (k := true) (l := true) (v_isi (vr (h_consn rfl h_cons)) rfl) nofun) rfl (fun _ => ?_) nofun
    exact r_ret (v_map (v_and (k := true) (l := true && true) (v_isi (vr h_cons) rfl) fun _ => v_and (k := true) (l := true) (v_isi (vr (h_consn rfl h_cons)) rfl) fun _ => v_bop1 (v_cmp (vr h_cons) (vr (h_consn rfl h_cons)) e)) rfl rfl) rfl
theorem v_alls {cf : CF} {ρ : List (String × D)} {m : Nat} {src c : ME} (hs : evE cf ρ src = some (.int m)) (hl : m ≤ big) (hc : ∀ i : Nat, i < m → evE cf (("_law_k", .int i) :: ρ) c = some (.bool false)) : evE cf ρ (.not (.comp (.var "_law_k") "_law_k" (.blt "range" [src]) [c])) = some (.bool true) := by
  have q := v_noneT (cf := cf) (z := "_law_k") (g := fun i : Nat => D.int (i : Int)) (p := fun _ => false) (l := List.range m) (v_blt (v_cons hs vN) (blt_rng hl)) (items_rng m) (by rw [List.length_range]; exact hl) fun i hi => hc i (List.mem_range.mp hi)
  rw [any_no] at q
  exact q
theorem lrow_is (n : Nat) {m : Nat} {r : List D} (hr : RowOk m r) (hm : m ≤ big) : (callN PP X7 (n + 2)).call "_law_row_is" [.tup r, .tup r] = some (.bool true, false) := by
  refine run_call (by rfl : PP.lookup "_law_row_is" = some fn_law_row_is) rfl ?_
  show Run _ fn_law_row_is.body [("_law_found", (false, .tup r)), ("_law_due", (false, .tup r))] _ _
  have hl : ∀ {x : String} {ρ : List (String × D)}, HasR ρ x (.tup r) → evE (callN PP X7 (n + 1)) ρ (.blt "len" [.var x]) = some (.int m) := fun i => v_blt (v_cons (v_var i) vN) (by show some (D.int (r.length : Nat)) = _; rw [hr.1])
  refine r_if (k := false) (v_or (k := false) (l := false) (v_not (k := true) (v_isi (vr h_cons) rfl) rfl) fun _ => v_bop1 (v_cmp (hl (hr_vis h_cons)) (hl (hr_vis (h_consn rfl h_cons))) (neq_nat m))) rfl nofun fun _ => ?_
  exact r_ret (v_map (v_alls (hl (hr_vis (h_consn rfl h_cons))) hm fun i hi => v_not (k := true) (v_callE (v_cons (v_sub (v_var (hr_ne rfl (hr_vis h_cons))) (v_var hr_eq) (at_e hr hi)) (v_cons (v_sub (v_var (hr_ne rfl (hr_vis (h_consn rfl h_cons)))) (v_var hr_eq) (at_e hr hi)) vN)) (lcell_is n (at_c hr hi))) rfl) rfl rfl) rfl
theorem lrows_are (n : Nat) {m : Nat} {t : Tab} (h : TbsOk m t) (hm : m ≤ big) (hl : t.length ≤ big) : (callN PP X7 (n + 3)).call "_law_rows_are" [tabD t, tabD t] = some (.bool true, false) := by
  refine run_call (by rfl : PP.lookup "_law_rows_are" = some fn_law_rows_are) rfl ?_
  show Run _ fn_law_rows_are.body [("_law_found", (false, tabD t)), ("_law_due", (false, tabD t))] _ _
  have hn : ∀ {x : String} {ρ : List (String × D)}, HasR ρ x (tabD t) → evE (callN PP X7 (n + 2)) ρ (.blt "len" [.var x]) = some (.int t.length) := fun i => v_blt (v_cons (v_var i) vN) (by show some (D.int ((t.map D.tup).length : Nat)) = _; rw [List.length_map])
  refine r_if (k := false) (v_or (k := false) (l := false) (v_not (k := true) (v_isi (vr h_cons) rfl) rfl) fun _ => v_bop1 (v_cmp (hn (hr_vis h_cons)) (hn (hr_vis (h_consn rfl h_cons))) (neq_nat t.length))) rfl nofun fun _ => ?_
  exact r_ret (v_map (v_alls (hn (hr_vis (h_consn rfl h_cons))) hl fun i hi => v_not (k := true) (v_callE (v_cons (v_sub (v_var (hr_ne rfl (hr_vis h_cons))) (v_var hr_eq) (list_sub (g := D.tup) (z := ([] : List D)) hi)) (v_cons (v_sub (v_var (hr_ne rfl (hr_vis (h_consn rfl h_cons)))) (v_var hr_eq) (list_sub (g := D.tup) (z := ([] : List D)) hi)) vN)) (lrow_is n (h _ (getD_mem hi)) hm)) rfl) rfl rfl) rfl
noncomputable def kA : D := .str (Str.ofString "a")
noncomputable def kB : D := .str (Str.ofString "b")
noncomputable def tabs2 (t1 t2 : Tab) : D := .dict [kA, kB] [tabD t1, tabD t2]
theorem lst2 (t1 t2 : Tab) : lstD (tabs2 t1 t2) = some [kA, kB] := rfl
theorem subA (t1 t2 : Tab) : subD (tabs2 t1 t2) kA = some (tabD t1) := rfl
theorem subB (t1 t2 : Tab) : subD (tabs2 t1 t2) kB = some (tabD t2) := rfl
theorem lstT (t : Tab) : lstD (tabD t) = some (t.map .tup) := rfl
noncomputable abbrev copB : List MS := [.setk "_law_made" (.var "_law_name") (.lcp (.sub (.var "_law_tables") (.var "_law_name")))]
theorem copied (n : Nat) (t1 t2 : Tab) : (callN PP X7 (n + 1)).call "_law_copied" [tabs2 t1 t2] = some (tabs2 t1 t2, true) := by
  refine run_call (by rfl : PP.lookup "_law_copied" = some fn_law_copied) rfl ?_
  refine r_step (p_assign (d := .dict [] []) (fr := true) rfl) ?_
  have turn : ∀ (σ : St) (k : D) (ks vs : List D) (t : Tab), k.isCell = true → Has σ "_law_tables" (tabs2 t1 t2) → OwnV σ "_law_made" (.dict ks vs) → subD (tabs2 t1 t2) k = some (tabD t) → (keyOk k ks && decide (ks.length < big)) = true → Out (callN PP X7 n) copB (setv σ "_law_name" (false, k)) fun fl σ' => fl = .next ∧ Has σ' "_law_tables" (tabs2 t1 t2) ∧ OwnV σ' "_law_made" (.dict (dput ks vs k (tabD t)).1 (dput ks vs k (tabD t)).2) := fun σ k ks vs t hk i1 i2 hs hb =>
    o_step (p_setk (d := tabD t) (dk := k) (ks := ks) (vs := vs) (v_lcp (v_sub (vr (h_ne rfl i1)) (vr h_eq) hs) (lstT t)) (vr h_eq) (w_st rfl (w_st rfl (w_ne rfl i2))) hb) (o_nil ⟨rfl, h_ne rfl (h_st (h_st (h_ne rfl i1))), w_eq⟩)
  obtain ⟨fl1, σ1, ⟨rfl, a1, a2⟩, e1⟩ := turn (freeze ["_law_tables"] (setv [("_law_tables", (false, tabs2 t1 t2))] "_law_made" (true, .dict [] []))) kA [] [] t1 rfl (h_fr (h_ne rfl h_cons)) (w_fr rfl w_eq) (subA t1 t2) rfl
  obtain ⟨fl2, σ2, ⟨rfl, b1, b2⟩, e2⟩ := turn σ1 kB [kA] [tabD t1] t2 rfl a1 a2 (subB t1 t2) rfl
  have e : forD (bodyF (callN PP X7 n) copB "_law_name") [kA, kB] (freeze ["_law_tables"] (setv [("_law_tables", (false, tabs2 t1 t2))] "_law_made" (true, .dict [] []))) = some (.next, σ2) := by
    rw [forB_cons, e1]
    show forD _ _ _ = _
    rw [forB_cons, e2]
    rfl
  exact r_for (x := .list [kA, kB]) (its := [kA, kB]) (σ' := σ2) (v_lcp (vr (h_ne rfl h_cons)) (lst2 t1 t2)) rfl e (r_retv b2)
theorem same2 : cmpD .NotEq (.list [kA, kB]) (.list [kA, kB]) = some (.bool false) := by rfl
theorem stayed (n : Nat) {t1 t2 : Tab} {m1 m2 : Nat} (h1 : TbsOk m1 t1) (h2 : TbsOk m2 t2) (l1 : m1 ≤ 12) (l2 : m2 ≤ 12) (k1 : t1.length ≤ 300) (k2 : t2.length ≤ 300) : (callN PP X7 (n + 4)).call "_law_stayed" [tabs2 t1 t2, tabs2 t1 t2] = some (.bool true, false) := by
  have r1 := lrows_are n h1 (Nat.le_trans l1 (by decide)) (Nat.le_trans k1 (by decide))
  have r2 := lrows_are n h2 (Nat.le_trans l2 (by decide)) (Nat.le_trans k2 (by decide))
  refine run_call (by rfl : PP.lookup "_law_stayed" = some fn_law_stayed) rfl ?_
  show Run _ fn_law_stayed.body [("_law_handed", (false, tabs2 t1 t2)), ("_law_tables", (false, tabs2 t1 t2))] _ _
  refine r_if (k := false) (v_cmp (v_lcp (vr h_cons) (lst2 t1 t2)) (v_lcp (vr (h_consn rfl h_cons)) (lst2 t1 t2)) same2) rfl nofun fun _ => ?_
  have q := v_noneT (cf := callN PP X7 (n + 3)) (ρ := vis [("_law_handed", (false, tabs2 t1 t2)), ("_law_tables", (false, tabs2 t1 t2))]) (z := "_law_name") (g := fun b : Bool => if b = true then kB else kA) (l := [false, true]) (p := fun _ => false) (src := .lcp (.var "_law_tables")) (c := .not (.call "_law_rows_are" [.sub (.var "_law_handed") (.var "_law_name"), .sub (.var "_law_tables") (.var "_law_name")])) (v_lcp (vr (h_consn rfl h_cons)) (lst2 t1 t2)) rfl (by decide) fun x _ => by
    cases x with
    | false => exact v_not (k := true) (v_callE (v_cons (v_sub (v_var (hr_ne rfl (hr_vis h_cons))) (v_var hr_eq) (subA t1 t2)) (v_cons (v_sub (v_var (hr_ne rfl (hr_vis (h_consn rfl h_cons)))) (v_var hr_eq) (subA t1 t2)) vN)) r1) rfl
    | true => exact v_not (k := true) (v_callE (v_cons (v_sub (v_var (hr_ne rfl (hr_vis h_cons))) (v_var hr_eq) (subB t1 t2)) (v_cons (v_sub (v_var (hr_ne rfl (hr_vis (h_consn rfl h_cons)))) (v_var hr_eq) (subB t1 t2)) vN)) r2) rfl
  rw [any_no] at q
  exact r_ret (v_map q rfl rfl) rfl
noncomputable def qT (k : D) : D := .tup [.str (Str.ofString "table"), k]
noncomputable def qJ (k1 k2 : D) (prs : List (Nat × Nat)) : D := .tup [.str (Str.ofString "join"), qT k1, qT k2, .tup (prs.map prT)]
theorem ans_table (n : Nat) {t1 t2 t : Tab} {k : D} (hk : k = kA ∨ k = kB) (hs : subD (tabs2 t1 t2) k = some (tabD t)) : (callN PP X7 (n + 1)).call "answer" [qT k, tabs2 t1 t2] = some (tabD t, true) := by
  refine run_call (by rfl : PP.lookup "answer" = some fn_answer) rfl ?_
  show Run _ fn_answer.body [("query", (false, qT k)), ("tables", (false, tabs2 t1 t2))] _ _
  refine r_step (p_cell (d := .str (Str.ofString "table")) (fr := false) (v_map (vsi h_cons rfl) rfl rfl) rfl) ?_
  refine r_if (k := false) (v_cmp (x := .str (Str.ofString "table")) (y := .tup steps) (vr h_eq) (by rw [e_glob, glob_x]; rfl) (by rfl)) rfl nofun fun _ => ?_
  refine r_if (k := true) (v_cmp (x := .str (Str.ofString "table")) (vr h_eq) vS (by rfl)) rfl (fun _ => ?_) nofun
  have hm : cmpD .NotIn k (tabs2 t1 t2) = some (.bool false) := by rcases hk with rfl | rfl <;> rfl
  refine r_if (k := false) (v_cmp (vsi (d := qT k) (h_ne rfl h_cons) rfl) (vr (h_ne rfl (h_consn rfl h_cons))) hm) rfl nofun fun _ => ?_
  exact r_ret (v_map (v_lcp (v_sub (vr (h_ne rfl (h_consn rfl h_cons))) (vsi (d := qT k) (h_ne rfl h_cons) rfl) hs) (lstT t)) rfl rfl) rfl
theorem ans_join (n : Nat) {t1 t2 a b : Tab} {m k : Nat} (ha : TbsOk m a) (hb : TbsOk k b) (l1 : a.length ≤ 69) (l2 : b.length ≤ 300) (hm : m ≤ 12) (hk : k ≤ 12) {prs : List (Nat × Nat)} (hp : ∀ p ∈ prs, p.1 < m ∧ p.2 < k) {k1 k2 : D} (q1 : k1 = kA ∨ k1 = kB) (q2 : k2 = kA ∨ k2 = kB) (s1 : subD (tabs2 t1 t2) k1 = some (tabD a)) (s2 : subD (tabs2 t1 t2) k2 = some (tabD b)) :
    (callN PP X7 (n + 4)).call "answer" [qJ k1 k2 prs, tabs2 t1 t2] = some (tabD (metV prs a b), true) := by
  have r1 := ans_table (n + 2) (t1 := t1) (t2 := t2) q1 s1
  have r2 := ans_table (n + 2) (t1 := t1) (t2 := t2) q2 s2
  have rm := met_eq n ha hb l1 l2 (Nat.le_trans (Nat.add_le_add hm hk) (by decide)) hp
  refine run_call (by rfl : PP.lookup "answer" = some fn_answer) rfl ?_
  show Run _ fn_answer.body [("query", (false, qJ k1 k2 prs)), ("tables", (false, tabs2 t1 t2))] _ _
  refine r_step (p_cell (d := .str (Str.ofString "join")) (fr := false) (v_map (vsi h_cons rfl) rfl rfl) rfl) ?_
  refine r_if (k := false) (v_cmp (x := .str (Str.ofString "join")) (y := .tup steps) (vr h_eq) (by rw [e_glob, glob_x]; rfl) (by rfl)) rfl nofun fun _ => ?_
  refine r_if (k := false) (v_cmp (x := .str (Str.ofString "join")) (vr h_eq) vS (by rfl)) rfl nofun fun _ => ?_
  refine r_if (k := true) (v_cmp (x := .str (Str.ofString "join")) (vr h_eq) vS (by rfl)) rfl (fun _ => ?_) nofun
  refine r_step (p_assign (v_call (v_cons (vsi (d := qJ k1 k2 prs) (r := qT k1) (h_ne rfl h_cons) rfl) (vv (h_ne rfl (h_consn rfl h_cons)) vN)) r1)) ?_
  exact r_ret (v_call (vv h_eq (v_cons (v_callE (v_cons (vsi (d := qJ k1 k2 prs) (r := qT k2) (h_ne rfl (h_st (h_ne rfl h_cons))) rfl) (vv (h_ne rfl (h_st (h_ne rfl (h_consn rfl h_cons)))) vN)) r2) (v_cons (vsi (d := qJ k1 k2 prs) (r := .tup (prs.map prT)) (h_ne rfl (h_st (h_ne rfl h_cons))) rfl) vN))) rm) rfl

set_option maxRecDepth 100000
set_option maxHeartbeats 400000
section
variable {cf : CF} {σ : St} {c : ME} {t r : List MS} {x d : D} {k fr : Bool} {R : Fl → St → Prop}
theorem o_ite (I : St → Prop) (h : evE cf (vis σ) c = some x) (hx : truth x = some k) (ht : k = true → Out cf t σ fun fl σ' => fl = .next ∧ I σ') (hf : k = false → I σ) (z : ∀ σ', I σ' → Out cf r σ' R) : Out cf (.ite c t [] :: r) σ R := by
  unfold Out; rw [x_iteb h hx]
  cases k with
  | true =>
    obtain ⟨fl, σ1, ⟨rfl, i⟩, e⟩ := ht rfl
    rw [if_pos rfl, x_app, e]
    exact z σ1 i
  | false => rw [if_neg Bool.false_ne_true]; exact z σ (hf rfl)
theorem r_ite (I : St → Prop) (h : evE cf (vis σ) c = some x) (hx : truth x = some k) (ht : k = true → Out cf t σ fun fl σ' => fl = .next ∧ I σ') (hf : k = false → I σ) (z : ∀ σ', I σ' → Run cf r σ' d fr) : Run cf (.ite c t [] :: r) σ d fr := by
  unfold Run; rw [x_iteb h hx]
  cases k with
  | true =>
    obtain ⟨fl, σ1, ⟨rfl, i⟩, e⟩ := ht rfl
    rw [if_pos rfl, x_app, e]
    exact z σ1 i
  | false => rw [if_neg Bool.false_ne_true]; exact z σ (hf rfl)
end
theorem sl_tab (t : Tab) (k : Nat) : slD (tabD t) .none (.int k) = some (tabD (t.take k)) := by
  show (if 0 ≤ (k : Int) then some (k : Int).toNat else none).map (fun b => D.list (((t.map D.tup).take b).drop 0)) = _
  rw [if_pos (Int.natCast_nonneg k), Int.toNat_natCast]
  show some (D.list (((t.map D.tup).take k).drop 0)) = _
  rw [List.drop_zero, ← List.map_take]; rfl
theorem TbsG.take {m k : Nat} {t : Tab} (h : TbsG m t) : TbsG m (t.take k) := fun r hr => h r (List.mem_of_mem_take hr)
theorem TbsOk.take {m k : Nat} {t : Tab} (h : TbsOk m t) : TbsOk m (t.take k) := fun r hr => h r (List.mem_of_mem_take hr)
theorem take_le {α : Type} {l : List α} {k n : Nat} (h : l.length ≤ n) : (l.take k).length ≤ n := Nat.le_trans (List.length_take_le' k l) h
noncomputable def strV : D → D
  | .int i => .str (Str.ofString (toString i))
  | d => d
noncomputable def rowS (r : List D) : List D := (r.take 1).map strV ++ r.drop 1
theorem strV_cell {d : D} (h : Good d) : (strV d).isCell = true := by rcases h with ⟨i, rfl, _⟩ | ⟨x, rfl, _⟩ <;> rfl
theorem rowS_ok {m : Nat} {r : List D} (h : RowG m r) : RowOk m (rowS r) := by
  refine ⟨?_, fun d hd => ?_⟩
  · unfold rowS
    rw [List.length_append, List.length_map, ← List.length_append, List.take_append_drop]
    exact h.1
  · rcases List.mem_append.mp hd with hd | hd
    · obtain ⟨e, he, rfl⟩ := List.mem_map.mp hd
      exact strV_cell (h.2 e (List.mem_of_mem_take he))
    · exact (h.2 d (List.mem_of_mem_drop hd)).cell
theorem str_cell {d : D} (h : Good d) : bltD "str" [d] = some (strV d) := by
  rcases h with ⟨i, rfl, h1, h2⟩ | ⟨x, rfl, _⟩
  · show (if _ then _ else _) = _
    exact if_pos ⟨Int.lt_trans (by unfold strLim; decide) h1, Int.lt_trans h2 (by unfold strLim; decide)⟩
  · rfl
theorem v_mapD {cf : CF} {ρ : List (String × D)} {elt src : ME} {z : String} {f : D → D} {l : List D} {d : D} (hs : evE cf ρ src = some d) (hi : d.items = some l) (hl : l.length ≤ big) (h : ∀ x ∈ l, evE cf ((z, x) :: ρ) elt = some (f x)) : evE cf ρ (.comp elt z src []) = some (.list (l.map f)) :=
  v_comp hs hi hl (compM_map _ f l fun x hx => compF_nil (h x hx))
theorem sl_t1 (r : List D) : slD (.tup r) .none (.int 1) = some (.tup (r.take 1)) := rfl
theorem sl_t2 (r : List D) : slD (.tup r) (.int 1) .none = some (.tup (r.drop 1)) := by
  show some (D.tup ((r.take r.length).drop 1)) = _
  rw [List.take_length]
theorem v_rowS {cf : CF} {ρ : List (String × D)} {m : Nat} {r : List D} (hm : m ≤ 12) (h : RowG m r) : evE cf (("_law_row", .tup r) :: ρ) (.bin .Add (.blt "tuple" [.comp (.blt "str" [.var "_law_cell"]) "_law_cell" (.sl (.var "_law_row") .none (.int 1)) []]) (.sl (.var "_law_row") (.int 1) .none)) = some (.tup (rowS r)) := by
  have hb : ∀ {l : List D}, l.length ≤ r.length → l.length ≤ big := fun q => Nat.le_trans q (by rw [h.1]; exact Nat.le_trans hm (by decide))
  refine v_bin (x := .tup ((r.take 1).map strV)) (y := .tup (r.drop 1)) (v_blt (v_cons (v_mapD (f := strV) (l := r.take 1) (v_sl (v_var hr_eq) rfl vI (sl_t1 r)) rfl (hb (List.length_take_le' 1 r)) fun x hx => v_blt (v_cons (v_var hr_eq) vN) (str_cell (h.2 x (List.mem_of_mem_take hx)))) vN) rfl) (v_sl (v_var hr_eq) vI rfl (sl_t2 r)) (bin_tt ?_)
  rw [List.length_map, ← List.length_append, List.take_append_drop]
  exact hb (Nat.le_refl _)
theorem ne_nil (t : Tab) : cmpD .NotEq (tabD t) (.list []) = some (.bool (!t.isEmpty)) := by
  cases t with
  | nil => rfl
  | cons a t => rfl
noncomputable def repT (t : Tab) (k : Nat) : Tab := (List.replicate k t).flatten
theorem repT_tab (t : Tab) (k : Nat) : repL (t.map .tup) k = (repT t k).map .tup := by
  unfold repL repT
  induction k with
  | zero => rfl
  | succ k ih => rw [List.replicate_succ, List.replicate_succ, List.flatten_cons, List.flatten_cons, List.map_append, ih]
theorem repT_len (t : Tab) (k : Nat) : (repT t k).length = t.length * k := by
  unfold repT
  induction k with
  | zero => rfl
  | succ k ih => rw [List.replicate_succ, List.flatten_cons, List.length_append, ih, Nat.mul_succ, Nat.add_comm]
theorem repT_ok {m k : Nat} {t : Tab} (h : TbsOk m t) : TbsOk m (repT t k) := fun r hr => by
  obtain ⟨l, hl, hr⟩ := List.mem_flatten.mp hr
  rw [List.eq_of_mem_replicate hl] at hr
  exact h r hr
theorem app_ok {m : Nat} {t u : Tab} (h : TbsOk m t) (h' : TbsOk m u) : TbsOk m (t ++ u) := fun r hr => (List.mem_append.mp hr).elim (h r) (h' r)
theorem rev_ok {m : Nat} {t : Tab} (h : TbsOk m t) : TbsOk m t.reverse := fun r hr => h r (List.mem_reverse.mp hr)
theorem rev_tab (t : Tab) : (t.map D.tup).reverse = t.reverse.map D.tup := List.map_reverse.symm
theorem v_twice {cf : CF} {σ : St} {t : Tab} (hp : Has σ "_law_others" (tabD t)) (h0 : t.isEmpty = false) (hl : t.length ≤ 69) : ∃ u : Tab, (∀ m, TbsOk m t → TbsOk m u) ∧ u.length ≤ 300 ∧ evE cf (vis σ) (.bin .Mult (.bin .Add (.var "_law_others") (.rev (.var "_law_others"))) (.bin .Add (.int 1) (.bin .FloorDiv (.int 100) (.bin .Mult (.int 2) (.blt "len" [.var "_law_others"]))))) = some (tabD u) := by
  have hL : 0 < t.length := by cases t with | nil => cases h0 | cons => exact Nat.succ_pos _
  have e1 : (1 : Int) + 100 / (2 * (t.length : Int)) = ((1 + 100 / (2 * t.length) : Nat) : Int) := by
    rw [Int.natCast_add, Int.natCast_ediv, Int.natCast_mul]; rfl
  have hdiv : 2 * t.length * (100 / (2 * t.length)) ≤ 100 := Nat.mul_div_le 100 (2 * t.length)
  have hk : 100 / (2 * t.length) ≤ 100 := Nat.div_le_self _ _
  have hlen : (t ++ t.reverse).length = 2 * t.length := by rw [List.length_append, List.length_reverse]; omega
  have htot : (t ++ t.reverse).length * (1 + 100 / (2 * t.length)) ≤ 300 := by rw [hlen, Nat.mul_add]; omega
  refine ⟨repT (t ++ t.reverse) (1 + 100 / (2 * t.length)), fun m h => repT_ok (app_ok h (rev_ok h)), by rw [repT_len]; exact htot, ?_⟩
  refine v_bin (x := .list ((t ++ t.reverse).map .tup)) (y := .int ((1 + 100 / (2 * t.length) : Nat) : Int)) (v_bin (vr hp) (v_rev (vr hp)) ((bin_ll ?_).trans ?_)) (v_bin vI (v_bin vI (v_bin vI (v_blt (v_cons (vr hp) vN) (d := .int (t.length : Int)) (by show some (D.int ((t.map D.tup).length : Nat)) = _; rw [List.length_map])) (b_mulL (by decide))) (b_div ⟨by omega, Int.lt_of_le_of_lt (b := 200) (by omega) (by unfold lim; decide)⟩)) (b_add.trans (by rw [e1]))) ((bin_lm ?_).trans ?_)
  · rw [List.length_reverse, List.length_map]; exact Nat.le_trans (Nat.add_le_add hl hl) (by decide)
  · rw [rev_tab, ← List.map_append]
  · rw [Int.toNat_natCast, List.length_map]
    exact ⟨Int.natCast_nonneg _, by omega, Nat.le_trans htot (by decide)⟩
  · rw [Int.toNat_natCast, repT_tab]; rfl
structure SI (S : D) (t1 t2 : Tab) (w1 w2 : Nat) (σ : St) : Prop where
  s : Has σ "_law_script" S
  o : Has σ "_law_ones" (tabD t1)
  p : Has σ "_law_others" (tabD t2)
  w : OwnV σ "_law_wide" (.list [.int w1, .int w2])
structure SG (t1 t2 : Tab) (w1 w2 : Nat) : Prop where
  g1 : TbsG w1 t1
  k2 : TbsOk w2 t2
  l1 : t1.length ≤ 69
  l2 : t2.length ≤ 69
  m1 : w1 ≤ 12
  m2 : w2 ≤ 12
structure SH (t1 t2 : Tab) (w1 w2 : Nat) : Prop where
  k1 : TbsOk w1 t1
  k2 : TbsOk w2 t2
  l1 : t1.length ≤ 69
  l2 : t2.length ≤ 300
  m1 : w1 ≤ 12
  m2 : w2 ≤ 12
theorem many_by (c : Int) : ∃ j : Nat, j ≤ 69 ∧ (19 : Int) + c % 22 = (j : Int) := by
  obtain ⟨m, e, hm⟩ := emod_nat c (k := 22) (by decide)
  have e : c % 22 = m := e
  exact ⟨19 + m, by omega, by rw [e, Int.natCast_add]; rfl⟩
theorem sub_w {cf : CF} {σ : St} {w1 w2 : Nat} (h : OwnV σ "_law_wide" (.list [.int w1, .int w2])) : evE cf (vis σ) (.sub (.var "_law_wide") (.int 0)) = some (.int w1) := vsi (h_own h) rfl
theorem sub_w1 {cf : CF} {σ : St} {w1 w2 : Nat} (h : OwnV σ "_law_wide" (.list [.int w1, .int w2])) : evE cf (vis σ) (.sub (.var "_law_wide") (.int 1)) = some (.int w2) := vsi (h_own h) rfl
theorem lookD_of {σ : St} {x : String} {d : D} (h : Has σ x d) : lookD σ x = some d := by obtain ⟨fr, h⟩ := h; unfold lookD; rw [h]; rfl
theorem lookL_of {σ : St} {x : String} {ds : List D} (h : OwnV σ x (.list ds)) : lookL σ x = some ds := by
  have h : σ.lookup x = some (true, .list ds) := h
  unfold lookL; rw [h]
theorem o_ch {cf : CF} {r : List MS} {σ : St} {R R' : Fl → St → Prop} (h : Out cf r σ R) (k : ∀ fl σ', R fl σ' → R' fl σ') : Out cf r σ R' := let ⟨fl, s, q, e⟩ := h; ⟨fl, s, k fl s q, e⟩
noncomputable def sidesB : List MS := fn_law_sides.body.dropLast
theorem sides3 (n : Nat) {S : D} {t1 t2 : Tab} {w1 w2 : Nat} {way : Int} {σ : St} (i : SI S t1 t2 w1 w2 σ) (iy : Has σ "_law_way" (.int way)) (h : SG t1 t2 w1 w2) :
    Out (callN PP X7 n) (sidesB.drop 7) σ fun fl σ' => fl = .next ∧ ∃ t1 t2 w1 w2, SI S t1 t2 w1 w2 σ' ∧ Has σ' "_law_way" (.int way) ∧ SH t1 t2 w1 w2 := by
  refine o_ite (k := !t2.isEmpty && (way % 2 == 1)) (x := .bool (!t2.isEmpty && (way % 2 == 1))) (fun σ' => ∃ t1 t2 w1 w2, SI S t1 t2 w1 w2 σ' ∧ Has σ' "_law_way" (.int way) ∧ SH t1 t2 w1 w2) ?_ rfl (fun hk => ?_) (fun _ => ⟨t1, t2, w1, w2, i, iy, h.g1.ok, h.k2, h.l1, Nat.le_trans h.l2 (by decide), h.m1, h.m2⟩) fun σ' q => o_nil ⟨rfl, q⟩
  · exact v_and (v_cmp (vr i.p) (by rfl) (ne_nil t2)) fun _ => v_bop1 (v_cmp (v_bin (vr iy) vI (b_mod (by decide))) vI rfl)
  · have h0 : t2.isEmpty = false := by cases e : t2.isEmpty with | false => rfl | true => rw [e] at hk; cases hk
    refine o_step (p_assign (d := tabD (t1.take 9)) (fr := true) (v_map (v_sl (vr i.o) rfl vI (sl_tab t1 9)) rfl rfl)) ?_
    obtain ⟨u, u1, u2, u3⟩ := v_twice (cf := callN PP X7 n) (σ := setv (settle (tabD (t1.take 9)) ["_law_ones"] σ) "_law_ones" (true, tabD (t1.take 9))) (t := t2) (h_ne rfl (h_st i.p)) h0 h.l2
    refine o_step (p_assign (d := tabD u) (fr := true) (v_map u3 rfl rfl)) (o_nil ⟨rfl, t1.take 9, u, w1, w2, ⟨?_, ?_, h_eq, ?_⟩, ?_, h.g1.ok.take, u1 _ h.k2, take_le h.l1, u2, h.m1, h.m2⟩)
    · exact h_ne rfl (h_st (h_ne rfl (h_st i.s)))
    · exact h_ne rfl (h_st h_eq)
    · exact w_ne rfl (w_st rfl (w_ne rfl (w_st rfl i.w)))
    · exact h_ne rfl (h_st (h_ne rfl (h_st iy)))
theorem sides2 (n : Nat) {S : D} {t1 t2 : Tab} {w1 w2 : Nat} {way : Int} {σ : St} (i : SI S t1 t2 w1 w2 σ) (iy : Has σ "_law_way" (.int way)) (h : SG t1 t2 w1 w2) :
    Out (callN PP X7 n) (sidesB.drop 6) σ fun fl σ' => fl = .next ∧ ∃ t1 t2 w1 w2, SI S t1 t2 w1 w2 σ' ∧ Has σ' "_law_way" (.int way) ∧ SH t1 t2 w1 w2 := by
  refine o_ite (k := decide (way > 1)) (x := .bool (decide (way > 1))) (fun σ' => ∃ t1 t2 w1 w2, SI S t1 t2 w1 w2 σ' ∧ Has σ' "_law_way" (.int way) ∧ SG t1 t2 w1 w2) (v_cmp (vr iy) vI rfl) rfl (fun _ => ?_) (fun _ => ⟨t1, t2, w1, w2, i, iy, h⟩) fun σ' ⟨t1, t2, w1, w2, i, iy, h⟩ => sides3 n i iy h
  have hd : tabD ((t1.take 18).map rowS) = .list ((t1.take 18).map fun r => D.tup (rowS r)) := by unfold tabD; rw [List.map_map]; rfl
  refine o_step (p_assign (d := tabD (t1.take 18)) (fr := true) (v_map (v_sl (vr i.o) rfl vI (sl_tab t1 18)) rfl rfl)) ?_
  refine o_step (p_assign (d := tabD ((t1.take 18).map rowS)) (fr := true) (v_map (hd ▸ v_mapT (g := D.tup) (f := fun r => D.tup (rowS r)) (l := t1.take 18) (vr h_eq) rfl (Nat.le_trans (take_le h.l1) (by decide)) fun r hr => v_rowS h.m1 (h.g1.take r hr)) rfl rfl)) ?_
  refine o_step (p_setl (d := .int w1) (i := 1) (ds := [.int w1, .int w2]) (sub_w (w_ne rfl (w_st rfl (w_ne rfl (w_st rfl i.w))))) vI (w_ne rfl (w_st rfl (w_ne rfl (w_st rfl i.w)))) (Nat.lt_succ_self 1)) (o_nil ⟨rfl, t1.take 18, (t1.take 18).map rowS, w1, w1, ⟨?_, ?_, ?_, w_eq⟩, ?_, h.g1.take, fun r hr => ?_, take_le h.l1, by rw [List.length_map]; exact take_le h.l1, h.m1, h.m1⟩)
  · exact h_ne rfl (h_ne rfl (h_st (h_ne rfl (h_st i.s))))
  · exact h_ne rfl (h_ne rfl (h_st h_eq))
  · exact h_ne rfl h_eq
  · exact h_ne rfl (h_ne rfl (h_st (h_ne rfl (h_st iy))))
  · obtain ⟨r', hr', rfl⟩ := List.mem_map.mp hr
    exact rowS_ok (h.g1.take r' hr')
theorem sides1 (n : Nat) (ns : List Int) {t1 t2 : Tab} {w1 w2 : Nat} {σ : St} (i : SI (.list (ns.map .int)) t1 t2 w1 w2 σ) (h : SG t1 t2 w1 w2) :
    Out (callN PP X7 (n + 4)) (sidesB.drop 4) σ fun fl σ' => fl = .next ∧ ∃ t1 t2 w1 w2, SI (.list (ns.map .int)) t1 t2 w1 w2 σ' ∧ (∃ way, Has σ' "_law_way" (.int way)) ∧ SH t1 t2 w1 w2 := by
  have c0 := cellA (n + 3) ns 0
  have c1 := cellA (n + 3) ns 1
  have c2 := cellA (n + 3) ns 2
  have c3 := cellA (n + 3) ns 3
  have c4 := cellA (n + 3) ns 4
  refine o_step (p_cell (d := .int (ns.getD 4 0 / 5 % 4)) (fr := false) (v_map (v_bin (v_bin (v_callE (vv i.s (v_cons vI vN)) c4) vI (b_div (dtt rfl))) vI (b_mod (by decide))) rfl rfl) rfl) ?_
  refine o_ite (k := ns.getD 4 0 / 20 % 6 == 1) (x := .bool (ns.getD 4 0 / 20 % 6 == 1)) (fun σ' => ∃ t1 t2 w1 w2 way, SI (.list (ns.map .int)) t1 t2 w1 w2 σ' ∧ Has σ' "_law_way" (.int way) ∧ SG t1 t2 w1 w2) (v_cmp (v_bin (v_bin (v_callE (vv (h_ne rfl i.s) (v_cons vI vN)) c4) vI (b_div (dtt rfl))) vI (b_mod (by decide))) vI rfl) rfl (fun _ => ?_) (fun _ => ⟨t1, t2, w1, w2, _, ⟨h_ne rfl i.s, h_ne rfl i.o, h_ne rfl i.p, w_ne rfl i.w⟩, h_eq, h⟩) fun σ' ⟨t1, t2, w1, w2, way, i, iy, h⟩ => o_ch (sides2 (n + 4) i iy h) fun fl σ' ⟨e, t1, t2, w1, w2, i, iy, h⟩ => ⟨e, t1, t2, w1, w2, i, ⟨way, iy⟩, h⟩
  obtain ⟨j1, b1, e1⟩ := many_by (ns.getD 0 0)
  obtain ⟨j2, b2, e2⟩ := many_by (ns.getD 2 0)
  obtain ⟨u1, g1, l1, r1⟩ := rows_by (n + 1) (ns.getD 1 0) (m := 1) (k := j1) (by decide) b1
  obtain ⟨u2, g2, l2, r2⟩ := rows_by (n + 1) (ns.getD 3 0) (m := 1) (k := j2) (by decide) b2
  refine o_step (p_cell (d := .int 0) (fr := false) (v_map vI rfl rfl) rfl) ?_
  refine o_step (p_assign (d := .list [.int 1, .int 1]) (fr := true) (by rfl)) ?_
  refine o_step (p_assign (d := tabD u1) (fr := true) (v_call (v_cons (v_callE (vv (h_ne rfl (h_st (h_ne rfl (h_ne rfl i.s)))) (v_cons vI vN)) c1) (v_cons vI (v_cons (v_bin vI (v_bin (v_callE (vv (h_ne rfl (h_st (h_ne rfl (h_ne rfl i.s)))) (v_cons vI vN)) c0) vI (b_mod (by decide))) (b_add.trans (by rw [e1]))) vN))) r1)) ?_
  refine o_step (p_assign (d := tabD u2) (fr := true) (v_call (v_cons (v_callE (vv (h_ne rfl (h_st (h_ne rfl (h_st (h_ne rfl (h_ne rfl i.s)))))) (v_cons vI vN)) c3) (v_cons vI (v_cons (v_bin vI (v_bin (v_callE (vv (h_ne rfl (h_st (h_ne rfl (h_st (h_ne rfl (h_ne rfl i.s)))))) (v_cons vI vN)) c2) vI (b_mod (by decide))) (b_add.trans (by rw [e2]))) vN))) r2)) ?_
  refine o_nil ⟨rfl, u1, u2, 1, 1, 0, ⟨?_, ?_, h_eq, ?_⟩, ?_, g1, g2.ok, l1 ▸ b1, l2 ▸ b2, by decide, by decide⟩
  · exact h_ne rfl (h_st (h_ne rfl (h_st (h_ne rfl (h_st (h_ne rfl (h_ne rfl i.s)))))))
  · exact h_ne rfl (h_st h_eq)
  · exact w_ne rfl (w_st rfl (w_ne rfl (w_st rfl w_eq)))
  · exact h_ne rfl (h_st (h_ne rfl (h_st (h_ne rfl (h_st h_eq)))))
theorem sides (n : Nat) (ns : List Int) : ∃ t1 t2 w1 w2 way, SH t1 t2 w1 w2 ∧ (callN PP X7 (n + 5)).callw "_law_sides" [.list (ns.map .int)] = some (tabD t1, tabD t2, [.int w1, .int w2], .int way) := by
  have c0 := cellA (n + 3) ns 0
  have c2 := cellA (n + 3) ns 2
  obtain ⟨t1, g1, l1, r1⟩ := table_by n ns 0
  obtain ⟨t2, g2, l2, r2⟩ := table_by n ns 2
  have w1 := wide_by (n + 3) (ns.getD 0 0)
  have w2 := wide_by (n + 3) (ns.getD 2 0)
  obtain ⟨fl, σ', ⟨rfl, u1, u2, v1, v2, i, ⟨way, iy⟩, h⟩, e⟩ : Out (callN PP X7 (n + 4)) sidesB [("_law_script", (false, .list (ns.map .int)))] fun fl σ' => fl = .next ∧ ∃ t1 t2 w1 w2, SI (.list (ns.map .int)) t1 t2 w1 w2 σ' ∧ (∃ way, Has σ' "_law_way" (.int way)) ∧ SH t1 t2 w1 w2 := by
    refine o_step (p_assign (d := tabD t1) (fr := true) (v_call (vv h_cons (v_cons vI vN)) r1)) ?_
    refine o_step (p_assign (d := tabD t2) (fr := true) (v_call (vv (h_ne rfl (h_st h_cons)) (v_cons vI vN)) r2)) ?_
    refine o_step (p_assign (d := .list [.int (wideV (ns.getD 0 0)), .int (wideV (ns.getD 2 0))]) (fr := true) (v_map (v_lst (v_cons (v_callE (v_cons (v_callE (vv (h_ne rfl (h_st (h_ne rfl (h_st h_cons)))) (v_cons vI vN)) c0) vN) w1) (v_cons (v_callE (v_cons (v_callE (vv (h_ne rfl (h_st (h_ne rfl (h_st h_cons)))) (v_cons vI vN)) c2) vN) w2) vN)) (by show 2 ≤ big; decide)) rfl rfl)) ?_
    refine o_ite (k := decide ((t2.length : Int) > 18)) (x := .bool (decide ((t2.length : Int) > 18))) (fun σ' => ∃ t1, SI (.list (ns.map .int)) t1 t2 (wideV (ns.getD 0 0)) (wideV (ns.getD 2 0)) σ' ∧ SG t1 t2 (wideV (ns.getD 0 0)) (wideV (ns.getD 2 0))) (v_cmp (v_blt (v_cons (vr (h_ne rfl (h_st h_eq))) vN) (d := .int (t2.length : Int)) (by show some (D.int ((t2.map D.tup).length : Nat)) = _; rw [List.length_map])) vI rfl) rfl (fun _ => ?_) (fun _ => ⟨t1, ⟨h_ne rfl (h_st (h_ne rfl (h_st (h_ne rfl (h_st h_cons))))), h_ne rfl (h_st (h_ne rfl (h_st h_eq))), h_ne rfl (h_st h_eq), w_eq⟩, g1, g2.ok, l1, l2, wide_le _, wide_le _⟩) fun σ' ⟨t1, i, h⟩ => sides1 n ns i h
    refine o_step (p_assign (d := tabD (t1.take 9)) (fr := true) (v_map (v_sl (vr (h_ne rfl (h_st (h_ne rfl (h_st h_eq))))) rfl vI (sl_tab t1 9)) rfl rfl)) (o_nil ⟨rfl, t1.take 9, ⟨?_, h_eq, ?_, ?_⟩, g1.take, g2.ok, take_le l1, l2, wide_le _, wide_le _⟩)
    · exact h_ne rfl (h_st (h_ne rfl (h_st (h_ne rfl (h_st (h_ne rfl (h_st h_cons)))))))
    · exact h_ne rfl (h_st (h_ne rfl (h_st h_eq)))
    · exact w_ne rfl (w_st rfl w_eq)
  refine ⟨u1, u2, v1, v2, way, h, run_callw (by rfl : PP.lookup "_law_sides" = some fn_law_sides) rfl (b := sidesB) (nm := ("_law_ones", "_law_others", "_law_wide", "_law_way")) (by rfl) e ?_⟩
  unfold look4
  rw [if_pos (by decide), lookD_of i.o, lookD_of i.p, lookL_of i.w, lookD_of iy]
  rfl

set_option maxRecDepth 100000
set_option maxHeartbeats 400000
theorem prs_of {Q : Nat × Nat → Prop} : ∀ {ds : List D}, (∀ d ∈ ds, ∃ p, Q p ∧ d = prT p) → ∃ prs : List (Nat × Nat), ds = prs.map prT ∧ ∀ p ∈ prs, Q p
  | [], _ => ⟨[], rfl, fun _ h => nomatch h⟩
  | d :: ds, h => by
    obtain ⟨p, q, rfl⟩ := h d (.head _)
    obtain ⟨prs, rfl, k⟩ := prs_of fun d hd => h d (.tail _ hd)
    exact ⟨p :: prs, rfl, fun x hx => (List.mem_cons.mp hx).elim (fun e => e ▸ q) (k x)⟩
theorem many5 (c : Int) : ∃ j : Nat, j ≤ 20 ∧ c % 4 + c / 4 % 9 / 8 * 9 = (j : Int) := ⟨(c % 4 + c / 4 % 9 / 8 * 9).toNat, by omega, by omega⟩
theorem mod_pos {r : Int} {m : Nat} (hm : 0 < m) : ∃ p : Nat, p < m ∧ r % (m : Int) = p := by
  obtain ⟨p, e, h⟩ := emod_nat r hm
  exact ⟨p, h, e⟩
theorem v_pairs (n : Nat) {σ : St} {c : Int} {w1 w2 j : Nat} (h1 : 0 < w1) (h2 : 0 < w2) (hj : j ≤ 20) (ic : Has σ "_law_cell" (.int c)) (im : Has σ "_law_many" (.int j)) (iw : Has σ "_law_wide" (.list [.int w1, .int w2])) :
    ∃ prs : List (Nat × Nat), prs.length ≤ 20 ∧ (∀ p ∈ prs, p.1 < w1 ∧ p.2 < w2) ∧ evE (callN PP X7 (n + 1)) (vis σ) (.comp (.tup [.bin .Mod (.call "_law_mixed" [.var "_law_cell", .var "_law_k"]) (.sub (.var "_law_wide") (.int 0)), .bin .Mod (.call "_law_mixed" [.var "_law_cell", .bin .Add (.int 9) (.var "_law_k")]) (.sub (.var "_law_wide") (.int 1))]) "_law_k" (.blt "range" [.var "_law_many"]) []) = some (.list (prs.map prT)) := by
  obtain ⟨ds, e, hl, hq⟩ := compM_ok (compF (callN PP X7 (n + 1)) (vis σ) (.tup [.bin .Mod (.call "_law_mixed" [.var "_law_cell", .var "_law_k"]) (.sub (.var "_law_wide") (.int 0)), .bin .Mod (.call "_law_mixed" [.var "_law_cell", .bin .Add (.int 9) (.var "_law_k")]) (.sub (.var "_law_wide") (.int 1))]) "_law_k" []) (fun _ d => ∃ p : Nat × Nat, (p.1 < w1 ∧ p.2 < w2) ∧ d = prT p) ((List.range j).map fun (i : Nat) => D.int (i : Int)) (by
    intro it hit
    obtain ⟨i, _, rfl⟩ := List.mem_map.mp hit
    obtain ⟨r, _, hr⟩ := mixed (X := X7) bg n c i
    obtain ⟨r', _, hr'⟩ := mixed (X := X7) bg n c (9 + i)
    obtain ⟨p, hp, ep⟩ := mod_pos (r := r) h1
    obtain ⟨q, hq, eq⟩ := mod_pos (r := r') h2
    refine ⟨prT (p, q), ⟨(p, q), ⟨hp, hq⟩, rfl⟩, compF_nil (v_tup (ds := [.int p, .int q]) (v_cons (v_bin (v_callE (v_cons (v_var (hr_ne rfl (hr_vis ic))) (v_cons (v_var hr_eq) vN)) hr) (v_sub (x := .list [.int w1, .int w2]) (v_var (hr_ne rfl (hr_vis iw))) vI rfl) ((b_mod (by omega)).trans (by rw [ep]))) (v_cons (v_bin (v_callE (v_cons (v_var (hr_ne rfl (hr_vis ic))) (v_cons (v_bin vI (v_var hr_eq) b_add) vN)) hr') (v_sub (x := .list [.int w1, .int w2]) (v_var (hr_ne rfl (hr_vis iw))) vI rfl) ((b_mod (by omega)).trans (by rw [eq]))) vN)) (by show 2 ≤ big; decide))⟩)
  obtain ⟨prs, rfl, hp⟩ := prs_of (Q := fun p => p.1 < w1 ∧ p.2 < w2) fun d hd => let ⟨_, _, q⟩ := hq d hd; q
  have hb : j ≤ big := Nat.le_trans hj (by decide)
  have hl' : ((List.range j).map fun (i : Nat) => D.int (i : Int)).length = j := by rw [List.length_map, List.length_range]
  refine ⟨prs, ?_, hp, v_comp (v_blt (v_cons (vr im) vN) (blt_rng hb)) (items_rng j) (Nat.le_trans (Nat.le_of_eq hl') hb) e⟩
  rw [List.length_map, hl'] at hl
  rw [hl]; exact hj
noncomputable abbrev dueIn : List MS := [.ite (.not (.comp (.var "_law_pair") "_law_pair" (.var "_law_pairs") [.not (.call "_law_alike" [.sub (.var "_law_one") (.sub (.var "_law_pair") (.int 0)), .sub (.var "_law_other") (.sub (.var "_law_pair") (.int 1))])])) [.append "_law_due" (.bin .Add (.var "_law_one") (.var "_law_other"))] []]
structure DI (t1 t2 : Tab) (prs : List (Nat × Nat)) (k2 : D) (acc : Tab) (σ : St) : Prop where
  o : Has σ "_law_ones" (tabD t1)
  s : Has σ "_law_others" (tabD t2)
  p : Has σ "_law_pairs" (.list (prs.map prT))
  n : Has σ "_law_names" (.list [kA, k2])
  f : OwnV σ "_law_due" (tabD acc)
theorem not_any_not {α : Type} (q : α → Bool) (l : List α) : (!l.any fun x => !q x) = l.all q := by
  rw [← List.not_all_eq_any_not, Bool.not_not]
theorem v_due (n : Nat) {σ : St} {m k : Nat} {a b : List D} (ha : RowOk m a) (hb : RowOk k b) {prs : List (Nat × Nat)} (hl : prs.length ≤ 21) (hp : ∀ p ∈ prs, p.1 < m ∧ p.2 < k) (i1 : Has σ "_law_one" (.tup a)) (i2 : Has σ "_law_other" (.tup b)) (i3 : Has σ "_law_pairs" (.list (prs.map prT))) :
    evE (callN PP X7 (n + 1)) (vis σ) (.not (.comp (.var "_law_pair") "_law_pair" (.var "_law_pairs") [.not (.call "_law_alike" [.sub (.var "_law_one") (.sub (.var "_law_pair") (.int 0)), .sub (.var "_law_other") (.sub (.var "_law_pair") (.int 1))])])) = some (.bool (meetsV prs a b)) := by
  have q := v_noneT (cf := callN PP X7 (n + 1)) (ρ := vis σ) (z := "_law_pair") (g := prT) (l := prs) (p := fun p => !alikeV (a.getD p.1 .none) (b.getD p.2 .none)) (src := .var "_law_pairs") (c := .not (.call "_law_alike" [.sub (.var "_law_one") (.sub (.var "_law_pair") (.int 0)), .sub (.var "_law_other") (.sub (.var "_law_pair") (.int 1))])) (vr i3) rfl (Nat.le_trans hl (by decide)) fun p hps =>
    v_not (v_callE (v_cons (v_sub (v_var (hr_ne rfl (hr_vis i1))) (v_sub (x := prT p) (v_var hr_eq) vI rfl) (at_e ha (hp p hps).1)) (v_cons (v_sub (v_var (hr_ne rfl (hr_vis i2))) (v_sub (x := prT p) (v_var hr_eq) vI rfl) (at_e hb (hp p hps).2)) vN)) (lalike n _ _ (at_c ha (hp p hps).1) (at_c hb (hp p hps).2))) rfl
  rw [not_any_not] at q
  exact q
theorem due_in (n : Nat) {m k : Nat} {a : List D} {t1 t2 acc : Tab} {k2 : D} (ha : RowOk m a) (h2 : TbsOk k t2) (hw : m + k ≤ big) {prs : List (Nat × Nat)} (hpl : prs.length ≤ 21) (hp : ∀ p ∈ prs, p.1 < m ∧ p.2 < k) (hl : acc.length + t2.length ≤ big) {σ : St} (h1 : Has σ "_law_one" (.tup a)) (I : DI t1 t2 prs k2 acc σ) :
    ∃ σ', DI t1 t2 prs k2 (acc ++ (t2.filter (meetsV prs a)).map (a ++ ·)) σ' ∧ forD (bodyF (callN PP X7 (n + 1)) dueIn "_law_other") (t2.map .tup) σ = some (.next, σ') := by
  obtain ⟨σ', I', e⟩ := loopT (cf := callN PP X7 (n + 1)) (body := dueIn) (z := "_law_other") (g := D.tup) (fun c σ => Has σ "_law_one" (.tup a) ∧ DI t1 t2 prs k2 (acc ++ (c.filter (meetsV prs a)).map (a ++ ·)) σ) t2 [] σ ⟨h1, by rw [List.filter_nil, List.map_nil, List.append_nil]; exact I⟩ (by
    rintro c b σ hb hc ⟨i1, i0, i2, i3, i5, i4⟩
    refine o_if (v_due n ha (h2 b hb) hpl hp (h_ne rfl i1) h_eq (h_ne rfl i3)) rfl (fun h => ?_) fun h => ?_
    · refine o_step (p_append (d := .tup (a ++ b)) (ds := ((acc ++ (c.filter (meetsV prs a)).map (a ++ ·)).map .tup)) (v_bin (vr (h_ne rfl i1)) (vr h_eq) (if_pos (by rw [ha.1, (h2 b hb).1]; exact hw))) (w_st rfl (w_ne rfl i4)) ?_) (o_nil ⟨rfl, h_ne rfl (h_st (h_ne rfl i1)), h_ne rfl (h_st (h_ne rfl i0)), h_ne rfl (h_st (h_ne rfl i2)), h_ne rfl (h_st (h_ne rfl i3)), h_ne rfl (h_st (h_ne rfl i5)), ?_⟩)
      · rw [List.length_map, List.length_append, List.length_map]
        exact Nat.lt_of_lt_of_le (Nat.add_lt_add_left (Nat.lt_of_le_of_lt (List.length_filter_le _ _) (Nat.zero_add t2.length ▸ hc)) _) hl
      · rw [show acc ++ ((c ++ [b]).filter (meetsV prs a)).map (a ++ ·) = acc ++ (c.filter (meetsV prs a)).map (a ++ ·) ++ [a ++ b] from by rw [List.filter_append, show [b].filter (meetsV prs a) = [b] from List.filter_cons_of_pos h, List.map_append, List.append_assoc]; rfl, tabD_snoc]
        exact w_eq
    · refine o_nil ⟨rfl, h_ne rfl i1, h_ne rfl i0, h_ne rfl i2, h_ne rfl i3, h_ne rfl i5, ?_⟩
      rw [List.filter_append, show [b].filter (meetsV prs a) = [] from List.filter_cons_of_neg (by rw [h]; nofun), List.append_nil]
      exact w_ne rfl i4)
  exact ⟨σ', I'.2, e⟩
theorem due_eq (n : Nat) {m k : Nat} {t1 t2 : Tab} {k2 : D} (h1 : TbsOk m t1) (h2 : TbsOk k t2) (l1 : t1.length ≤ 69) (l2 : t2.length ≤ 300) (hw : m + k ≤ big) {prs : List (Nat × Nat)} (hpl : prs.length ≤ 21) (hp : ∀ p ∈ prs, p.1 < m ∧ p.2 < k) {σ : St} (I : DI t1 t2 prs k2 [] σ) :
    ∃ σ', DI t1 t2 prs k2 (metV prs t1 t2) σ' ∧ forD (bodyF (callN PP X7 (n + 1)) [.for_ "_law_other" (.var "_law_others") dueIn] "_law_one") (t1.map .tup) σ = some (.next, σ') :=
  loopT (cf := callN PP X7 (n + 1)) (body := [.for_ "_law_other" (.var "_law_others") dueIn]) (z := "_law_one") (g := D.tup) (fun b σ => DI t1 t2 prs k2 (metV prs b t2) σ) t1 [] σ I (by
    rintro b a σ ha hb ⟨i0, i2, i3, i5, i4⟩
    obtain ⟨σ2, J, e⟩ := due_in (t1 := t1) (k2 := k2) (σ := freeze ["_law_others"] (setv σ "_law_one" (false, .tup a))) n (h1 a ha) h2 hw hpl hp (acc := metV prs b t2) (Nat.le_trans (Nat.add_le_add (Nat.le_trans (metV_len prs b t2) (Nat.mul_le_mul (Nat.le_trans (Nat.le_of_lt (Nat.zero_add t1.length ▸ hb)) l1) l2)) l2) (by decide)) (h_fr h_eq) ⟨h_fr (h_ne rfl i0), h_fr (h_ne rfl i2), h_fr (h_ne rfl i3), h_fr (h_ne rfl i5), w_fr rfl (w_ne rfl i4)⟩
    refine o_for (vr (h_ne rfl i2)) rfl e (o_nil ⟨rfl, ?_⟩)
    rw [metV_snoc]; exact J)
structure LI (S : D) (t1 t2 : Tab) (w1 w2 : Nat) (way : Int) (k2 : D) (σ : St) : Prop where
  s : Has σ "_law_script" S
  o : Has σ "_law_ones" (tabD t1)
  p : Has σ "_law_others" (tabD t2)
  w : OwnV σ "_law_wide" (.list [.int w1, .int w2])
  y : Has σ "_law_way" (.int way)
  n : Has σ "_law_names" (.list [kA, k2])
structure LK (t1 t2 : Tab) (k2 : D) : Prop where
  k : k2 = kA ∨ k2 = kB
  s : subD (tabs2 t1 t2) k2 = some (tabD t2)
theorem metOk {m k : Nat} {prs : List (Nat × Nat)} {t1 t2 : Tab} (h1 : TbsOk m t1) (h2 : TbsOk k t2) : TbsOk (m + k) (metV prs t1 t2) := fun r hr => by
  obtain ⟨a, ha, hr⟩ := List.mem_flatMap.mp hr
  obtain ⟨b, hb, rfl⟩ := List.mem_map.mp hr
  have hb := (List.mem_filter.mp hb).1
  exact ⟨by rw [List.length_append, (h1 a ha).1, (h2 b hb).1], fun d hd => (List.mem_append.mp hd).elim ((h1 a ha).2 d) ((h2 b hb).2 d)⟩
theorem law_end (n : Nat) {m k : Nat} {t1 t2 : Tab} {k2 : D} (h1 : TbsOk m t1) (h2 : TbsOk k t2) (l1 : t1.length ≤ 69) (l2 : t2.length ≤ 300) (hm : m ≤ 12) (hk : k ≤ 12) (K : LK t1 t2 k2) {prs : List (Nat × Nat)} (hpl : prs.length ≤ 21) (hp : ∀ p ∈ prs, p.1 < m ∧ p.2 < k) {σ : St} (i1 : Has σ "_law_ones" (tabD t1)) (i2 : Has σ "_law_others" (tabD t2)) (i3 : Has σ "_law_pairs" (.list (prs.map prT))) (i4 : Has σ "_law_names" (.list [kA, k2])) :
    Run (callN PP X7 (n + 5)) (fn_law.body.drop 5) σ (.bool true) false := by
  have hw : m + k ≤ big := Nat.le_trans (Nat.add_le_add hm hk) (by decide)
  have hml : (metV prs t1 t2).length ≤ big := Nat.le_trans (metV_len prs t1 t2) (Nat.le_trans (Nat.mul_le_mul l1 l2) (by decide))
  have ra := ans_join (n + 1) (t1 := t1) (t2 := t2) h1 h2 l1 l2 hm hk hp (.inl rfl) K.k (subA t1 t2) K.s
  have rr := lrows_are (n + 2) (metOk (prs := prs) h1 h2) hw hml
  have rs := stayed (n + 1) h1 h2 hm hk (Nat.le_trans l1 (by decide)) l2
  have rc := copied (n + 4) t1 t2
  refine r_step (p_assign (d := .list []) (fr := true) (by rfl)) ?_
  obtain ⟨σ', I, e⟩ := due_eq (n + 4) (k2 := k2) h1 h2 l1 l2 hw hpl hp (σ := freeze ["_law_ones"] (setv (settle (.list []) [] σ) "_law_due" (true, .list []))) ⟨h_fr (h_ne rfl (h_st i1)), h_fr (h_ne rfl (h_st i2)), h_fr (h_ne rfl (h_st i3)), h_fr (h_ne rfl (h_st i4)), w_fr rfl w_eq⟩
  refine r_for (x := tabD t1) (its := t1.map .tup) (σ' := σ') (vr (h_ne rfl (h_st i1))) rfl e ?_
  refine r_step (p_assign (d := tabs2 t1 t2) (fr := true) (v_map (by rw [e_dct, v_cons vS (v_cons vS vN), vv I.o (vv I.s vN)]; rfl) rfl rfl)) ?_
  refine r_step (p_assign (d := tabs2 t1 t2) (fr := true) (v_call (vv h_eq vN) rc)) ?_
  refine r_step (p_assign (d := tabD (metV prs t1 t2)) (fr := true) (v_call (v_cons (d := qJ kA k2 prs) (v_tup (ds := [.str (Str.ofString "join"), qT kA, qT k2, .tup (prs.map prT)]) (v_cons vS (v_cons (v_tup (ds := [.str (Str.ofString "table"), kA]) (v_cons vS (v_cons (vsi (d := .list [kA, k2]) (h_ne rfl (h_st (h_ne rfl (h_st I.n)))) rfl) vN)) (by show 2 ≤ big; decide)) (v_cons (v_tup (ds := [.str (Str.ofString "table"), k2]) (v_cons vS (v_cons (vsi (d := .list [kA, k2]) (h_ne rfl (h_st (h_ne rfl (h_st I.n)))) rfl) vN)) (by show 2 ≤ big; decide)) (v_cons (v_blt (v_cons (vr (h_ne rfl (h_st (h_ne rfl (h_st I.p))))) vN) rfl) vN)))) (by show 4 ≤ big; decide)) (vv h_eq vN)) ra)) ?_
  refine r_ret (v_map (v_and (k := true) (l := true) (v_callE (vv h_eq (vv (h_ne rfl (h_st (h_ne rfl (h_st (h_ne rfl (h_st (h_own I.f))))))) vN)) rr) fun _ => v_bop1 (v_callE (vv (h_ne rfl (h_st h_eq)) (vv (h_ne rfl (h_st (h_ne rfl (h_st h_eq)))) vN)) rs)) rfl rfl) rfl
theorem pure_ok (n : Nat) (ns : List Int) : ∃ fr, (callN PP X7 (n + 7)).call "law" [.list (ns.map .int)] = some (.bool true, fr) := by
  obtain ⟨t1, t2, w1, w2, way, h, hs⟩ := sides (n + 1) ns
  have c4 := cellA (n + 5) ns 4
  have c5 := cellA (n + 5) ns 5
  refine ⟨false, run_call (by rfl : PP.lookup "law" = some fn_law) rfl ?_⟩
  refine r_step (p_unp (vv h_cons vN) hs) ?_
  have j : SI (.list (ns.map .int)) t1 t2 w1 w2 (unpS "_law_ones" "_law_others" "_law_wide" "_law_way" (freeze (namesL [.var "_law_script"]) [("_law_script", (false, .list (ns.map .int)))]) (tabD t1, tabD t2, [.int w1, .int w2], .int way)) := ⟨h_ne rfl (h_ne rfl (h_ne rfl (h_ne rfl (h_fr h_cons)))), h_ne rfl (h_ne rfl (h_ne rfl h_eq)), h_ne rfl (h_ne rfl h_eq), w_ne rfl w_eq⟩
  have jy : Has (unpS "_law_ones" "_law_others" "_law_wide" "_law_way" (freeze (namesL [.var "_law_script"]) [("_law_script", (false, .list (ns.map .int)))]) (tabD t1, tabD t2, [.int w1, .int w2], .int way)) "_law_way" (.int way) := h_eq
  refine r_norm (σ := unpS "_law_ones" "_law_others" "_law_wide" "_law_way" (freeze (namesL [.var "_law_script"]) [("_law_script", (false, .list (ns.map .int)))]) (tabD t1, tabD t2, [.int w1, .int w2], .int way)) rfl ?_
  generalize unpS "_law_ones" "_law_others" "_law_wide" "_law_way" (freeze (namesL [.var "_law_script"]) [("_law_script", (false, .list (ns.map .int)))]) (tabD t1, tabD t2, [.int w1, .int w2], .int way) = σ at j jy ⊢
  refine r_step (p_assign (d := .list [kA, kB]) (fr := true) (by rfl)) ?_
  refine r_ite (k := ns.getD 4 0 % 5 == 1) (x := .bool (ns.getD 4 0 % 5 == 1)) (fun σ' => ∃ t1 t2 w1 w2 k2, LI (.list (ns.map .int)) t1 t2 w1 w2 way k2 σ' ∧ SH t1 t2 w1 w2 ∧ LK t1 t2 k2) (v_cmp (v_bin (v_callE (vv (h_ne rfl (h_st j.s)) (v_cons vI vN)) c4) vI (b_mod (by decide))) vI rfl) rfl (fun _ => ?_) (fun _ => ⟨t1, t2, w1, w2, kB, ⟨h_ne rfl (h_st j.s), h_ne rfl (h_st j.o), h_ne rfl (h_st j.p), w_ne rfl (w_st rfl j.w), h_ne rfl (h_st jy), h_eq⟩, h, .inr rfl, rfl⟩) fun σ' ⟨t1, t2, w1, w2, k2, i, h, K⟩ => ?_
  · refine o_step (p_assign (d := tabD (t1.take 18)) (fr := true) (v_map (v_sl (vr (h_ne rfl (h_st j.o))) rfl vI (sl_tab t1 18)) rfl rfl)) ?_
    refine o_step (p_assign (d := tabD (t1.take 18)) (fr := false) (v_map (vr h_eq) rfl rfl)) ?_
    refine o_step (p_setl (d := .int w1) (i := 1) (ds := [.int w1, .int w2]) (sub_w (w_ne rfl (w_st rfl (w_ne rfl (w_st rfl (w_ne rfl (w_st rfl j.w))))))) vI (w_ne rfl (w_st rfl (w_ne rfl (w_st rfl (w_ne rfl (w_st rfl j.w)))))) (Nat.lt_succ_self 1)) ?_
    refine o_step (p_assign (d := .list [kA, kA]) (fr := true) (by rfl)) (o_nil ⟨rfl, t1.take 18, t1.take 18, w1, w1, kA, ⟨?_, ?_, ?_, w_ne rfl (w_st rfl w_eq), ?_, h_eq⟩, ⟨h.k1.take, h.k1.take, take_le h.l1, Nat.le_trans (take_le h.l1) (by decide), h.m1, h.m1⟩, .inl rfl, rfl⟩)
    · exact h_ne rfl (h_st (h_ne rfl (h_ne rfl (h_st (h_ne rfl (h_st (h_ne rfl (h_st j.s))))))))
    · exact h_ne rfl (h_st (h_ne rfl (h_ne rfl (h_st h_eq))))
    · exact h_ne rfl (h_st (h_ne rfl h_eq))
    · exact h_ne rfl (h_st (h_ne rfl (h_ne rfl (h_st (h_ne rfl (h_st (h_ne rfl (h_st jy))))))))
  · refine r_step (p_assign (d := .list []) (fr := true) (by rfl)) ?_
    refine r_ite (k := decide ((w1 : Int) > 0) && decide ((w2 : Int) > 0)) (x := .bool (decide ((w1 : Int) > 0) && decide ((w2 : Int) > 0))) (fun σ' => ∃ prs : List (Nat × Nat), prs.length ≤ 21 ∧ (∀ p ∈ prs, p.1 < w1 ∧ p.2 < w2) ∧ Has σ' "_law_ones" (tabD t1) ∧ Has σ' "_law_others" (tabD t2) ∧ Has σ' "_law_pairs" (.list (prs.map prT)) ∧ Has σ' "_law_names" (.list [kA, k2])) (v_and (v_cmp (sub_w (w_ne rfl (w_st rfl i.w))) vI rfl) fun _ => v_bop1 (v_cmp (sub_w1 (w_ne rfl (w_st rfl i.w))) vI rfl)) rfl (fun hk => ?_) (fun _ => ⟨[], by decide, (fun _ h => nomatch h), h_ne rfl (h_st i.o), h_ne rfl (h_st i.p), h_eq, h_ne rfl (h_st i.n)⟩) fun σ' ⟨prs, q1, q2, a1, a2, a3, a4⟩ => law_end (n + 1) h.k1 h.k2 h.l1 h.l2 h.m1 h.m2 K q1 q2 a1 a2 a3 a4
    have hk := Bool.and_eq_true_iff.mp hk
    have p1 : 0 < w1 := Int.ofNat_lt.mp (of_decide_eq_true hk.1)
    have p2 : 0 < w2 := Int.ofNat_lt.mp (of_decide_eq_true hk.2)
    obtain ⟨m, hm, em⟩ := many5 (ns.getD 5 0)
    refine o_step (p_cell (d := .int (ns.getD 5 0)) (fr := false) (v_call (vv (h_ne rfl (h_st i.s)) (v_cons vI vN)) c5) rfl) ?_
    refine o_step (p_cell (d := .int m) (fr := false) (v_map (v_bin (v_bin (vr h_eq) vI (b_mod (by decide))) (v_bin (v_bin (v_bin (v_bin (vr h_eq) vI (b_div (dtt rfl))) vI (b_mod (by decide))) vI (b_div (dtt rfl))) vI (b_mul (dtt rfl))) (b_add.trans (by rw [em]))) rfl rfl) rfl) ?_
    obtain ⟨prs, q1, q2, q3⟩ := v_pairs (n + 5) (σ := setv (setv (setv (settle (.list []) [] σ') "_law_pairs" (true, .list [])) "_law_cell" (false, .int (ns.getD 5 0))) "_law_many" (false, .int m)) p1 p2 hm (h_ne rfl h_eq) h_eq (h_ne rfl (h_ne rfl (h_ne rfl (h_st (h_own i.w)))))
    refine o_step (p_assign (d := .list (prs.map prT)) (fr := true) (v_map q3 rfl rfl)) ?_
    refine o_ite (k := decide (way > 1)) (x := .bool (decide (way > 1))) (fun σ' => ∃ prs : List (Nat × Nat), prs.length ≤ 21 ∧ (∀ p ∈ prs, p.1 < w1 ∧ p.2 < w2) ∧ Has σ' "_law_ones" (tabD t1) ∧ Has σ' "_law_others" (tabD t2) ∧ Has σ' "_law_pairs" (.list (prs.map prT)) ∧ Has σ' "_law_names" (.list [kA, k2])) (v_cmp (vr (h_ne rfl (h_st (h_ne rfl (h_ne rfl (h_ne rfl (h_st i.y))))))) vI rfl) rfl (fun _ => ?_) (fun _ => ⟨prs, Nat.le_trans q1 (by decide), q2, h_ne rfl (h_st (h_ne rfl (h_ne rfl (h_ne rfl (h_st i.o))))), h_ne rfl (h_st (h_ne rfl (h_ne rfl (h_ne rfl (h_st i.p))))), h_eq, h_ne rfl (h_st (h_ne rfl (h_ne rfl (h_ne rfl (h_st i.n)))))⟩) fun σ' q => o_nil ⟨rfl, q⟩
    have sl : slD (.list (prs.map prT)) (.int 1) .none = some (.list ((prs.drop 1).map prT)) := by
      show some (D.list (((prs.map prT).take (prs.map prT).length).drop 1)) = _
      rw [List.take_length, ← List.map_drop]
    refine o_step (p_assign (d := .list (((0, 0) :: prs.drop 1).map prT)) (fr := true) (v_map (v_bin (x := .list [prT (0, 0)]) (y := .list ((prs.drop 1).map prT)) (by rfl) (v_sl (vr h_eq) vI rfl sl) (bin_ll (by rw [List.length_map, List.length_drop]; exact Nat.le_trans (Nat.add_le_add_left (Nat.le_trans (Nat.sub_le _ _) q1) 1) (by decide)))) rfl rfl)) (o_nil ⟨rfl, (0, 0) :: prs.drop 1, by rw [List.length_cons, List.length_drop]; omega, fun p hp => (List.mem_cons.mp hp).elim (fun e => e ▸ ⟨p1, p2⟩) fun hp => q2 p (List.mem_of_mem_drop hp), ?_, ?_, h_eq, ?_⟩)
    · exact h_ne rfl (h_st (h_ne rfl (h_st (h_ne rfl (h_ne rfl (h_ne rfl (h_st i.o)))))))
    · exact h_ne rfl (h_st (h_ne rfl (h_st (h_ne rfl (h_ne rfl (h_ne rfl (h_st i.p)))))))
    · exact h_ne rfl (h_st (h_ne rfl (h_st (h_ne rfl (h_ne rfl (h_ne rfl (h_st i.n)))))))

noncomputable def GlobOk (mg : Str → Option Value) (h : Heap) : Prop := ∃ a vs n, mg (Str.ofString "STEPS") = some (.ref a) ∧ h.get? a = some (tupO vs n) ∧ strsAre vs.toList stepNames = true
theorem GlobOk.keeps {mg : Str → Option Value} {h h' : Heap} (x : GlobOk mg h) (hk : ∀ b o, h.get? b = some o → h'.get? b = some o) : GlobOk mg h' := let ⟨a, vs, n, h1, h2, h3⟩ := x; ⟨a, vs, n, h1, hk _ _ h2, h3⟩
theorem glob_of (s : Shared) (e : stepsAt s = true) : GlobOk (s.heap.nsMap mainGlobals) s.heap := by
  unfold stepsAt at e
  split at e
  · rename_i a ha
    split at e
    · rename_i o ho
      unfold stepsObj at e
      simp only [Bool.and_eq_true, beq_iff_eq, Option.isNone_iff_eq_none, Array.isEmpty_iff] at e
      obtain ⟨⟨⟨e1, e2⟩, e3⟩, e4⟩ := e
      split at e1
      · rename_i vs n hd
        refine ⟨a, vs, n, ha, ?_, e1⟩
        rw [ho]
        obtain ⟨c, d, dt, sl⟩ := o
        dsimp only at e2 e3 e4 hd
        subst e2 e3 e4 hd
        rfl
      · cases e1
    · cases e
  · cases e
theorem reps_strs {P : Params} {h : Heap} {H : Addr → Prop} : ∀ {vs : List Value} {ys : List Str}, strsAre vs ys = true → RepAll P h H vs (ys.map .str)
  | [], [], _ => .nil
  | [], _ :: _, e => by cases e
  | _ :: _, [], e => by cases e
  | v :: vs, y :: ys, e => by
    rw [strsAre, Bool.and_eq_true] at e
    obtain ⟨e1, e2⟩ := e
    refine .cons ?_ (reps_strs e2)
    cases v <;> first | (cases e1; done) | skip
    rename_i x t
    have e3 : (x == y) = true := e1
    rw [beq_iff_eq] at e3
    subst e3
    exact .str _ _
theorem hx7 {prog : Program} {w : World} {base : Heap} {mg : Str → Option Value} {A : Around} (g : GlobOk mg base) : CSound prog w base mg X7 A := by
  refine ⟨(fun _ _ _ _ h => nomatch h), fun x d h => ?_, fun _ _ _ h => nomatch h⟩
  have h : (if x = "STEPS" then some (D.tup steps) else none) = some d := h
  split at h
  · rename_i hx
    cases h
    subst hx
    obtain ⟨a, vs, n, h1, h2, h3⟩ := g
    refine ⟨_, h1, .tup h2 (fun q => q) (by decide) ?_⟩
    exact reps_strs h3
  · cases h
end Mine
namespace Mine
open PySem PySem.W PyProof.Rows
set_option maxRecDepth 100000
set_option maxHeartbeats 0
theorem chkd : chkProg (recsOf vw) PP = true := by decide +kernel
theorem freed : bltFree vw (looseW vw []) = true := by decide +kernel
end Mine
open PySem PySem.W PyProof.Rows
set_option maxRecDepth 100000 in
set_option maxHeartbeats 8000000 in
theorem PySem.Challenge.cw_uf030018_05_holds : PySem.Challenge.rw_uf030018_05.Holds := by
  refine holds_law Mine.ws fun said => ?_
  refine holds_open (q := Mine.vw) (loose := []) (Xt := fun s => (xlAt Mine.vw [] s && recOk (RowW.records PySem.Challenge.rw_uf030018_05.row.toRowW) s) && (Mine.tbAt s && Mine.stepsAt s)) (XP := (fun mg h => XL Mine.vw [] mg h ∧ Mine.TbOk mg h ∧ Mine.GlobOk mg h)) (Yf := Hook.obs Hook.none) (Ya := Hook.val Hook.none) (YP := Hook.says Hook.none) (N := 20000) Mine.left (Hook.of Hook.none) (Hook.keeps Hook.none) (fun s e => ⟨xl_of s (Bool.and_eq_true_iff.mp (Bool.and_eq_true_iff.mp e).1).1, Mine.tb_of s (Bool.and_eq_true_iff.mp (Bool.and_eq_true_iff.mp e).2).1, Mine.glob_of s (Bool.and_eq_true_iff.mp (Bool.and_eq_true_iff.mp e).2).2⟩) (fun mg h h' x k => ⟨XL.keeps mg h h' x.1 k, Mine.TbOk.keeps x.2.1 k, Mine.GlobOk.keeps x.2.2 k⟩) Mine.dlDef Mine.dlIs Mine.dlKw (fun s e => recFacts_of (Bool.and_eq_true_iff.mp (Bool.and_eq_true_iff.mp e).1).2) (by rfl) said Mine.okAll ⟨rfl, rfl, rfl, rfl, rfl, by decide +kernel⟩ ?hw ?hc
  (case hw => w_witness2)
  intro w s₀ s₁ mg mb G Y fa o pm cd doc dV kV ho hd hcd hD hmg hg args vals as hpre hlay hrd hwl hlo
  rw [Mine.dlName] at hmg
  refine Ground.open G ?_
  intro T B D TE TW
  wrow_args hpre hlay hrd hwl hlo
  exact Mine.law_fin (P := Mine.PP) (X := Mine.X7) 7 T Mine.chkd Mine.freed (by decide) (fun _ _ => Mine.hx7 G.X.2.2) G.X.2.1 hmg hg (by assumption) (by assumption) (Mine.pure_ok _ _)
