import PyProof.Rows.All
import Wide.All
import OpenK.AllK
import Wide.FinOn
import PyProof.Lay0
import PyProof.P3Statements
import PyProof.StrBlockI
import PyProof.DictList
import PyProof.DictKinds
import PyProof.Cells
import PyProof.Rows.Tup
import PyProof.Rows.News
import PyProof.PlainList
import PyProof.Rows.StrTemp
import PyProof.Rows.StrRules
import PyProof.Rows.RuleB_mod
import PyProof.Rows.RuleC_int
import PyProof.Rows.RuleN_abs
import PyProof.Rows.RuleB_rshift
import PyProof.Rows.SeqMore
import PyProof.Rows.IntRules
import PyProof.DefCall
import PyProof.WalkInts
import PyProof.LetGo
import PyProof.RulesDel
import PyProof.MakeMany
import PyProof.IsRules
import PyProof.NeData
import PyProof.ForRange
import PyProof.ForAppend
import PyProof.Raises
import PyProof.TupleIter
import PyProof.RangeIter
import PyProof.CompFree
import PyProof.CompUse
import PyProof.CompMap
import PyProof.WalksMore
import PyProof.DictRoads
import PyProof.DictStraight
import PyProof.DictTruth
import PyProof.P3Eq
import PyProof.EqAt
import PyProof.Rows.SeqMore2
import PyProof.Rows.GenSrc
import PyProof.Rows.GenRowsK
import PyProof.Rows.PlainStore
import PyProof.Rows.GlobG
import PyProof.TypeOfCall
import Open.Row
import PyProof.Rows.Walk
import PyProof.EqLayable
import PySem.Challenge.RW_k13_0007
set_option Elab.async false

namespace Mini
open PySem

/-- the lists that a run may change, by number -/
inductive MO where
  | l (xs : List PyData)
  | m (kvs : List (Int × Int))
abbrev Mu := List MO
/-- a value: plain data, or a numbered list -/
inductive MV where
  | d (x : PyData)
  | r (i : Nat)
abbrev Rho := List (Option MV)
abbrev Fn := List MV → Mu → Option (PyData × Mu)

inductive Prim where
  | len | abs

def Prim.id : Prim → String
  | .len => "len" | .abs => "abs"
def Prim.name : Prim → Str
  | .len => "len" | .abs => "abs"

mutual
inductive ME where
  | var (i : Nat)
  | bool (b : Bool)
  | int (n : Int)
  | str (x : Str)
  | bin (op : Operator) (a b : ME)
  | cmp (op : CmpOp) (a b : ME)
  | tup (es : MEs)
  | idx (a b : ME)
  | call (f : Nat) (args : MEs)
  | prim (p : Prim) (args : MEs)
  | dlen (i : Nat)
  | dget (i : Nat) (e : ME)
  | dnot (e : ME) (i : Nat)
  | comp (rng : Bool) (caps : List Nat) (e : ME) (ts : MTs) (elt : ME)
  | index (i : Nat) (e : ME)
inductive MEs where
  | nil
  | cons (e : ME) (es : MEs)
/-- tests -/
inductive MT where
  | val (e : ME)
  | bop (op : BoolOp) (ts : MTs)
inductive MTs where
  | nil
  | cons (t : MT) (ts : MTs)
end

mutual
inductive MS where
  | assign (i : Nat) (e : ME)
  | newlist (i : Nat) (es : MEs)
  | append (i : Nat) (e : ME)
  | ite (c : MT) (a b : MSs)
  | forr (i : Nat) (e : ME) (body : MSs)
  | ret (e : ME)
  | compr (i : Nat) (caps : List Nat) (e : ME) (ts : MTs) (elt : ME)
  | comprn (i : Nat) (caps : List Nat) (e : ME) (ts : MTs) (elt : ME)
  | fore (i : Nat) (e : ME) (body : MSs)
  | dnew (i : Nat)
  | dset (i : Nat) (ek ev : ME)
inductive MSs where
  | nil
  | cons (s : MS) (ss : MSs)
end

def rd (μ : Mu) : MV → Option PyData
  | .d x => some x
  | .r i => match μ[i]? with
    | some (.l xs) => some (.list xs)
    | _ => none

def binD : Operator → PyData → PyData → Option PyData
  | .Add, .int a, .int b => some (.int (a + b))
  | .Add, .list xs, .list ys => if xs.length + ys.length ≤ 16777216 then some (.list (xs ++ ys)) else none
  | .Sub, .int a, .int b => some (.int (a - b))
  | .Mod, .int a, .int b => if b = 0 then none else some (.int (a.fmod b))
  | .RShift, .int a, .int b => if 0 ≤ b then some (.int (a.fdiv (2 ^ b.toNat))) else none
  | _, _, _ => none

/-- what == may be asked of: the lesser depth counts -/
def eqOk (a b : PyData) : Bool := a.canLay0 && b.canLay0 && decide (min a.depth b.depth ≤ 64)

def cmpD : CmpOp → PyData → PyData → Option Bool
  | .Eq, .int a, .int b => some (a == b)
  | .Eq, .str a, .str b => some (a == b)
  | .Eq, a, b => if eqOk a b then some (PyData.eqv a b) else none
  | .NotEq, a, b => if eqOk a b then some (!PyData.eqv a b) else none
  | .Lt, .int a, .int b => some (decide (a < b))
  | .Gt, .int a, .int b => some (decide (b < a))
  | _, _, _ => none

def idxD : PyData → PyData → Option PyData
  | .list xs, .int k => if 0 ≤ k ∧ k < 9223372036854775808 then xs[k.toNat]? else none
  | .tuple xs, .int k => if 0 ≤ k ∧ k < 9223372036854775808 then xs[k.toNat]? else none
  | _, _ => none

def primD : Prim → List PyData → Option PyData
  | .len, [.list xs] => if xs.length ≤ 16777216 then some (.int xs.length) else none
  | .abs, [.int a] => some (.int (if a < 0 then -a else a))
  | _, _ => none

def allD : List MV → Option (List PyData)
  | [] => some []
  | .d x :: r => (allD r).map (x :: ·)
  | .r _ :: _ => none

def rdAll (μ : Mu) : List MV → Option (List PyData)
  | [] => some []
  | v :: r => do
    let x ← rd μ v
    let xs ← rdAll μ r
    some (x :: xs)

def truth : PyData → Option Bool
  | .bool b => some b
  | _ => none

/-- what a comprehension goes over: the ints below a bound, or a list -/
def itemsD : Bool → MV → Option (List PyData)
  | true, .d (.int k) => if 0 ≤ k ∧ k ≤ 16777216 then some ((List.range k.toNat).map fun (n : Nat) => PyData.int n) else none
  | false, .d (.list xs) => if xs.length ≤ 16777216 then some xs else none
  | _, _ => none

/-- the items of a comprehension -/
def compF (tst : Rho → Mu → Option (Bool × Mu)) (sem : Rho → Mu → Option (MV × Mu)) (cap : Rho) : List PyData → Mu → Option (List PyData × Mu)
  | [], μ => some ([], μ)
  | x :: xs, μ => (tst (some (.d x) :: cap) μ).bind fun t => if t.1 then (sem (some (.d x) :: cap) t.2).bind fun p => match p.1 with
      | .d y => (compF tst sem cap xs p.2).map fun q => (y :: q.1, q.2)
      | .r _ => none
    else compF tst sem cap xs t.2

/-- the first place of an item that is equal -/
def indexD (x : PyData) (xs : List PyData) : Option Nat := if xs.all (fun y => eqOk y x) then xs.findIdx? (fun y => PyData.eqv y x) else none

mutual
def evE (F : List Fn) : ME → Rho → Mu → Option (MV × Mu)
  | .var i, ρ, μ => (ρ[i]?.join).map (·, μ)
  | .bool b, _, μ => some (.d (.bool b), μ)
  | .int n, _, μ => some (.d (.int n), μ)
  | .str x, _, μ => some (.d (.str x), μ)
  | .bin op a b, ρ, μ =>
    (evE F a ρ μ).bind fun p => (evE F b ρ p.2).bind fun q => (rd q.2 p.1).bind fun x => (rd q.2 q.1).bind fun y => (binD op x y).map fun z => (.d z, q.2)
  | .cmp op a b, ρ, μ =>
    (evE F a ρ μ).bind fun p => (evE F b ρ p.2).bind fun q => (rd q.2 p.1).bind fun x => (rd q.2 q.1).bind fun y => (cmpD op x y).map fun z => (.d (.bool z), q.2)
  | .tup es, ρ, μ => (evL F es ρ μ).bind fun p => (allD p.1).bind fun xs => if xs.length ≤ 16777216 then some (.d (.tuple xs), p.2) else none
  | .idx a b, ρ, μ =>
    (evE F a ρ μ).bind fun p => (evE F b ρ p.2).bind fun q => (rd q.2 p.1).bind fun x => (rd q.2 q.1).bind fun y => (idxD x y).map fun z => (.d z, q.2)
  | .call f args, ρ, μ => (evL F args ρ μ).bind fun p => (F[f]?).bind fun fn => (fn p.1 p.2).map fun q => (.d q.1, q.2)
  | .prim k args, ρ, μ => (evL F args ρ μ).bind fun p => (rdAll p.2 p.1).bind fun xs => (primD k xs).map fun z => (.d z, p.2)
  | .dlen i, ρ, μ => match ρ[i]?.join with
    | some (.r j) => match μ[j]? with
      | some (.m kvs) => if kvs.length ≤ 16777216 then some (.d (.int (kvs.length : Int)), μ) else none
      | _ => none
    | _ => none
  | .dget i e, ρ, μ => match ρ[i]?.join with
    | some (.r j) => (evE F e ρ μ).bind fun p => match p.1, p.2[j]? with
      | .d (.int k), some (.m kvs) => (kvs.lookup k).map fun n => (.d (.int n), p.2)
      | _, _ => none
    | _ => none
  | .dnot e i, ρ, μ => match ρ[i]?.join with
    | some (.r j) => (evE F e ρ μ).bind fun p => match p.1, p.2[j]? with
      | .d (.int k), some (.m kvs) => some (.d (.bool !(kvs.lookup k).isSome), p.2)
      | _, _ => none
    | _ => none
  | .comp rng caps e ts elt, ρ, μ => (evE F e ρ μ).bind fun p => (itemsD rng p.1).bind fun xs => (compF (fun ρ μ => evBs F .And ts ρ μ) (fun ρ μ => evE F elt ρ μ) (caps.map fun j => ρ[j]?.join) xs p.2).map fun q => (.d (.list q.1), q.2)
  | .index i e, ρ, μ => (ρ[i]?.join).bind fun v => match rd μ v with
    | some (.list _) => (evE F e ρ μ).bind fun p => (rd p.2 p.1).bind fun x => match rd p.2 v with
      | some (.list xs) => if xs.length ≤ 16777216 then (indexD x xs).map fun (n : Nat) => (.d (.int (n : Int)), p.2) else none
      | _ => none
    | _ => none
def evL (F : List Fn) : MEs → Rho → Mu → Option (List MV × Mu)
  | .nil, _, μ => some ([], μ)
  | .cons e es, ρ, μ => (evE F e ρ μ).bind fun p => (evL F es ρ p.2).map fun q => (p.1 :: q.1, q.2)
def evB (F : List Fn) : MT → Rho → Mu → Option (Bool × Mu)
  | .val e, ρ, μ => (evE F e ρ μ).bind fun p => (rd p.2 p.1).bind fun x => (truth x).map (·, p.2)
  | .bop op ts, ρ, μ => evBs F op ts ρ μ
def evBs (F : List Fn) (op : BoolOp) : MTs → Rho → Mu → Option (Bool × Mu)
  | .nil, _, μ => some (op == .And, μ)
  | .cons e es, ρ, μ => (evB F e ρ μ).bind fun p => if p.1 == (op == .Or) then some p else evBs F op es ρ p.2
end

inductive Out where
  | next
  | ret (v : MV)

/-- for x in the ints from k on, n of them -/
def forF (i : Nat) (b : Rho → Mu → Option (Out × Rho × Mu)) : Nat → Int → Rho → Mu → Option (Out × Rho × Mu)
  | 0, _, ρ, μ => some (.next, ρ, μ)
  | n + 1, k, ρ, μ => (b (ρ.set i (some (.d (.int k)))) μ).bind fun q => match q.1 with
      | .next => forF i b n (k + 1) q.2.1 q.2.2
      | .ret v => some (.ret v, q.2.1, q.2.2)

/-- the item that a walk over a list gives next -/
def itAt (μ : Mu) (src : MV) (k : Nat) : Option (Option PyData) := match rd μ src with
  | some (.list xs) => some xs[k]?
  | _ => none
/-- for x in a list, which may be a numbered one -/
def foreF (i : Nat) (b : Rho → Mu → Option (Out × Rho × Mu)) (src : MV) : Nat → Nat → Rho → Mu → Option (Out × Rho × Mu)
  | 0, _, _, _ => none
  | n + 1, k, ρ, μ => (itAt μ src k).bind fun y => match y with
    | none => some (.next, ρ, μ)
    | some x => (b (ρ.set i (some (.d x))) μ).bind fun q => match q.1 with
      | .next => foreF i b src n (k + 1) q.2.1 q.2.2
      | .ret v => some (.ret v, q.2.1, q.2.2)
def lenOf (μ : Mu) (src : MV) : Nat := match rd μ src with
  | some (.list xs) => xs.length + 1
  | _ => 0

/-- a numbered list -/
def isL (μ : Mu) (j : Nat) : Bool := match μ[j]? with
  | some (.l _) => true
  | _ => false

mutual
def evS (F : List Fn) : MS → Rho → Mu → Option (Out × Rho × Mu)
  | .assign i e, ρ, μ => (evE F e ρ μ).map fun p => (.next, ρ.set i (some p.1), p.2)
  | .newlist i es, ρ, μ => (evL F es ρ μ).bind fun p => (allD p.1).bind fun xs => if xs.length ≤ 16777216 then some (.next, ρ.set i (some (.r p.2.length)), p.2 ++ [.l xs]) else none
  | .append i e, ρ, μ => match ρ[i]?.join with
    | some (.r j) => if isL μ j then (evE F e ρ μ).bind fun p => match p.1, p.2[j]? with
      | .d x, some (.l xs) => if xs.length ≤ 16777216 then some (.next, ρ, p.2.set j (.l (xs ++ [x]))) else none
      | _, _ => none
      else none
    | _ => none
  | .ite c a b, ρ, μ => (evB F c ρ μ).bind fun p => if p.1 then evSs F a ρ p.2 else evSs F b ρ p.2
  | .forr i e b, ρ, μ => (evE F e ρ μ).bind fun p => match p.1 with
    | .d (.int k) => if 0 ≤ k ∧ k < 4611686018427387904 then forF i (evSs F b) k.toNat 0 ρ p.2 else none
    | _ => none
  | .ret e, ρ, μ => (evE F e ρ μ).map fun p => (.ret p.1, ρ, p.2)
  | .compr i caps e ts elt, ρ, μ => (evE F e ρ μ).bind fun p => (itemsD true p.1).bind fun xs => (compF (evBs F .And ts) (evE F elt) (caps.map fun j => ρ[j]?.join) xs p.2).map fun q => (.next, ρ.set i (some (.d (.list q.1))), q.2)
  | .comprn i caps e ts elt, ρ, μ => (evE F e ρ μ).bind fun p => (itemsD false p.1).bind fun xs => (compF (evBs F .And ts) (evE F elt) (caps.map fun j => ρ[j]?.join) xs p.2).map fun q => (.next, ρ.set i (some (.r q.2.length)), q.2 ++ [.l q.1])
  | .dnew i, ρ, μ => some (.next, ρ.set i (some (.r μ.length)), μ ++ [.m []])
  | .dset i ek ev, ρ, μ => match ρ[i]?.join with
    | some (.r j) => (evE F ev ρ μ).bind fun p => (evE F ek ρ p.2).bind fun q => match p.1, q.1, q.2[j]? with
      | .d (.int n), .d (.int k), some (.m kvs) => if kvs.length ≤ 16777216 ∧ (kvs.lookup k).isSome = false then some (.next, ρ, q.2.set j (.m (kvs ++ [(k, n)]))) else none
      | _, _, _ => none
    | _ => none
  | .fore i e b, ρ, μ => (evE F e ρ μ).bind fun p => foreF i (evSs F b) p.1 (lenOf p.2 p.1) 0 ρ p.2
def evSs (F : List Fn) : MSs → Rho → Mu → Option (Out × Rho × Mu)
  | .nil, ρ, μ => some (.next, ρ, μ)
  | .cons s ss, ρ, μ => (evS F s ρ μ).bind fun q => match q.1 with
    | .next => evSs F ss q.2.1 q.2.2
    | .ret _ => some q
end

/-- what a call of a def gives: its slots are its parameters, then its other locals -/
def fnOf (F : List Fn) (n : Nat) (body : MSs) : Fn := fun args μ =>
  (evSs F body (args.map some ++ List.replicate n none) μ).bind fun q => match q.1 with
    | .next => some (.none, q.2.2.take μ.length)
    | .ret (.d x) => some (x, q.2.2.take μ.length)
    | .ret (.r i) => if μ.length ≤ i then match q.2.2[i]? with
      | some (.l xs) => some (.list xs, q.2.2.take μ.length)
      | _ => none
      else none

end Mini

namespace Mini
open PySem PySem.Spec PyProof.Rows

mutual
/-- the value is that data in this heap; none of its objects is one of ψ -/
def VR (ψ : List Addr) (h : Heap) : PyData → Value → Prop
  | .none, v => v = .none
  | .bool b, v => v = .bool b
  | .int i, v => ∃ t, v = .int i t
  | .str x, v => ∃ t, v = .str x t
  | .list xs, v => ∃ a vs, v = .ref a ∧ h.PlainList a vs ∧ a ∉ ψ ∧ VRs ψ h xs vs.toList
  | .tuple xs, v => ∃ a vs, v = .ref a ∧ IsTup h a vs ∧ a ∉ ψ ∧ VRs ψ h xs vs.toList
  | .dict _, _ => False
def VRs (ψ : List Addr) (h : Heap) : List PyData → List Value → Prop
  | [], vs => vs = []
  | x :: xs, vs => ∃ v ws, vs = v :: ws ∧ VR ψ h x v ∧ VRs ψ h xs ws
end

def Keep (κ : List Addr) (h h' : Heap) : Prop := ∀ b o, h.get? b = some o → b ∉ κ → h'.get? b = some o
theorem Keep.refl (κ : List Addr) (h : Heap) : Keep κ h h := fun _ _ e _ => e
theorem Keep.trans {κ : List Addr} {h₁ h₂ h₃ : Heap} (x : Keep κ h₁ h₂) (y : Keep κ h₂ h₃) : Keep κ h₁ h₃ := fun b o e n => y b o (x b o e n) n
theorem Keep.of {κ : List Addr} {h h' : Heap} (x : ∀ b o, h.get? b = some o → h'.get? b = some o) : Keep κ h h' := fun b o e _ => x b o e
theorem Keep.push {κ : List Addr} {h h' : Heap} (x : Keep κ h h') (o : Obj) : Keep κ h (h'.push o) := fun b o' e n => Heap.get?_push_of_some o (x b o' e n)
theorem Keep.more {κ κ' : List Addr} {h h' : Heap} (x : Keep κ h h') (s : ∀ a ∈ κ, a ∈ κ') : Keep κ' h h' := fun b o e n => x b o e fun m => n (s b m)
theorem Keep.isList {κ : List Addr} {h h' : Heap} {a : Addr} {vs : Array Value} (k : Keep κ h h') (x : h.IsList a vs) (n : a ∉ κ) : h'.IsList a vs := let ⟨o, e, r⟩ := x; ⟨o, k a o e n, r⟩
theorem Keep.isTup {κ : List Addr} {h h' : Heap} {a : Addr} {vs : Array Value} (k : Keep κ h h') (x : IsTup h a vs) (n : a ∉ κ) : IsTup h' a vs := let ⟨o, e, r⟩ := x; ⟨o, k a o e n, r⟩

mutual
theorem VR.keep {κ ψ ψ' : List Addr} {h h' : Heap} (k : Keep κ h h') (s : ∀ a, a ∉ ψ → (∃ o, h.get? a = some o) → a ∉ ψ' ∧ a ∉ κ) : ∀ {x : PyData} {v : Value}, VR ψ h x v → VR ψ' h' x v
  | .none, _, e => e
  | .bool _, _, e => e
  | .int _, _, e => e
  | .str _, _, e => e
  | .list _, _, ⟨a, vs, e, hl, n, r⟩ => by
    have q := s a n (by obtain ⟨o, ho⟩ := hl; exact ⟨_, ho⟩)
    exact ⟨a, vs, e, hl.at fun o e => k a o e q.2, q.1, VRs.keep k s r⟩
  | .tuple _, _, ⟨a, vs, e, hl, n, r⟩ => by
    have q := s a n (by obtain ⟨o, ho, _⟩ := hl; exact ⟨o, ho⟩)
    exact ⟨a, vs, e, k.isTup hl q.2, q.1, VRs.keep k s r⟩
  | .dict _, _, e => e
theorem VRs.keep {κ ψ ψ' : List Addr} {h h' : Heap} (k : Keep κ h h') (s : ∀ a, a ∉ ψ → (∃ o, h.get? a = some o) → a ∉ ψ' ∧ a ∉ κ) : ∀ {xs : List PyData} {vs : List Value}, VRs ψ h xs vs → VRs ψ' h' xs vs
  | [], _, e => e
  | _ :: _, _, ⟨v, ws, e, hv, r⟩ => ⟨v, ws, e, VR.keep k s hv, VRs.keep k s r⟩
end
theorem VR.kept {κ ψ : List Addr} {h h' : Heap} (k : Keep κ h h') (s : ∀ a ∈ κ, a ∈ ψ) {x : PyData} {v : Value} (e : VR ψ h x v) : VR ψ h' x v := VR.keep k (fun a n _ => ⟨n, fun m => n (s a m)⟩) e
theorem VRs.kept {κ ψ : List Addr} {h h' : Heap} (k : Keep κ h h') (s : ∀ a ∈ κ, a ∈ ψ) {xs : List PyData} {vs : List Value} (e : VRs ψ h xs vs) : VRs ψ h' xs vs := VRs.keep k (fun a n _ => ⟨n, fun m => n (s a m)⟩) e

theorem VRs.length {ψ : List Addr} {h : Heap} : ∀ {xs : List PyData} {vs : List Value}, VRs ψ h xs vs → vs.length = xs.length
  | [], _, e => by cases e; rfl
  | _ :: _, _, ⟨v, ws, e, _, r⟩ => by subst e; rw [List.length_cons, List.length_cons, VRs.length r]
theorem VRs.get {ψ : List Addr} {h : Heap} : ∀ {xs : List PyData} {vs : List Value} {i : Nat} {x : PyData}, VRs ψ h xs vs → xs[i]? = some x → ∃ v, vs[i]? = some v ∧ VR ψ h x v
  | [], _, _, _, _, e => by cases e
  | _ :: _, _, 0, _, ⟨v, ws, e, hv, _⟩, q => by subst e; cases q; exact ⟨v, rfl, hv⟩
  | _ :: _, _, i + 1, _, ⟨v, ws, e, _, r⟩, q => by
    subst e
    obtain ⟨u, h1, h2⟩ := VRs.get (i := i) r (by simpa using q)
    exact ⟨u, by simpa using h1, h2⟩
theorem VRs.append {ψ : List Addr} {h : Heap} : ∀ {xs ys : List PyData} {vs ws : List Value}, VRs ψ h xs vs → VRs ψ h ys ws → VRs ψ h (xs ++ ys) (vs ++ ws)
  | [], _, _, _, e, r => by cases e; exact r
  | _ :: _, _, _, _, ⟨v, us, e, hv, q⟩, r => by subst e; exact ⟨v, us ++ _, rfl, hv, VRs.append q r⟩
theorem VRs.take {ψ : List Addr} {h : Heap} : ∀ {xs : List PyData} {vs : List Value} (n : Nat), VRs ψ h xs vs → VRs ψ h (xs.take n) (vs.take n)
  | [], _, n, e => by cases e; cases n <;> rfl
  | _ :: _, _, 0, _ => rfl
  | _ :: _, _, n + 1, ⟨v, ws, e, hv, r⟩ => by subst e; exact ⟨v, ws.take n, rfl, hv, VRs.take n r⟩
theorem VRs.drop {ψ : List Addr} {h : Heap} : ∀ {xs : List PyData} {vs : List Value} (n : Nat), VRs ψ h xs vs → VRs ψ h (xs.drop n) (vs.drop n)
  | [], _, n, e => by cases e; cases n <;> rfl
  | _ :: _, _, 0, e => e
  | _ :: _, _, n + 1, ⟨v, ws, e, hv, r⟩ => by subst e; exact VRs.drop n r
theorem VRs.erase {ψ : List Addr} {h : Heap} : ∀ {xs : List PyData} {vs : List Value} (n : Nat), VRs ψ h xs vs → VRs ψ h (xs.eraseIdx n) (vs.eraseIdx n)
  | [], _, n, e => by cases e; rfl
  | _ :: _, _, 0, ⟨v, ws, e, hv, r⟩ => by subst e; exact r
  | _ :: _, _, n + 1, ⟨v, ws, e, hv, r⟩ => by subst e; exact ⟨v, ws.eraseIdx n, rfl, hv, VRs.erase n r⟩
theorem VRs.one {ψ : List Addr} {h : Heap} {x : PyData} {v : Value} (e : VR ψ h x v) : VRs ψ h [x] [v] := ⟨v, [], rfl, e, rfl⟩

mutual
theorem VR.reads {ψ : List Addr} {h : Heap} : ∀ {x : PyData} {v : Value}, VR ψ h x v → ∃ as, Reads h v x as
  | .none, _, e => by rw [show _ = Value.none from e]; exact ⟨_, .none⟩
  | .bool b, _, e => by rw [show _ = Value.bool b from e]; exact ⟨_, .bool b⟩
  | .int i, _, ⟨t, e⟩ => by subst e; exact ⟨_, .int i t⟩
  | .str x, _, ⟨t, e⟩ => by subst e; exact ⟨_, .str x t⟩
  | .list _, _, ⟨a, vs, e, ⟨n, ho⟩, _, r⟩ => by subst e; obtain ⟨as, q⟩ := VRs.reads r; exact ⟨_, .list ho rfl rfl q⟩
  | .tuple _, _, ⟨a, vs, e, ⟨o, ho, hc, n, hd⟩, _, r⟩ => by subst e; obtain ⟨as, q⟩ := VRs.reads r; exact ⟨_, .tuple ho hc hd q⟩
  | .dict _, _, e => e.elim
theorem VRs.reads {ψ : List Addr} {h : Heap} : ∀ {xs : List PyData} {vs : List Value}, VRs ψ h xs vs → ∃ as, ReadsAll h vs xs as
  | [], _, e => by cases e; exact ⟨_, .nil⟩
  | _ :: _, _, ⟨v, ws, e, hv, r⟩ => by
    subst e
    obtain ⟨as, q⟩ := VR.reads hv
    obtain ⟨bs, p⟩ := VRs.reads r
    exact ⟨_, .cons q p⟩
end

def MVR (ψ φ : List Addr) (h : Heap) : MV → Value → Prop
  | .d x, v => VR ψ h x v
  | .r i, v => ∃ a, v = .ref a ∧ φ[i]? = some a
theorem MVR.kept {κ ψ φ : List Addr} {h h' : Heap} (k : Keep κ h h') (s : ∀ a ∈ κ, a ∈ ψ) : ∀ {x : MV} {v : Value}, MVR ψ φ h x v → MVR ψ φ h' x v
  | .d _, _, e => VR.kept k s e
  | .r _, _, e => e
def MVRs (ψ φ : List Addr) (h : Heap) : List MV → List Value → Prop
  | [], vs => vs = []
  | x :: xs, vs => ∃ v ws, vs = v :: ws ∧ MVR ψ φ h x v ∧ MVRs ψ φ h xs ws
theorem MVRs.length {ψ φ : List Addr} {h : Heap} : ∀ {xs : List MV} {vs : List Value}, MVRs ψ φ h xs vs → vs.length = xs.length
  | [], _, e => by cases e; rfl
  | _ :: _, _, ⟨v, ws, e, _, r⟩ => by subst e; rw [List.length_cons, List.length_cons, MVRs.length r]
theorem MVRs.get {ψ φ : List Addr} {h : Heap} : ∀ {xs : List MV} {vs : List Value} {i : Nat} {x : MV}, MVRs ψ φ h xs vs → xs[i]? = some x → ∃ v, vs[i]? = some v ∧ MVR ψ φ h x v
  | [], _, _, _, _, e => by cases e
  | _ :: _, _, 0, _, ⟨v, ws, e, hv, _⟩, q => by subst e; cases q; exact ⟨v, rfl, hv⟩
  | _ :: _, _, i + 1, _, ⟨v, ws, e, _, r⟩, q => by
    subst e
    obtain ⟨u, h1, h2⟩ := MVRs.get (i := i) r (by simpa using q)
    exact ⟨u, by simpa using h1, h2⟩
theorem MVRs.allD {ψ φ : List Addr} {h : Heap} : ∀ {ms : List MV} {vs : List Value} {xs : List PyData}, MVRs ψ φ h ms vs → allD ms = some xs → VRs ψ h xs vs
  | [], _, _, e, q => by cases e; cases q; rfl
  | .d x :: r, _, _, ⟨v, ws, e, hv, hr⟩, q => by
    subst e
    unfold Mini.allD at q
    cases hq : Mini.allD r with
    | none => rw [hq] at q; cases q
    | some ys => rw [hq] at q; cases q; exact ⟨v, ws, rfl, hv, MVRs.allD hr hq⟩
  | .r _ :: _, _, _, _, q => by cases q

/-- the pairs of a dict of ints -/
def DR : List (Int × Int) → List (Int × Value) → Prop
  | [], vs => vs = []
  | (k, n) :: r, vs => ∃ t ws, vs = (k, .int n t) :: ws ∧ DR r ws
theorem DR.get {k : Int} : ∀ {kvs : List (Int × Int)} {vs : List (Int × Value)}, DR kvs vs → (∀ n, kvs.lookup k = some n → ∃ t, valueAt vs k = some (.int n t)) ∧ (kvs.lookup k = none → valueAt vs k = none)
  | [], _, e => by
    cases e
    exact ⟨fun n h => (by cases h), fun _ => rfl⟩
  | (j, m) :: r, _, ⟨t, ws, e, hr⟩ => by
    subst e
    obtain ⟨h1, h2⟩ := DR.get (k := k) hr
    unfold valueAt at h1 h2 ⊢
    rw [List.lookup_cons, List.find?_cons]
    by_cases hj : j = k
    · subst hj
      simp only [beq_self_eq_true, decide_true, Option.map_some]
      exact ⟨fun n h => (by cases h; exact ⟨t, rfl⟩), fun h => (by cases h)⟩
    · have e1 : (k == j) = false := by simpa using fun h => hj h.symm
      have e2 : decide (j = k) = false := decide_eq_false hj
      simp only [e1, e2]
      exact ⟨h1, h2⟩
theorem DR.length : ∀ {kvs : List (Int × Int)} {vs : List (Int × Value)}, DR kvs vs → vs.length = kvs.length
  | [], _, e => by cases e; rfl
  | _ :: _, _, ⟨_, ws, e, hr⟩ => by subst e; rw [List.length_cons, List.length_cons, DR.length hr]
theorem DR.add {k n : Int} {t : Tok} : ∀ {kvs : List (Int × Int)} {vs : List (Int × Value)}, DR kvs vs → DR (kvs ++ [(k, n)]) (vs ++ [(k, .int n t)])
  | [], _, e => by cases e; exact ⟨t, [], rfl, rfl⟩
  | _ :: _, _, ⟨t', ws, e, hr⟩ => by subst e; exact ⟨t', _, rfl, DR.add hr⟩
/-- a numbered object: a list, or a dict of ints -/
def OR (ψ : List Addr) (h : Heap) (a : Addr) : MO → Prop
  | .l xs => ∃ vs, h.PlainList a vs ∧ VRs ψ h xs vs.toList
  | .m kvs => ∃ vs : List (Int × Value), (a == sysModules) = false ∧ (∀ (prog : Program) (w : World), h.DictOf (intKind prog w) a vs) ∧ DR kvs vs
theorem OR.keep {κ ψ ψ' : List Addr} {h h' : Heap} {a : Addr} (ha : ∀ o, h.get? a = some o → h'.get? a = some o) (k : Keep κ h h') (s : ∀ a, a ∉ ψ → (∃ o, h.get? a = some o) → a ∉ ψ' ∧ a ∉ κ) : ∀ {o : MO}, OR ψ h a o → OR ψ' h' a o
  | .l _, ⟨vs, hp, hv⟩ => ⟨vs, hp.at ha, hv.keep k s⟩
  | .m _, ⟨vs, hs, hd, h1⟩ => ⟨vs, hs, fun prog w => let ⟨o, es, ep, ho, r⟩ := hd prog w; ⟨o, es, ep, ha o ho, r⟩, h1⟩
/-- the numbered lists lie at φ; all that lay in h₀ lies there still -/
structure St (h₀ : Heap) (ψ φ : List Addr) (μ : Mu) (h : Heap) : Prop where
  base : ∀ b o, h₀.get? b = some o → h.get? b = some o
  off : ∀ a ∈ ψ, h₀.get? a = none
  live : ∀ a ∈ ψ, ∃ o, h.get? a = some o
  sub : ∀ a ∈ φ, a ∈ ψ
  nd : φ.Nodup
  len : φ.length = μ.length
  obj : ∀ (i : Nat) a o, φ[i]? = some a → μ[i]? = some o → OR ψ h a o
section
variable {h₀ h h' : Heap} {ψ φ : List Addr} {μ : Mu}
theorem St.fresh (S : St h₀ ψ φ μ h) : h.objs.size ∉ ψ := fun hm => by
  obtain ⟨o, ho⟩ := S.live _ hm
  exact absurd (Heap.lt_size ho) (Nat.lt_irrefl _)
theorem St.lst (S : St h₀ ψ φ μ h) (i : Nat) (a : Addr) (xs : List PyData) (e : φ[i]? = some a) (q : μ[i]? = some (.l xs)) : ∃ vs, h.PlainList a vs ∧ VRs ψ h xs vs.toList := S.obj i a _ e q
theorem nil_off {ψ : List Addr} {h : Heap} : ∀ a, a ∉ ψ → (∃ o, h.get? a = some o) → a ∉ ψ ∧ a ∉ ([] : List Addr) := fun _ n _ => ⟨n, fun m => nomatch m⟩
theorem St.grow (S : St h₀ ψ φ μ h) (k : ∀ b o, h.get? b = some o → h'.get? b = some o) : St h₀ ψ φ μ h' :=
  ⟨fun b o e => k b o (S.base b o e), S.off, fun a m => let ⟨o, e⟩ := S.live a m; ⟨o, k a o e⟩, S.sub, S.nd, S.len, fun i a o e q => (S.obj i a o e q).keep (κ := []) (k a) (.of k) nil_off⟩
theorem St.push (S : St h₀ ψ φ μ h) (o : Obj) : St h₀ ψ φ μ (h.push o) := S.grow fun _ _ e => Heap.get?_push_of_some o e
/-- one object is changed -/
theorem St.put (S : St h₀ ψ φ μ h) {j : Nat} {a : Addr} {x : MO} (hj : φ[j]? = some a) (hp : OR ψ h' a x) (hl : ∃ o, h'.get? a = some o) (hs : Heap.SameBut a h h') : St h₀ ψ φ (μ.set j x) h' ∧ Keep φ h h' := by
  have ha : a ∈ φ := List.mem_of_getElem? hj
  have k : Keep φ h h' := fun b o e n => (hs.2 b (fun q => n (q ▸ ha))).trans e
  refine ⟨⟨fun b o e => ?_, S.off, fun b hb => ?_, S.sub, S.nd, by rw [List.length_set]; exact S.len, fun i b ys e q => ?_⟩, k⟩
  · exact k b o (S.base b o e) fun hb => by rw [S.off b (S.sub b hb)] at e; cases e
  · by_cases hba : b = a
    · subst hba; exact hl
    · obtain ⟨o, e⟩ := S.live b hb; exact ⟨o, (hs.2 b hba).trans e⟩
  · by_cases hij : j = i
    · subst hij
      rw [hj] at e; cases e
      rw [List.getElem?_set] at q
      split at q
      · split at q
        · cases q; exact hp
        · cases q
      · exact absurd rfl ‹_›
    · rw [List.getElem?_set, if_neg hij] at q
      refine (S.obj i b ys e q).keep (fun o ho => (hs.2 b fun z => hij ?_).trans ho) k fun c n _ => ⟨n, fun m => n (S.sub c m)⟩
      subst z
      exact (List.getElem?_inj (List.getElem?_eq_some_iff.mp hj).1 S.nd).mp (hj.trans e.symm)
theorem St.set (S : St h₀ ψ φ μ h) {j : Nat} {a : Addr} {xs : List PyData} {vs : Array Value} (hj : φ[j]? = some a) (hp : h'.PlainList a vs) (hs : Heap.SameBut a h h') (hv : VRs ψ h xs vs.toList) : St h₀ ψ φ (μ.set j (.l xs)) h' ∧ Keep φ h h' := by
  have ha : a ∈ φ := List.mem_of_getElem? hj
  have k : Keep φ h h' := fun b o e n => (hs.2 b (fun q => n (q ▸ ha))).trans e
  exact S.put hj ⟨vs, hp, hv.kept k S.sub⟩ (let ⟨n, e⟩ := hp; ⟨_, e⟩) hs
/-- an object of ψ that is none of φ is changed (the frame's slots) -/
theorem St.other (S : St h₀ ψ φ μ h) {L : Addr} (hL : L ∈ ψ) (hn : L ∉ φ) (hl : ∃ o, h'.get? L = some o) (hs : Heap.SameBut L h h') : St h₀ ψ φ μ h' := by
  have k : Keep [L] h h' := fun b o e n => (hs.2 b (fun q => n (q ▸ List.mem_singleton.mpr rfl))).trans e
  refine ⟨fun b o e => ?_, S.off, fun b hb => ?_, S.sub, S.nd, S.len, fun i b ys e q => ?_⟩
  · exact k b o (S.base b o e) fun hb => by rw [List.mem_singleton.mp hb, S.off L hL] at e; cases e
  · by_cases hba : b = L
    · subst hba; exact hl
    · obtain ⟨o, e⟩ := S.live b hb; exact ⟨o, (hs.2 b hba).trans e⟩
  · exact (S.obj i b ys e q).keep (fun o ho => (hs.2 b fun z => hn (z ▸ List.mem_of_getElem? e)).trans ho) k fun c n _ => ⟨n, fun m => n (List.mem_singleton.mp m ▸ hL)⟩
end

structure MC where
  names : List Str
  scope : Scope
  fns : List Str
/-- a frame: its env, and the objects that are its own (the slots' namespace, the cells) -/
structure FV where
  env : Env
  own : List Addr
def Holds (C : MC) (V : FV) (m : Str → Option Value) (h : Heap) (x : Str) (v : Value) : Prop :=
  (C.scope.names.lookup x = some .local ∧ m x = some v) ∨ (C.scope.names.lookup x = some .cell ∧ ∃ c, V.env.cells.lookup x = some c ∧ h.IsCell c (some v))
structure LocS (C : MC) (V : FV) (ψ φ : List Addr) (ρ : Rho) (h : Heap) (m : Str → Option Value) : Prop where
  ns : h.Ns V.env.locals m
  kind : V.env.scope.kind = .function
  kinds : V.env.scope.names = C.scope.names
  globals : V.env.globals = mainGlobals
  builtins : V.env.builtins = builtinsNs
  lo : V.env.locals ∈ V.own
  own : ∀ a ∈ V.own, a ∈ ψ ∧ a ∉ φ
  cells : ∀ x, C.scope.names.lookup x = some .cell → ∃ c v₀, V.env.cells.lookup x = some c ∧ c ∈ V.own ∧ c ≠ V.env.locals ∧ h.IsCell c v₀
  inj : ∀ x y c, V.env.cells.lookup x = some c → V.env.cells.lookup y = some c → x = y
  val : ∀ (i : Nat) mv, ρ[i]? = some (some mv) → ∃ x v, C.names[i]? = some x ∧ Holds C V m h x v ∧ MVR ψ φ h mv v
/-- the frame's slots -/
def Loc (C : MC) (V : FV) (ψ φ : List Addr) (ρ : Rho) (h : Heap) : Prop := ∃ m, LocS C V ψ φ ρ h m
section
variable {C : MC} {V : FV} {ψ φ κ : List Addr} {ρ : Rho} {h h' : Heap} {m : Str → Option Value}
theorem ns_keep (k : Keep κ h h') {L : Addr} (hn : h.Ns L m) (hL : L ∉ κ) : h'.Ns L m := by
  obtain ⟨o, es, ep, ho, r⟩ := hn
  exact ⟨o, es, ep, k _ _ ho hL, r⟩
theorem cell_keep (k : Keep κ h h') {c : Addr} {v : Option Value} (hn : h.IsCell c v) (hL : c ∉ κ) : h'.IsCell c v := by
  obtain ⟨o, ho, r⟩ := hn
  exact ⟨o, k _ _ ho hL, r⟩
/-- nothing of the frame's own is touched -/
theorem LocS.move (X : LocS C V ψ φ ρ h m) (k : Keep κ h h') (hk : ∀ a ∈ V.own, a ∉ κ) {ψ' φ' : List Addr} (ho : ∀ a ∈ V.own, a ∈ ψ' ∧ a ∉ φ') (hv : ∀ mv v, MVR ψ φ h mv v → MVR ψ' φ' h' mv v) : LocS C V ψ' φ' ρ h' m := by
  refine ⟨ns_keep k X.ns (hk _ X.lo), X.kind, X.kinds, X.globals, X.builtins, X.lo, ho, fun x hx => ?_, X.inj, fun i mv e => ?_⟩
  · obtain ⟨c, v₀, h1, h2, h3, h4⟩ := X.cells x hx
    exact ⟨c, v₀, h1, h2, h3, cell_keep k h4 (hk c h2)⟩
  · obtain ⟨x, v, h1, h2, h3⟩ := X.val i mv e
    refine ⟨x, v, h1, ?_, hv mv v h3⟩
    rcases h2 with h2 | ⟨h2, c, h4, h5⟩
    · exact .inl h2
    · refine .inr ⟨h2, c, h4, cell_keep k h5 (hk c ?_)⟩
      obtain ⟨c', v₀, e1, e2, _⟩ := X.cells x h2
      rw [h4] at e1; cases e1; exact e2
theorem Loc.kept (X : Loc C V ψ φ ρ h) (k : Keep φ h h') (s : ∀ a ∈ φ, a ∈ ψ) : Loc C V ψ φ ρ h' := by
  obtain ⟨m, X⟩ := X
  exact ⟨m, X.move k (fun a ha => (X.own a ha).2) X.own fun _ _ e => e.kept k s⟩
theorem Loc.keptBy (X : Loc C V ψ φ ρ h) (k : Keep κ h h') (s : ∀ a ∈ κ, a ∈ ψ) (hL : ∀ a ∈ V.own, a ∉ κ) : Loc C V ψ φ ρ h' := by
  obtain ⟨m, X⟩ := X
  exact ⟨m, X.move k hL X.own fun _ _ e => e.kept k s⟩
theorem Loc.get (X : Loc C V ψ φ ρ h) {i : Nat} {x : Str} {mv : MV} (hx : C.names[i]? = some x) (hv : ρ[i]?.join = some mv) :
    ∃ m v, LocS C V ψ φ ρ h m ∧ Holds C V m h x v ∧ MVR ψ φ h mv v := by
  obtain ⟨m, X⟩ := X
  have e : ρ[i]? = some (some mv) := by
    cases q : ρ[i]? with
    | none => rw [q] at hv; cases hv
    | some o => rw [q] at hv; cases o with
      | none => cases hv
      | some z => cases hv; rfl
  obtain ⟨y, v, h1, h2, h3⟩ := X.val i mv e
  rw [hx] at h1; cases h1
  exact ⟨m, v, X, h2, h3⟩
end
end Mini

namespace Mini
open PySem PySem.Spec PyProof.Rows

def MC.loc (C : MC) (i : Nat) (x : Str) : Bool := decide (C.names[i]? = some x) && (decide (C.scope.names.lookup x = some .local) || decide (C.scope.names.lookup x = some .cell)) && !(x == ("__debug__" : Str))
def MC.glob (C : MC) (x : Str) : Bool := decide (C.scope.names.lookup x = some .globalImplicit) && !(x == ("__debug__" : Str))

def notSlice : Expr → Bool
  | .Slice .. => false
  | _ => true
def notStar : Expr → Bool
  | .Starred .. => false
  | _ => true
def notComp : Expr → Bool
  | .ListComp .. | .SetComp .. | .DictComp .. => false
  | _ => true
/-- a test that is asked as a value or as one comparison -/
def plainTest : Expr → Bool
  | .UnaryOp .. | .BoolOp .. | .IfExp .. => false
  | _ => true

def relabelS (scope outer : Scope) : Scope :=
  { scope with names := scope.names.map fun (n, k) => if (k == .free && outer.names.lookup n == some .cell) then (n, .cell) else (n, k) }
/-- the names in a comprehension: its variable, then what it takes from around -/
def compC (C : MC) (scope : Scope) (x : Str) (caps : List Nat) : MC := ⟨x :: caps.filterMap (C.names[·]?), relabelS scope C.scope, C.fns⟩
def compOk (C : MC) (scope : Scope) (x : Str) (caps : List Nat) : Bool :=
  decide (scope.kind = .function) && decide ((caps.filterMap (C.names[·]?)).length = caps.length) && (caps.filterMap (C.names[·]?)).all (fun z => decide (C.scope.names.lookup z = some .cell) && decide ((relabelS scope C.scope).names.lookup z = some .cell)) &&
  decide (x :: caps.filterMap (C.names[·]?)).Nodup && decide (scope.names.lookup x = some .local) &&
  scope.names.all fun z => decide (z.2 ≠ .cell) && (decide (z.2 ≠ .local) || decide (scope.names.lookup z.1 = some .local)) && (decide (z.2 ≠ .free) || decide (C.scope.names.lookup z.1 = some .cell))

def oneTest : List Expr → Bool
  | [] => true
  | [_] => true
  | _ => false

mutual
def matchE (C : MC) : ME → Expr → Bool
  | .var i, e => match e with | .Name x _ => C.loc i x | _ => false
  | .bool b, e => match e with | .Constant c _ _ => decide (c = .bool b) | _ => false
  | .int n, e => match e with | .Constant c _ _ => decide (c = .int n) | _ => false
  | .str s, e => match e with | .Constant c _ _ => decide (c = .str s) | _ => false
  | .bin op a b, e => match e with | .BinOp l op' r _ => decide (op = op') && matchE C a l && matchE C b r | _ => false
  | .cmp op a b, e => match e with | .Compare l [op'] [r] _ => decide (op = op') && !behindInMarks op' r && matchE C a l && matchE C b r | _ => false
  | .tup es, e => match e with | .Tuple xs _ _ => matchEs C es xs | _ => false
  | .idx a b, e => match e with | .Subscript v i _ => notSlice i && matchE C a v && matchE C b i | _ => false
  | .call f es, e => match e with | .Call (.Name x _) (y :: ys) [] _ => decide (C.fns[f]? = some x) && C.glob x && matchEs C es (y :: ys) | _ => false
  | .prim p es, e => match e with | .Call (.Name x _) (y :: ys) [] _ => decide (x = p.name) && C.glob x && matchEs C es (y :: ys) | _ => false
  | .dlen i, e => match e with | .Call (.Name f _) [.Name x px] [] _ => decide (f = ("len" : Str)) && C.glob f && C.loc i x | _ => false
  | .dget i k, e => match e with | .Subscript (.Name x _) y _ => notSlice y && C.loc i x && matchE C k y | _ => false
  | .dnot k i, e => match e with | .Compare y [.NotIn] [.Name x px] _ => !behindInMarks .NotIn (.Name x px) && C.loc i x && matchE C k y | _ => false
  | .comp true caps a ts elt, e => match e with
    | .ListComp el [⟨.Name x _, .Call (.Name r _) [y] [] _, ifs, 0⟩] scope _ => decide (r = ("range" : Str)) && C.glob r && notStar y && matchE C a y && compOk C scope x caps && oneTest ifs && matchTs (compC C scope x caps) ts ifs && matchE (compC C scope x caps) elt el
    | _ => false
  | .comp false caps a ts elt, e => match e with
    | .ListComp el [⟨.Name x _, .Name z pz, ifs, 0⟩] scope _ => matchE C a (.Name z pz) && compOk C scope x caps && oneTest ifs && matchTs (compC C scope x caps) ts ifs && matchE (compC C scope x caps) elt el
    | _ => false
  | .index i a, e => match e with
    | .Call (.Attribute (.Name x _) m apos) [y] [] pos => C.loc i x && decide (m = ("index" : Str)) && decide (apos.endLine = pos.line) && notStar y && matchE C a y
    | _ => false
def matchEs (C : MC) : MEs → List Expr → Bool
  | .nil, xs => match xs with | [] => true | _ => false
  | .cons e es, xs => match xs with | x :: xs => notStar x && matchE C e x && matchEs C es xs | _ => false
def matchT (C : MC) : MT → Expr → Bool
  | .val e, x => plainTest x && matchE C e x
  | .bop op ts, x => match x with | .BoolOp op' ys _ => decide (op = op') && matchTs C ts ys | _ => false
def matchTs (C : MC) : MTs → List Expr → Bool
  | .nil, xs => match xs with | [] => true | _ => false
  | .cons t ts, xs => match xs with | x :: xs => matchT C t x && matchTs C ts xs | _ => false
end

/-- the comprehension's value is stored ahead of its end -/
def compTgt (C : MC) (y : Str) (py : Pos) : Expr → Bool
  | .ListComp _ _ scope pos => decide (C.scope.names.lookup y = some .local) && (py.line == pos.line) && !(scope.names.any fun (n, k) => n == y && (k == .local || k == .cell))
  | _ => false

mutual
def matchS (C : MC) : MS → Stmt → Bool
  | .assign i e, s => match s with | .Assign [.Name x _] v _ => C.loc i x && notComp v && matchE C e v | _ => false
  | .newlist i es, s => match s with | .Assign [.Name x _] (.List xs _) _ => C.loc i x && matchEs C es xs | _ => false
  | .append i e, s => match s with
    | .Expr (.Call (.Attribute (.Name x _) m apos) [y] [] pos) _ => C.loc i x && decide (m = ("append" : Str)) && decide (apos.endLine = pos.line) && notStar y && matchE C e y
    | _ => false
  | .ite c a b, s => match s with | .If t x y _ => matchT C c t && matchSs C a x && matchSs C b y | _ => false
  | .forr i e b, s => match s with
    | .For (.Name x _) (.Call (.Name r _) [y] [] _) ys [] _ => C.loc i x && decide (r = ("range" : Str)) && C.glob r && notStar y && matchE C e y && matchSs C b ys
    | _ => false
  | .ret e, s => match s with | .Return (some x) _ => matchE C e x | _ => false
  | .compr i caps e ts elt, s => match s with
    | .Assign [.Name y py] v _ => C.loc i y && compTgt C y py v && matchE C (.comp true caps e ts elt) v
    | _ => false
  | .comprn i caps e ts elt, s => match s with
    | .Assign [.Name y py] v _ => C.loc i y && compTgt C y py v && matchE C (.comp false caps e ts elt) v
    | _ => false
  | .dnew i, s => match s with | .Assign [.Name x _] (.Dict [] [] _) _ => C.loc i x | _ => false
  | .dset i ek ev, s => match s with | .Assign [.Subscript (.Name x _) y _] v _ => C.loc i x && notSlice y && notComp v && matchE C ek y && matchE C ev v | _ => false
  | .fore i e b, s => match s with | .For (.Name x _) (.Name y py) ys [] _ => C.loc i x && matchE C e (.Name y py) && matchSs C b ys | _ => false
def matchSs (C : MC) : MSs → List Stmt → Bool
  | .nil, xs => match xs with | [] => true | _ => false
  | .cons s ss, xs => match xs with | x :: xs => matchS C s x && matchSs C ss xs | _ => false
end
end Mini

namespace Mini
open PySem PySem.Spec PySem.Calls PyProof.Rows

structure Room (n : Nat) (A : Around) : Prop where
  handled : A.handled = none
  depth : A.depth + n < recursionLimit
  units : A.units + 4 * n + 70 < cLine

def FnOK (prog : Program) (w : World) (h₀ : Heap) (mg : Str → Option Value) (n : Nat) (x : Str) (f : Fn) : Prop :=
  ∃ a o fd, mg x = some (.ref a) ∧ h₀.get? a = some o ∧ o.data = .func fd ∧
    ∀ (A : Around) (s : Shared) (ψ φ : List Addr) (μ : Mu) (mvs : List MV) (vs : List Value) (d : PyData) (μ' : Mu) (R : Result → Shared → Prop), Room n A → St h₀ ψ φ μ s.heap → MVRs ψ φ s.heap mvs vs → f mvs μ = some (d, μ') →
      (∀ v h' tk, VR ψ h' d v → St h₀ ψ φ μ' h' → Keep φ s.heap h' → R (.ok (.ret v)) { s with heap := h', toks := tk }) →
      codeAny (model prog w) A (.call (.ref a) ⟨vs, []⟩) R s

def builtinsUsed : List (Str × Value) := [("len", .builtin "len"), ("abs", .builtin "abs"), ("range", .type "range"), ("all", .builtin "all"), ("type", .type "type"), ("int", .type "int")]

structure GF (prog : Program) (w : World) (h₀ : Heap) (mg mb : Str → Option Value) (fs : List (Str × Fn)) (n : Nat) : Prop where
  g : h₀.Ns mainGlobals mg
  b : h₀.Ns builtinsNs mb
  nolimit : h₀.NoLimit
  bi : ∀ p ∈ builtinsUsed, mg p.1 = none ∧ mb p.1 = some p.2
  fn : ∀ (i : Nat) x f, fs[i]? = some (x, f) → FnOK prog w h₀ mg n x f

structure Cx (prog : Program) (w : World) where
  h₀ : Heap
  mg : Str → Option Value
  mb : Str → Option Value
  fs : List (Str × Fn)
  n : Nat
  C : MC
  G : GF prog w h₀ mg mb fs n
  hf : C.fns = fs.map (·.1)
  hk : C.scope.kind = .function
  nd : C.names.Nodup
def Cx.F {prog : Program} {w : World} (X : Cx prog w) : List Fn := X.fs.map (·.2)

variable {prog : Program} {w : World}

def SE (X : Cx prog w) (e : Expr) (sem : Rho → Mu → Option (MV × Mu)) : Prop :=
  ∀ ρ μ p, sem ρ μ = some p → ∀ (A : Around) (s : Shared) (ψ φ : List Addr) (V : FV) (E : Value → Shared → Prop) (Q : Value → Shared → Prop),
    Room X.n A → St X.h₀ ψ φ μ s.heap → Loc X.C V ψ φ ρ s.heap →
    (∀ v h' tk, MVR ψ φ h' p.1 v → St X.h₀ ψ φ p.2 h' → Keep φ s.heap h' → Q v { s with heap := h', toks := tk }) →
    wpAny (model prog w) A (eval e (V.env)) Q E s
def SB (X : Cx prog w) (e : Expr) (sem : Rho → Mu → Option (Bool × Mu)) : Prop :=
  ∀ ρ μ p, sem ρ μ = some p → ∀ (A : Around) (s : Shared) (ψ φ : List Addr) (V : FV) (E : Value → Shared → Prop) (Q : Bool → Shared → Prop),
    Room X.n A → St X.h₀ ψ φ μ s.heap → Loc X.C V ψ φ ρ s.heap →
    (∀ h' tk, St X.h₀ ψ φ p.2 h' → Keep φ s.heap h' → Q p.1 { s with heap := h', toks := tk }) →
    wpAny (model prog w) A (isTrue e (V.env) (eval e (V.env))) Q E s
def SL (X : Cx prog w) (es : List Expr) (sem : Rho → Mu → Option (List MV × Mu)) : Prop :=
  ∀ ρ μ p, sem ρ μ = some p → ∀ (A : Around) (s : Shared) (ψ φ : List Addr) (V : FV) (pos : Pos) (E : Value → Shared → Prop) (Q : List Value → Shared → Prop),
    Room X.n A → St X.h₀ ψ φ μ s.heap → Loc X.C V ψ φ ρ s.heap →
    (∀ vs h' tk, MVRs ψ φ h' p.1 vs → St X.h₀ ψ φ p.2 h' → Keep φ s.heap h' → Q vs { s with heap := h', toks := tk }) →
    wpAny (model prog w) A (spliced (backTo pos (starEach es (V.env)))) Q E s

/-- a value to be read: it may be one of the numbered lists itself -/
def RR (ψ : List Addr) (h : Heap) : PyData → Value → Prop
  | .list xs, v => ∃ a vs, v = .ref a ∧ h.PlainList a vs ∧ VRs ψ h xs vs.toList
  | x, v => VR ψ h x v
theorem VR.rr {ψ : List Addr} {h : Heap} : ∀ {x : PyData} {v : Value}, VR ψ h x v → RR ψ h x v
  | .none, _, e => e
  | .bool _, _, e => e
  | .int _, _, e => e
  | .str _, _, e => e
  | .list _, _, ⟨a, vs, e, hl, _, r⟩ => ⟨a, vs, e, hl, r⟩
  | .tuple _, _, e => e
  | .dict _, _, e => e
theorem MVR.rr {h₀ : Heap} {ψ φ : List Addr} {μ : Mu} {h : Heap} (S : St h₀ ψ φ μ h) {mv : MV} {v : Value} {x : PyData} (e : MVR ψ φ h mv v) (hr : rd μ mv = some x) : RR ψ h x v := by
  cases mv with
  | d y => cases hr; exact VR.rr e
  | r i =>
    obtain ⟨a, rfl, ha⟩ := e
    simp only [rd] at hr
    split at hr
    · rename_i xs hx
      cases hr
      obtain ⟨vs, hp, hv⟩ := S.lst i a xs ha hx
      exact ⟨a, vs, rfl, hp, hv⟩
    · cases hr
theorem RR.reads {ψ : List Addr} {h : Heap} : ∀ {x : PyData} {v : Value}, RR ψ h x v → ∃ as, Reads h v x as
  | .none, _, e => VR.reads (ψ := ψ) (x := .none) e
  | .bool _, _, e => VR.reads (ψ := ψ) (x := .bool _) e
  | .int _, _, e => VR.reads (ψ := ψ) (x := .int _) e
  | .str _, _, e => VR.reads (ψ := ψ) (x := .str _) e
  | .list _, _, ⟨a, vs, e, ⟨n, ho⟩, r⟩ => by subst e; obtain ⟨as, q⟩ := VRs.reads r; exact ⟨_, .list ho rfl rfl q⟩
  | .tuple _, _, e => VR.reads (ψ := ψ) (x := .tuple _) e
  | .dict _, _, e => VR.reads (ψ := ψ) (x := .dict _) e

section ops
variable {A : Around} {E : Value → Shared → Prop} {s : Shared} {ψ : List Addr} {x y z : PyData} {u v : Value}

theorem add_lists_any {l b : Addr} {vs ws : Array Value} {Q : Value → Shared → Prop} (hl : s.heap.IsList l vs) (hb : s.heap.IsList b ws)
    (h : Q (.ref s.heap.objs.size) { s with heap := s.heap.push { cls := .type "list", data := .seq (vs ++ ws) } })
    (hsz : vs.size + ws.size ≤ sizeLine) : wpAny (model prog w) A (binaryOp .Add (.ref l) (.ref b)) Q E s := by
  obtain ⟨⟨cls, dd, data, sl⟩, ho, hc, n, hd⟩ := id hl
  obtain ⟨⟨cls2, dd2, data2, sl2⟩, ho2, hc2, n2, hd2⟩ := id hb
  simp only at hc hd hc2 hd2
  subst hc hd hc2 hd2
  exact concat_meets ⟨_, ho, rfl⟩ ⟨_, ho2, rfl⟩ noFill_list_add seq_list_add PySem.F.slot_list_add PySem.F.entry_list_add (PySem.F.args_list_add_2 _ _) (list_addW l b vs ws n n2 dd dd2 sl sl2 hsz) ⟨ho, ho2, h⟩

theorem VRs.size {h : Heap} {xs : List PyData} {vs : Array Value} (e : VRs ψ h xs vs.toList) : vs.size = xs.length := by rw [← e.length, Array.length_toList]

theorem bin_sound {op : Operator} {Q : Value → Shared → Prop} (hz : binD op x y = some z) (ru : RR ψ s.heap x u) (rv : RR ψ s.heap y v) (hfr : s.heap.objs.size ∉ ψ)
    (hq : ∀ r h' tk, VR ψ h' z r → (∀ b o, s.heap.get? b = some o → h'.get? b = some o) → Q r { s with heap := h', toks := tk }) : wpAny (model prog w) A (binaryOp op u v) Q E s := by
  unfold binD at hz
  split at hz
  · obtain ⟨t, rfl⟩ := ru; obtain ⟨t', rfl⟩ := rv; cases hz
    exact PyProof.Rows.add_int (hq _ s.heap _ ⟨_, rfl⟩ fun _ _ e => e)
  · obtain ⟨a, vs, rfl, hl, hv⟩ := ru; obtain ⟨b, ws, rfl, hb, hw⟩ := rv
    split at hz
    · cases hz
      rename_i hs
      refine add_lists_any hl.isList hb.isList (hq _ _ s.toks ⟨_, _, rfl, ⟨0, Heap.get?_push_size _ rfl⟩, hfr, ?_⟩ fun _ _ e => Heap.get?_push_of_some _ e) (by rw [hv.size, hw.size]; exact hs)
      have k : Keep [] s.heap (s.heap.push { cls := .type "list", data := .seq (vs ++ ws) }) := .of fun _ _ e => Heap.get?_push_of_some _ e
      rw [Array.toList_append]
      exact (hv.kept k fun _ m => nomatch m).append (hw.kept k fun _ m => nomatch m)
    · cases hz
  · obtain ⟨t, rfl⟩ := ru; obtain ⟨t', rfl⟩ := rv; cases hz
    exact PyProof.Rows.sub_int (hq _ s.heap _ ⟨_, rfl⟩ fun _ _ e => e)
  · obtain ⟨t, rfl⟩ := ru; obtain ⟨t', rfl⟩ := rv
    split at hz
    · cases hz
    · cases hz
      rename_i hb
      exact PyProof.Rows.mod_int' hb (hq _ s.heap _ ⟨_, rfl⟩ fun _ _ e => e)
  · obtain ⟨t, rfl⟩ := ru; obtain ⟨t', rfl⟩ := rv
    split at hz
    · cases hz
      rename_i hb
      exact PyProof.Rows.rshift_int hb (hq _ s.heap _ ⟨_, rfl⟩ fun _ _ e => e)
    · cases hz
  · cases hz

theorem eqOk_spec {a b : PyData} (h : eqOk a b = true) : a.canLay0 = true ∧ b.canLay0 = true ∧ min a.depth b.depth ≤ 64 := by
  unfold eqOk at h
  simp only [Bool.and_eq_true, decide_eq_true_eq] at h
  exact ⟨h.1.1, h.1.2, h.2⟩

theorem cmp_sound {op : CmpOp} {b : Bool} {Q : Value → Shared → Prop} (hz : cmpD op x y = some b) (ru : RR ψ s.heap x u) (rv : RR ψ s.heap y v) (hu : A.units + 64 < cLine)
    (hq : Q (.bool b) s) : wpAny (model prog w) A (compareOp op u v) Q E s := by
  unfold cmpD at hz
  split at hz
  · obtain ⟨t, rfl⟩ := ru; obtain ⟨t', rfl⟩ := rv; cases hz; exact PyProof.Rows.eq_int hq
  · obtain ⟨t, rfl⟩ := ru; obtain ⟨t', rfl⟩ := rv; cases hz; exact PyProof.Rows.eq_str hq
  · split at hz
    · cases hz
      rename_i hs
      obtain ⟨h1, h2, h3⟩ := eqOk_spec hs
      obtain ⟨as, ra⟩ := ru.reads
      obtain ⟨bs, rb⟩ := rv.reads
      exact SeqAt.compareEq_reads ra rb h1 h2 (by omega) hq
    · cases hz
  · split at hz
    · cases hz
      rename_i hs
      obtain ⟨h1, h2, h3⟩ := eqOk_spec hs
      obtain ⟨as, ra⟩ := ru.reads
      obtain ⟨bs, rb⟩ := rv.reads
      exact SeqAt.compareNe_reads ra rb h1 h2 (by omega) hq
    · cases hz
  · obtain ⟨t, rfl⟩ := ru; obtain ⟨t', rfl⟩ := rv; cases hz; exact PyProof.Rows.lt_int hq
  · obtain ⟨t, rfl⟩ := ru; obtain ⟨t', rfl⟩ := rv; cases hz; exact PyProof.Rows.gt_int hq
  · cases hz

theorem sub_plain {i : Expr} (hi : notSlice i = true) (o k : Value) : subscripted i false o k = operate [o, k] (getItem o k) := by
  cases i <;> first | rfl | cases hi

theorem seqIndex_nat {k : Int} {n : Nat} (h0 : 0 ≤ k) (h1 : k.toNat < n) : seqIndex? k n = some k.toNat := by
  unfold seqIndex?
  have h2 : ¬ k < 0 := by omega
  simp only [h2, if_false]
  first | rfl | (split <;> first | rfl | omega) | (simp; omega)

theorem idx_sound {value i : Expr} {Q : Value → Shared → Prop} (hz : idxD x y = some z) (ru : RR ψ s.heap x u) (rv : RR ψ s.heap y v) (hi : notSlice i = true)
    (hq : ∀ r tk, VR ψ s.heap z r → Q r { s with toks := tk }) : wpAny (model prog w) A (subscriptTail value i u v) Q E s := by
  unfold idxD at hz
  split at hz
  · obtain ⟨a, vs, rfl, hl, hv⟩ := ru; obtain ⟨t, rfl⟩ := rv
    split at hz
    · rename_i hb
      obtain ⟨r, hr, hvr⟩ := hv.get hz
      exact tail_any hl.isList.typeIs slot_list_getitem.lookup (wpAny_getItem_list hl.isList hb.1 hb.2 (by simpa using hr) (hq r s.toks hvr)) (sub_plain hi _ _)
    · cases hz
  · obtain ⟨a, vs, rfl, hl, _, hv⟩ := ru; obtain ⟨t, rfl⟩ := rv
    split at hz
    · rename_i hb
      obtain ⟨r, hr, hvr⟩ := hv.get hz
      have hlt := (List.getElem?_eq_some_iff.mp hr).1
      rw [Array.length_toList] at hlt
      exact tail_any hl.typeIs slot_tuple_getitem.lookup (PyProof.Rows.getItem_tuple hl (by omega) hb.2 (seqIndex_nat hb.1 hlt) (by simpa using hr) (hq r s.toks hvr)) (sub_plain hi _ _)
    · cases hz
  · cases hz

theorem prim_sound {k : Prim} {vs : List Value} {xs : List PyData} {Q : Value → Shared → Prop} (hA : A.handled = none) (hz : primD k xs = some z) (rs : vs.length = xs.length) (rr : ∀ (i : Nat) x v, xs[i]? = some x → vs[i]? = some v → RR ψ s.heap x v)
    (hq : ∀ r h' tk, VR ψ h' z r → (∀ b o, s.heap.get? b = some o → h'.get? b = some o) → Q r { s with heap := h', toks := tk }) :
    wpAny (model prog w) A (call (.builtin k.id) vs) Q E s := by
  unfold primD at hz
  split at hz
  · split at hz
    · cases hz
      rename_i hs
      match vs, rs with
      | [v], _ =>
        obtain ⟨a, us, rfl, hl, hv⟩ := rr 0 _ v rfl rfl
        exact PyProof.Rows.len_list hl.isList (by rw [hv.size]; omega) (hq _ s.heap _ ⟨s.toks + 1, by rw [hv.size]⟩ fun _ _ e => e)
    · cases hz
  · cases hz
    match vs, rs with
    | [v], _ =>
      obtain ⟨t, rfl⟩ := rr 0 _ v rfl rfl
      exact PyProof.Rows.call_abs_int fun t' tk => hq _ s.heap tk ⟨_, rfl⟩ fun _ _ e => e
  · cases hz
end ops
end Mini

namespace Mini
open PySem PySem.Spec PySem.Calls PyProof.Rows
variable {prog : Program} {w : World}

theorem MC.loc_spec {C : MC} {i : Nat} {x : Str} (h : C.loc i x = true) : C.names[i]? = some x ∧ (C.scope.names.lookup x = some .local ∨ C.scope.names.lookup x = some .cell) ∧ (x == ("__debug__" : Str)) = false := by
  unfold MC.loc at h
  simp only [Bool.and_eq_true, Bool.or_eq_true, decide_eq_true_eq, Bool.not_eq_true'] at h
  exact ⟨h.1.1, h.1.2, h.2⟩
theorem MC.glob_spec {C : MC} {x : Str} (h : C.glob x = true) : C.scope.names.lookup x = some .globalImplicit ∧ (x == ("__debug__" : Str)) = false := by
  unfold MC.glob at h
  simp only [Bool.and_eq_true, decide_eq_true_eq, Bool.not_eq_true'] at h
  exact h
theorem star_cons {x : Expr} {xs : List Expr} {env : Env} (h : notStar x = true) : starEach (x :: xs) env = (false, eval x env) :: starEach xs env := by
  cases x <;> first | rfl | cases h
theorem back_cons {t : Sem Value} {r : List (Bool × Sem Value)} {pos : Pos} : backTo pos ((false, t) :: r) = (false, t) :: backTo pos r := rfl

theorem matchEs_star {C : MC} {es : MEs} {y : Expr} {ys : List Expr} (h : matchEs C es (y :: ys) = true) : notStar y = true := by
  cases es with
  | nil => cases h
  | cons e es =>
    have h' : (notStar y && matchE C e y && matchEs C es ys) = true := h
    simp only [Bool.and_eq_true] at h'
    exact h'.1.1
theorem prim_used (k : Prim) : (k.name, Value.builtin k.id) ∈ builtinsUsed := by cases k <;> simp [builtinsUsed, Prim.name, Prim.id]

theorem Room.units64 {n : Nat} {A : Around} (h : Room n A) : A.units + 64 < cLine := by have := h.units; omega

theorem isTrue_plain' {x : Expr} {env : Env} {whole : Sem Value} (h : plainTest x = true) (hc : ∀ l o c p, x ≠ .Compare l o c p) : isTrue x env whole = (do let v ← whole; standAt x.pos; holding [v] (truthy v)) := by
  cases x <;> first | exact absurd rfl (hc _ _ _ _) | rfl | cases h

theorem plain_args {C : MC} {pos : Pos} {env : Env} : ∀ {es : MEs} {ys : List Expr}, matchEs C es ys = true → (backTo pos (starEach ys env)).any (·.1) = false
  | .nil, [], _ => rfl
  | .nil, _ :: _, h => by cases h
  | .cons _ _, [], h => by cases h
  | .cons e es, y :: ys, h => by
    have h' : (notStar y && matchE C e y && matchEs C es ys) = true := h
    simp only [Bool.and_eq_true] at h'
    rw [star_cons h'.1.1, back_cons, List.any_cons, plain_args h'.2]; rfl

section
variable {X : Cx prog w}

theorem SE.two {e₁ e₂ : Expr} {s₁ s₂ : Rho → Mu → Option (MV × Mu)} (h₁ : SE X e₁ s₁) (h₂ : SE X e₂ s₂) {ρ : Rho} {μ : Mu} {p q : MV × Mu} (hp : s₁ ρ μ = some p) (hq : s₂ ρ p.2 = some q)
    {A : Around} {s : Shared} {ψ φ : List Addr} {V : FV} {E : Value → Shared → Prop} {K : Value → Value → Shared → Prop}
    (hR : Room X.n A) (S : St X.h₀ ψ φ μ s.heap) (hL : Loc X.C V ψ φ ρ s.heap)
    (k : ∀ u v h' tk, MVR ψ φ h' p.1 u → MVR ψ φ h' q.1 v → St X.h₀ ψ φ q.2 h' → Keep φ s.heap h' → K u v { s with heap := h', toks := tk }) :
    wpAny (model prog w) A (eval e₁ (V.env)) (fun u s' => wpAny (model prog w) A (eval e₂ (V.env)) (fun v s'' => K u v s'') E s') E s :=
  h₁ ρ μ p hp A s ψ φ V E _ hR S hL fun u h' tk hu S' k' =>
    h₂ ρ p.2 q hq A { s with heap := h', toks := tk } ψ φ V E _ hR S' (hL.kept k' S'.sub) fun v h'' tk' hv S'' k'' => k u v h'' tk' (hu.kept k'' S'.sub) hv S'' (k'.trans k'')

theorem St.lts {h₀ h : Heap} {ψ φ : List Addr} {μ : Mu} (S : St h₀ ψ φ μ h) : ∀ a ∈ ψ, a < h.objs.size := fun a m => let ⟨_, e⟩ := S.live a m; Heap.lt_size e

theorem allD_length : ∀ {ms : List MV} {xs : List PyData}, allD ms = some xs → xs.length = ms.length
  | [], _, e => by cases e; rfl
  | .d x :: r, _, e => by
    obtain ⟨ys, hy, rfl⟩ := Option.map_eq_some_iff.mp e
    rw [List.length_cons, List.length_cons, allD_length hy]
  | .r _ :: _, _, e => by cases e
theorem rdAll_rr {h₀ h : Heap} {ψ φ : List Addr} {μ : Mu} (S : St h₀ ψ φ μ h) : ∀ {ms : List MV} {vs : List Value} {xs : List PyData}, MVRs ψ φ h ms vs → rdAll μ ms = some xs → vs.length = xs.length ∧ ∀ (i : Nat) x v, xs[i]? = some x → vs[i]? = some v → RR ψ h x v
  | [], _, _, e, q => by cases e; cases q; exact ⟨rfl, fun i x v e => by cases e⟩
  | m :: ms, _, _, ⟨v, ws, e, hv, r⟩, q => by
    subst e
    simp only [rdAll, Option.bind_eq_bind, Option.bind_eq_some_iff, Option.some.injEq] at q
    obtain ⟨x, hx, xs, hxs, rfl⟩ := q
    obtain ⟨h1, h2⟩ := rdAll_rr S r hxs
    refine ⟨by rw [List.length_cons, List.length_cons, h1], fun i y u e1 e2 => ?_⟩
    cases i with
    | zero => cases e1; cases e2; exact hv.rr S hx
    | succ i => exact h2 i y u (by simpa using e1) (by simpa using e2)

theorem LocS.kindOf {C : MC} {V : FV} {ψ φ : List Addr} {ρ : Rho} {h : Heap} {m : Str → Option Value} (l : LocS C V ψ φ ρ h m) {x : Str} {k : NameKind} (e : C.scope.names.lookup x = some k) : V.env.kindOf x = some k := by
  unfold Env.kindOf; rw [l.kinds]; exact e
theorem ld_glob {x : Str} {p : Pos} {v : Value} {A : Around} {s : Shared} {V : FV} {E Q : Value → Shared → Prop} {ψ φ : List Addr} {ρ : Rho} (hL : Loc X.C V ψ φ ρ s.heap) (base : ∀ b o, X.h₀.get? b = some o → s.heap.get? b = some o)
    (hx : X.C.glob x = true) (hv : X.mg x = some v) (h : Q v s) : wpAny (model prog w) A (eval (.Name x p) (V.env)) Q E s :=
  let ⟨_, l⟩ := hL
  Name_function_global l.kind (l.kindOf (MC.glob_spec hx).1) (loadGlobal_global (env := V.env) (l.globals ▸ X.G.g.keeps base) hv h) (MC.glob_spec hx).2
theorem ld_bi {x : Str} {p : Pos} {v : Value} {A : Around} {s : Shared} {V : FV} {E Q : Value → Shared → Prop} {ψ φ : List Addr} {ρ : Rho} (hL : Loc X.C V ψ φ ρ s.heap) (base : ∀ b o, X.h₀.get? b = some o → s.heap.get? b = some o)
    (hx : X.C.glob x = true) (hv : (x, v) ∈ builtinsUsed) (h : Q v s) : wpAny (model prog w) A (eval (.Name x p) (V.env)) Q E s :=
  let ⟨_, l⟩ := hL
  Name_function_global l.kind (l.kindOf (MC.glob_spec hx).1) (loadGlobal_builtin (env := V.env) (l.globals ▸ X.G.g.keeps base) (X.G.bi _ hv).1 (l.builtins ▸ X.G.b.keeps base) (X.G.bi _ hv).2 h) (MC.glob_spec hx).2
end

end Mini

namespace Mini
open PySem PySem.Spec PySem.Calls PyProof.Rows
variable {prog : Program} {w : World}

/-- what a statement may add: lists at new places -/
structure Ext (ψ φ ψ' φ' : List Addr) (h : Heap) : Prop where
  sub : ∀ a ∈ ψ, a ∈ ψ'
  new : ∀ a ∈ ψ', a ∈ ψ ∨ h.get? a = none
  app : ∃ e, φ' = φ ++ e ∧ ∀ a ∈ e, h.get? a = none
theorem Ext.refl (ψ φ : List Addr) (h : Heap) : Ext ψ φ ψ φ h := ⟨fun _ m => m, fun _ m => .inl m, [], by simp, fun _ m => nomatch m⟩
theorem Ext.trans {ψ φ ψ' φ' ψ'' φ'' : List Addr} {h h' : Heap} (x : Ext ψ φ ψ' φ' h) (y : Ext ψ' φ' ψ'' φ'' h') (live : ∀ a o, h.get? a = some o → ∃ o', h'.get? a = some o') : Ext ψ φ ψ'' φ'' h := by
  have dead : ∀ a, h'.get? a = none → h.get? a = none := fun a e => by
    cases q : h.get? a with
    | none => rfl
    | some o => obtain ⟨o', e'⟩ := live a o q; rw [e] at e'; cases e'
  refine ⟨fun a m => y.sub a (x.sub a m), fun a m => ?_, ?_⟩
  · rcases y.new a m with h1 | h1
    · exact x.new a h1
    · exact .inr (dead a h1)
  · obtain ⟨e, rfl, he⟩ := x.app
    obtain ⟨e', rfl, he'⟩ := y.app
    refine ⟨e ++ e', by rw [List.append_assoc], fun a m => ?_⟩
    rcases List.mem_append.mp m with m | m
    · exact he a m
    · exact dead a (he' a m)
/-- all that lived lives on -/
theorem live_of {h₀ h h' : Heap} {φ ψ' φ' own : List Addr} {μ : Mu} (k : Keep (own ++ φ) h h') (S' : St h₀ ψ' φ' μ h') (sub : ∀ a ∈ φ, a ∈ ψ') (hL : ∀ a ∈ own, a ∈ ψ') : ∀ a o, h.get? a = some o → ∃ o', h'.get? a = some o' := fun a o e => by
  by_cases m : a ∈ own ++ φ
  · rcases List.mem_append.mp m with m | m
    · exact S'.live _ (hL a m)
    · exact S'.live _ (sub a m)
  · exact ⟨o, k a o e m⟩
theorem Keep.ext {ψ φ ψ' φ' own : List Addr} {h h' h'' : Heap} (k : Keep (own ++ φ) h h') (x : Ext ψ φ ψ' φ' h) (k' : Keep (own ++ φ') h' h'') : Keep (own ++ φ) h h'' := fun b o e n => by
  refine k' b o (k b o e n) fun m => ?_
  rcases List.mem_append.mp m with m | m
  · exact n (List.mem_append_left _ m)
  · obtain ⟨ex, rfl, he⟩ := x.app
    rcases List.mem_append.mp m with m | m
    · exact n (List.mem_append_right _ m)
    · rw [he b m] at e; cases e

def Flows (ψ φ : List Addr) (h : Heap) : Out → Flow → Prop
  | .next, f => f = .next
  | .ret mv, f => ∃ v, f = .ret v ∧ MVR ψ φ h mv v

def SSt (X : Cx prog w) (tree : Env → Sem Flow) (sem : Rho → Mu → Option (Out × Rho × Mu)) : Prop :=
  ∀ ρ μ q, sem ρ μ = some q → ∀ (A : Around) (s : Shared) (ψ φ : List Addr) (V : FV) (E : Value → Shared → Prop) (Q : Flow → Shared → Prop),
    Room X.n A → St X.h₀ ψ φ μ s.heap → Loc X.C V ψ φ ρ s.heap →
    (∀ fl ψ' φ' h' tk, Flows ψ' φ' h' q.1 fl → Ext ψ φ ψ' φ' s.heap → St X.h₀ ψ' φ' q.2.2 h' → Loc X.C V ψ' φ' q.2.1 h' → Keep (V.own ++ φ) s.heap h' → Q fl { s with heap := h', toks := tk }) →
    wpAny (model prog w) A (tree (V.env)) Q E s

section
variable {h₀ h h' : Heap} {ψ φ : List Addr} {μ : Mu} {C : MC} {V : FV} {ρ : Rho}
theorem Loc.inψ (X : Loc C V ψ φ ρ h) : ∀ a ∈ V.own, a ∈ ψ := let ⟨_, l⟩ := X; fun a m => (l.own a m).1
theorem Loc.offφ (X : Loc C V ψ φ ρ h) : ∀ a ∈ V.own, a ∉ φ := let ⟨_, l⟩ := X; fun a m => (l.own a m).2

/-- a slot is stored -/
theorem store_sound {X : Cx prog w} {i : Nat} {x : Str} {mv : MV} {v : Value} {A : Around} {s : Shared} {E : Value → Shared → Prop} {Q : Unit → Shared → Prop}
    (S : St X.h₀ ψ φ μ s.heap) (hL : Loc X.C V ψ φ ρ s.heap) (hx : X.C.loc i x = true) (hv : MVR ψ φ s.heap mv v)
    (k : ∀ h' tk, St X.h₀ ψ φ μ h' → Loc X.C V ψ φ (ρ.set i (some mv)) h' → Keep V.own s.heap h' → Q () { s with heap := h', toks := tk }) :
    wpAny (model prog w) A (storeName V.env x v) Q E s := by
  obtain ⟨m, l⟩ := id hL
  obtain ⟨h1, h2, _⟩ := MC.loc_spec hx
  have other : ∀ (j : Nat) y, j ≠ i → X.C.names[j]? = some y → y ≠ x := fun j y hij e z => by
    subst z
    exact hij ((List.getElem?_inj (List.getElem?_eq_some_iff.mp e).1 X.nd).mp (e.trans h1.symm))
  rcases h2 with h2 | h2
  · refine wpAny_storeName_local (l.kindOf h2) l.ns (fun h' hn' hs => ?_) (by rw [l.kind]; rfl)
    have kk : Keep [V.env.locals] s.heap h' := fun b o e n => (hs.2 b (fun q => n (q ▸ List.mem_singleton.mpr rfl))).trans e
    have ks : ∀ a ∈ [V.env.locals], a ∈ ψ := fun a m => List.mem_singleton.mp m ▸ (l.own _ l.lo).1
    refine k h' _ (S.other (l.own _ l.lo).1 (l.own _ l.lo).2 (let ⟨o, _, _, e, _⟩ := hn'; ⟨o, e⟩) hs) ⟨_, hn', l.kind, l.kinds, l.globals, l.builtins, l.lo, l.own, fun y hy => ?_, l.inj, fun j mv' e => ?_⟩ (kk.more fun a m => List.mem_singleton.mp m ▸ l.lo)
    · obtain ⟨c, v₀, e1, e2, e3, e4⟩ := l.cells y hy
      exact ⟨c, v₀, e1, e2, e3, cell_keep kk e4 fun m => e3 (List.mem_singleton.mp m)⟩
    · rw [List.getElem?_set] at e
      split at e
      · rename_i hij
        subst hij
        split at e
        · cases e
          exact ⟨x, v, h1, .inl ⟨h2, by simp⟩, hv.kept kk ks⟩
        · cases e
      · rename_i hij
        obtain ⟨y, u, e1, e2, e3⟩ := l.val j mv' e
        refine ⟨y, u, e1, ?_, e3.kept kk ks⟩
        rcases e2 with ⟨e2, e4⟩ | ⟨e2, c, e4, e5⟩
        · exact .inl ⟨e2, by simp only [if_neg (other j y (Ne.symm hij) e1)]; exact e4⟩
        · refine .inr ⟨e2, c, e4, cell_keep kk e5 fun m => ?_⟩
          obtain ⟨c', v₀, q1, _, q3, _⟩ := l.cells y e2
          rw [e4] at q1; cases q1
          exact q3 (List.mem_singleton.mp m)
  · obtain ⟨c, v₀, c1, c2, c3, c4⟩ := l.cells x h2
    refine wpAny_storeName_cell l.kind (l.kindOf h2) c1 c4 fun h' hc' hs => ?_
    have kk : Keep [c] s.heap h' := fun b o e n => (hs.2 b (fun q => n (q ▸ List.mem_singleton.mpr rfl))).trans e
    have ks : ∀ a ∈ [c], a ∈ ψ := fun a m => List.mem_singleton.mp m ▸ (l.own _ c2).1
    refine k h' _ (S.other (l.own _ c2).1 (l.own _ c2).2 (let ⟨o, e, _⟩ := hc'; ⟨o, e⟩) hs) ⟨m, ns_keep kk l.ns fun q => c3 (List.mem_singleton.mp q).symm, l.kind, l.kinds, l.globals, l.builtins, l.lo, l.own, fun y hy => ?_, l.inj, fun j mv' e => ?_⟩ (kk.more fun a m => List.mem_singleton.mp m ▸ c2)
    · obtain ⟨d, v₁, e1, e2, e3, e4⟩ := l.cells y hy
      by_cases hd : d = c
      · subst hd; exact ⟨d, _, e1, e2, e3, hc'⟩
      · exact ⟨d, v₁, e1, e2, e3, cell_keep kk e4 fun m => hd (List.mem_singleton.mp m)⟩
    · rw [List.getElem?_set] at e
      split at e
      · rename_i hij
        subst hij
        split at e
        · cases e
          exact ⟨x, v, h1, .inr ⟨h2, c, c1, hc'⟩, hv.kept kk ks⟩
        · cases e
      · rename_i hij
        obtain ⟨y, u, e1, e2, e3⟩ := l.val j mv' e
        refine ⟨y, u, e1, ?_, e3.kept kk ks⟩
        rcases e2 with e2 | ⟨e2, d, e4, e5⟩
        · exact .inl e2
        · refine .inr ⟨e2, d, e4, cell_keep kk e5 fun m => ?_⟩
          rw [List.mem_singleton.mp m] at e4
          exact other j y (Ne.symm hij) e1 (l.inj y x c e4 c1)

/-- a numbered list more -/
theorem St.alloc (S : St h₀ ψ φ μ h) {xs : List PyData} {vs : List Value} (hv : VRs ψ h xs vs) :
    St h₀ (h.objs.size :: ψ) (φ ++ [h.objs.size]) (μ ++ [.l xs]) (h.push { cls := .type "list", data := .seq vs.toArray }) := by
  have kp : Keep [] h (h.push { cls := .type "list", data := .seq vs.toArray }) := .of fun _ _ e => Heap.get?_push_of_some _ e
  have ks : ∀ a, a ∉ ψ → (∃ o, h.get? a = some o) → a ∉ (h.objs.size :: ψ) ∧ a ∉ ([] : List Addr) := fun a n ⟨o, e⟩ => ⟨fun m => by
    rcases List.mem_cons.mp m with rfl | m
    · exact absurd (Heap.lt_size e) (Nat.lt_irrefl _)
    · exact n m, fun m => nomatch m⟩
  have ha : h.objs.size ∉ φ := fun m => S.fresh (S.sub _ m)
  have hp : (h.push { cls := .type "list", data := .seq vs.toArray }).PlainList h.objs.size vs.toArray := ⟨0, Heap.get?_push_size _ rfl⟩
  refine ⟨fun b o e => Heap.get?_push_of_some _ (S.base b o e), fun b hb => ?_, fun b hb => ?_, fun b hb => ?_, ?_, by simp [S.len], fun i b ys e q => ?_⟩
  · rcases List.mem_cons.mp hb with rfl | hb
    · cases q : h₀.get? h.objs.size with
      | none => rfl
      | some o => exact absurd (Heap.lt_size (S.base _ _ q)) (Nat.lt_irrefl _)
    · exact S.off b hb
  · rcases List.mem_cons.mp hb with rfl | hb
    · exact ⟨_, Heap.get?_push_size _ rfl⟩
    · obtain ⟨o, e⟩ := S.live b hb; exact ⟨o, Heap.get?_push_of_some _ e⟩
  · rcases List.mem_append.mp hb with hb | hb
    · exact .tail _ (S.sub b hb)
    · rw [List.mem_singleton.mp hb]; exact .head _
  · exact List.nodup_append.mpr ⟨S.nd, by simp, fun x hx y hy => by rw [List.mem_singleton.mp hy]; exact fun z => ha (z ▸ hx)⟩
  · by_cases hi : i < φ.length
    · rw [List.getElem?_append_left hi] at e
      rw [List.getElem?_append_left (S.len ▸ hi)] at q
      exact (S.obj i b ys e q).keep (fun o e => Heap.get?_push_of_some _ e) kp ks
    · rw [List.getElem?_append_right (Nat.le_of_not_lt hi)] at e
      rw [List.getElem?_append_right (S.len ▸ Nat.le_of_not_lt hi)] at q
      have e0 : i - φ.length = 0 := by
        cases hq : i - φ.length with
        | zero => rfl
        | succ n => rw [hq] at e; cases e
      rw [e0] at e
      rw [← S.len, e0] at q
      cases e; cases q
      exact ⟨vs.toArray, hp, by simpa using hv.keep kp ks⟩
/-- a numbered dict more -/
theorem St.allocM (S : St h₀ ψ φ μ h) (hs : (h.objs.size == sysModules) = false) : St h₀ (h.objs.size :: ψ) (φ ++ [h.objs.size]) (μ ++ [.m []]) (h.push { cls := .type "dict", data := .dict #[] }) := by
  have kp : Keep [] h (h.push { cls := .type "dict", data := .dict #[] }) := .of fun _ _ e => Heap.get?_push_of_some _ e
  have ks : ∀ a, a ∉ ψ → (∃ o, h.get? a = some o) → a ∉ (h.objs.size :: ψ) ∧ a ∉ ([] : List Addr) := fun a n ⟨o, e⟩ => ⟨fun m => by
    rcases List.mem_cons.mp m with rfl | m
    · exact absurd (Heap.lt_size e) (Nat.lt_irrefl _)
    · exact n m, fun m => nomatch m⟩
  have ha : h.objs.size ∉ φ := fun m => S.fresh (S.sub _ m)
  refine ⟨fun b o e => Heap.get?_push_of_some _ (S.base b o e), fun b hb => ?_, fun b hb => ?_, fun b hb => ?_, ?_, by simp [S.len], fun i b ys e q => ?_⟩
  · rcases List.mem_cons.mp hb with rfl | hb
    · cases q : h₀.get? h.objs.size with
      | none => rfl
      | some o => exact absurd (Heap.lt_size (S.base _ _ q)) (Nat.lt_irrefl _)
    · exact S.off b hb
  · rcases List.mem_cons.mp hb with rfl | hb
    · exact ⟨_, Heap.get?_push_size _ rfl⟩
    · obtain ⟨o, e⟩ := S.live b hb; exact ⟨o, Heap.get?_push_of_some _ e⟩
  · rcases List.mem_append.mp hb with hb | hb
    · exact .tail _ (S.sub b hb)
    · rw [List.mem_singleton.mp hb]; exact .head _
  · exact List.nodup_append.mpr ⟨S.nd, by simp, fun x hx y hy => by rw [List.mem_singleton.mp hy]; exact fun z => ha (z ▸ hx)⟩
  · by_cases hi : i < φ.length
    · rw [List.getElem?_append_left hi] at e
      rw [List.getElem?_append_left (S.len ▸ hi)] at q
      exact (S.obj i b ys e q).keep (fun o e => Heap.get?_push_of_some _ e) kp ks
    · rw [List.getElem?_append_right (Nat.le_of_not_lt hi)] at e
      rw [List.getElem?_append_right (S.len ▸ Nat.le_of_not_lt hi)] at q
      have e0 : i - φ.length = 0 := by
        cases hq : i - φ.length with
        | zero => rfl
        | succ n => rw [hq] at e; cases e
      rw [e0] at e
      rw [← S.len, e0] at q
      cases e; cases q
      exact ⟨[], hs, fun prog w => Heap.DictOf.new h, rfl⟩
theorem Loc.alloc (S : St h₀ ψ φ μ h) (X : Loc C V ψ φ ρ h) (o : Obj) : Loc C V (h.objs.size :: ψ) (φ ++ [h.objs.size]) ρ (h.push o) := by
  obtain ⟨m, l⟩ := X
  refine ⟨m, l.move (κ := []) (.of fun _ _ e => Heap.get?_push_of_some _ e) (fun _ _ m => nomatch m) (fun a ha => ⟨.tail _ (l.own a ha).1, fun q => ?_⟩) fun mv v e3 => ?_⟩
  · rcases List.mem_append.mp q with q | q
    · exact (l.own a ha).2 q
    · rw [List.mem_singleton.mp q] at ha
      exact S.fresh (l.own _ ha).1
  · cases mv with
    | d y => exact VR.keep (κ := []) (.of fun _ _ e => Heap.get?_push_of_some _ e) (fun a n ⟨o, e⟩ => ⟨fun m => by
        rcases List.mem_cons.mp m with rfl | m
        · exact absurd (Heap.lt_size e) (Nat.lt_irrefl _)
        · exact n m, fun m => nomatch m⟩) e3
    | r j =>
      obtain ⟨a, rfl, ha⟩ := e3
      exact ⟨a, rfl, by rw [List.getElem?_append_left (List.getElem?_eq_some_iff.mp ha).1]; exact ha⟩
end

theorem notComp_swaps {v t : Expr} {n : Nat} {env : Env} (h : notComp v = true) : swapsWith v (some t) n env = pure false := by
  cases v <;> first | rfl | cases h
end Mini

namespace Mini
open PySem PySem.Spec PySem.Calls PyProof.Rows
variable {prog : Program} {w : World}

theorem sub_lift {ψ : List Addr} {L : Addr} (h : L ∈ ψ) : ∀ a ∈ [L], a ∈ ψ := fun _ m => List.mem_singleton.mp m ▸ h
theorem Keep.inφ {φ own : List Addr} {h h' : Heap} (k : Keep φ h h') : Keep (own ++ φ) h h' := k.more fun _ m => List.mem_append_right _ m
theorem Keep.inOwn {φ own : List Addr} {h h' : Heap} (k : Keep own h h') : Keep (own ++ φ) h h' := k.more fun _ m => List.mem_append_left _ m
theorem Keep.toL {φ own : List Addr} {h h' h'' : Heap} (k : Keep φ h h') (k' : Keep own h' h'') : Keep (own ++ φ) h h'' := k.inφ.trans k'.inOwn

/-- the loop's iterator is let go -/
theorem St.drop {h₀ h h' : Heap} {ψ φ : List Addr} {μ : Mu} {I : Addr} (S : St h₀ ψ φ μ h) (hI : I ∉ φ) (hp : I ∈ ψ) (k : Keep [I] h h') : St h₀ (ψ.filter (· ≠ I)) φ μ h' := by
  have ks : ∀ a, a ∉ ψ → (∃ o, h.get? a = some o) → a ∉ ψ.filter (· ≠ I) ∧ a ∉ [I] := fun a n _ => ⟨fun m => n (List.mem_filter.mp m).1, fun m => n (List.mem_singleton.mp m ▸ hp)⟩
  refine ⟨fun b o e => k b o (S.base b o e) fun m => ?_, fun a m => S.off a (List.mem_filter.mp m).1, fun a m => ?_, fun a m => ?_, S.nd, S.len, fun i a xs e q => ?_⟩
  · rw [List.mem_singleton.mp m, S.off I hp] at e; cases e
  · obtain ⟨m1, m2⟩ := List.mem_filter.mp m
    obtain ⟨o, e⟩ := S.live a m1
    exact ⟨o, k a o e fun q => by simp [List.mem_singleton.mp q] at m2⟩
  · exact List.mem_filter.mpr ⟨S.sub a m, by simpa using fun e : a = I => hI (e ▸ m)⟩
  · exact (S.obj i a xs e q).keep (fun o ho => k a o ho fun m => hI (List.mem_singleton.mp m ▸ List.mem_of_getElem? e)) k ks
theorem Loc.drop {C : MC} {V : FV} {ψ φ : List Addr} {ρ : Rho} {h h' : Heap} {I : Addr} (X : Loc C V ψ φ ρ h) (hI : ∀ a ∈ V.own, a ≠ I) (hp : I ∈ ψ) (k : Keep [I] h h') : Loc C V (ψ.filter (· ≠ I)) φ ρ h' := by
  obtain ⟨m, l⟩ := X
  have ks : ∀ a, a ∉ ψ → (∃ o, h.get? a = some o) → a ∉ ψ.filter (· ≠ I) ∧ a ∉ [I] := fun a n _ => ⟨fun m => n (List.mem_filter.mp m).1, fun m => n (List.mem_singleton.mp m ▸ hp)⟩
  refine ⟨m, l.move k (fun a ha q => hI a ha (List.mem_singleton.mp q)) (fun a ha => ⟨List.mem_filter.mpr ⟨(l.own a ha).1, by simpa using hI a ha⟩, (l.own a ha).2⟩) fun mv v h3 => ?_⟩
  cases mv with
  | d y => exact VR.keep k ks h3
  | r j => exact h3
/-- a new object that is no list of the run's -/
theorem St.hold {h₀ h : Heap} {ψ φ : List Addr} {μ : Mu} (S : St h₀ ψ φ μ h) (o : Obj) (hf : o.isFreed = false) : St h₀ (h.objs.size :: ψ) φ μ (h.push o) := by
  have ks : ∀ a, a ∉ ψ → (∃ o, h.get? a = some o) → a ∉ (h.objs.size :: ψ) ∧ a ∉ ([] : List Addr) := fun a n ⟨o, e⟩ => ⟨fun m => by
    rcases List.mem_cons.mp m with rfl | m
    · exact absurd (Heap.lt_size e) (Nat.lt_irrefl _)
    · exact n m, fun m => nomatch m⟩
  refine ⟨fun b o e => Heap.get?_push_of_some _ (S.base b o e), fun b hb => ?_, fun b hb => ?_, fun b hb => .tail _ (S.sub b hb), S.nd, S.len, fun i a xs e q => ?_⟩
  · rcases List.mem_cons.mp hb with rfl | hb
    · cases q : h₀.get? h.objs.size with
      | none => rfl
      | some o => exact absurd (Heap.lt_size (S.base _ _ q)) (Nat.lt_irrefl _)
    · exact S.off b hb
  · rcases List.mem_cons.mp hb with rfl | hb
    · exact ⟨_, Heap.get?_push_size _ hf⟩
    · obtain ⟨o, e⟩ := S.live b hb; exact ⟨o, Heap.get?_push_of_some _ e⟩
  · exact (S.obj i a xs e q).keep (κ := []) (fun o ho => Heap.get?_push_of_some _ ho) (.of fun _ _ e => Heap.get?_push_of_some _ e) ks
theorem Loc.hold {C : MC} {V : FV} {ψ φ : List Addr} {ρ : Rho} {h : Heap} (X : Loc C V ψ φ ρ h) (o : Obj) : Loc C V (h.objs.size :: ψ) φ ρ (h.push o) := by
  obtain ⟨m, l⟩ := X
  refine ⟨m, l.move (κ := []) (.of fun _ _ e => Heap.get?_push_of_some _ e) (fun _ _ m => nomatch m) (fun a ha => ⟨.tail _ (l.own a ha).1, (l.own a ha).2⟩) fun mv v e3 => ?_⟩
  cases mv with
  | d y => exact VR.keep (κ := []) (.of fun _ _ e => Heap.get?_push_of_some _ e) (fun a n ⟨o, e⟩ => ⟨fun m => by
      rcases List.mem_cons.mp m with rfl | m
      · exact absurd (Heap.lt_size e) (Nat.lt_irrefl _)
      · exact n m, fun m => nomatch m⟩) e3
  | r j => exact e3
section loops
variable {X : Cx prog w}
theorem mem_ext {ψ φ ψ' φ' : List Addr} {h : Heap} (x : Ext ψ φ ψ' φ' h) {I : Addr} (hI : I ∉ φ) (hl : ∃ o, h.get? I = some o) : I ∉ φ' := fun m => by
  obtain ⟨e, rfl, he⟩ := x.app
  rcases List.mem_append.mp m with m | m
  · exact hI m
  · obtain ⟨o, ho⟩ := hl; rw [he I m] at ho; cases ho

/-- for x in range(e) -/
theorem for_sound {x : Str} {px pr rp pos : Pos} {e : Expr} {body : List Stmt} {i : Nat} {se : Rho → Mu → Option (MV × Mu)} {b : Rho → Mu → Option (Out × Rho × Mu)} (hx : X.C.loc i x = true) (hg : X.C.glob "range" = true) (hst : notStar e = true)
    (he : SE X e se) (hb : SSt X (execs body) b) :
    SSt X (exec (.For (.Name x px) (.Call (.Name "range" pr) [e] [] rp) body [] pos)) fun ρ μ => (se ρ μ).bind fun p => match p.1 with | .d (.int k) => if 0 ≤ k ∧ k < 4611686018427387904 then forF i b k.toNat 0 ρ p.2 else none | _ => none := by
  intro ρ μ q h A s ψ φ V E Q hR S hL k
  obtain ⟨p, hp, h⟩ := Option.bind_eq_some_iff.mp h
  split at h
  · rename_i N hN
    split at h
    · rename_i hlt
      refine wpAny_For ?_
      refine wpAny_Call_NameR (ld_bi (v := .type "range") hL S.base hg (by simp [builtinsUsed]) ?_)
      rw [star_cons hst, back_cons]
      refine PySem.callWith_type rfl (evalArgs_plain (spliced_cons (he ρ μ p hp A s ψ φ V E _ hR S hL fun v h₁ tk₁ hv S₁ k₁ => spliced_nil ?_)))
      rw [hN] at hv
      obtain ⟨t, rfl⟩ := hv
      refine call_range_1 (wpAny_pyIter_range (IsRange.new ..) (small_one (by decide) (by decide) (by omega) hlt.2) ?_)
      have hsz : Builtin.Range.rangeSize 0 N 1 = (N.toNat : Int) := by rw [rangeSize_one]; split <;> omega
      rw [hsz]
      have S₂ := (S₁.push ({ cls := .type "range", data := .fields #[.int 0 tk₁, .int N t, .int 1 (tk₁ + 1)] } : Obj)).hold ({ cls := .type "range_iterator", data := .fields #[rawInt 0, rawInt (N.toNat : Int), rawInt 1] } : Obj) rfl
      have hL₂ := ((hL.kept k₁ S.sub).keptBy (κ := []) (Keep.of fun _ _ e => Heap.get?_push_of_some ({ cls := .type "range", data := .fields #[.int 0 tk₁, .int N t, .int 1 (tk₁ + 1)] } : Obj) e) (fun _ m => nomatch m) (fun _ _ m => nomatch m)).hold ({ cls := .type "range_iterator", data := .fields #[rawInt 0, rawInt (N.toNat : Int), rawInt 1] } : Obj)
      have k₂ : Keep φ s.heap ((h₁.push ({ cls := .type "range", data := .fields #[.int 0 tk₁, .int N t, .int 1 (tk₁ + 1)] } : Obj)).push ({ cls := .type "range_iterator", data := .fields #[rawInt 0, rawInt (N.toNat : Int), rawInt 1] } : Obj)) := (k₁.push _).push _
      have hit : IsRangeIter ((h₁.push ({ cls := .type "range", data := .fields #[.int 0 tk₁, .int N t, .int 1 (tk₁ + 1)] } : Obj)).push ({ cls := .type "range_iterator", data := .fields #[rawInt 0, rawInt (N.toNat : Int), rawInt 1] } : Obj)) (h₁.push ({ cls := .type "range", data := .fields #[.int 0 tk₁, .int N t, .int 1 (tk₁ + 1)] } : Obj)).objs.size 0 (N.toNat : Int) 1 := Heap.get?_push_size _ rfl
      have hIs : s.heap.get? (h₁.push ({ cls := .type "range", data := .fields #[.int 0 tk₁, .int N t, .int 1 (tk₁ + 1)] } : Obj)).objs.size = none := by
        cases hq : s.heap.get? (h₁.push ({ cls := .type "range", data := .fields #[.int 0 tk₁, .int N t, .int 1 (tk₁ + 1)] } : Obj)).objs.size with
        | none => rfl
        | some o =>
          exfalso
          have hn : (h₁.push ({ cls := .type "range", data := .fields #[.int 0 tk₁, .int N t, .int 1 (tk₁ + 1)] } : Obj)).objs.size ∉ φ := fun m => (S₁.push _).fresh (S.sub _ m)
          exact absurd (Heap.lt_size ((k₁.push _) _ _ hq hn)) (Nat.lt_irrefl _)
      have hIφ : (h₁.push ({ cls := .type "range", data := .fields #[.int 0 tk₁, .int N t, .int 1 (tk₁ + 1)] } : Obj)).objs.size ∉ φ := fun m => (S₁.push _).fresh (S.sub _ m)
      generalize hI : (h₁.push ({ cls := .type "range", data := .fields #[.int 0 tk₁, .int N t, .int 1 (tk₁ + 1)] } : Obj)).objs.size = I at *
      show codeAny (model prog w) A (.forLoop (.Name x px) (.ref I) body [] _) _ _
      refine codeAny_forLoop (fun r s' => ∃ kk ρ₁ μ₁ ψ₁ φ₁ h₁ tk₁, s' = { s with heap := h₁, toks := tk₁ } ∧ forF i b r kk ρ₁ μ₁ = some q ∧ I ∈ ψ₁ ∧ I ∉ φ₁ ∧ IsRangeIter h₁ I kk (r : Int) 1 ∧ Ext ψ φ ψ₁ φ₁ s.heap ∧ St X.h₀ ψ₁ φ₁ μ₁ h₁ ∧ Loc X.C V ψ₁ φ₁ ρ₁ h₁ ∧ Keep (V.own ++ φ) s.heap h₁) ?_ N.toNat
        ⟨0, ρ, p.2, I :: ψ, φ, _, _, rfl, h, List.mem_cons_self, hIφ, hit, ⟨fun _ m => List.mem_cons_of_mem _ m, fun a m => by
          rcases List.mem_cons.mp m with rfl | m
          · exact .inr hIs
          · exact .inl m, [], by simp, fun _ m => nomatch m⟩, S₂, hL₂, k₂.inφ⟩
      rintro r s' ⟨kk, ρ₁, μ₁, ψ₁, φ₁, h₁, tk₁, rfl, hw, hI1, hI2, hit₁, x₁, S₁, hL₁, k₁⟩
      have hLI : ∀ a ∈ V.own, a ≠ I := fun a ha e => by
        subst e
        obtain ⟨o, ho⟩ := S.live a (hL.inψ a ha)
        rw [hIs] at ho; cases ho
      cases r with
      | zero =>
        refine wpAny_pyNext_range_end hR.handled hit₁ (by simp) fun h₂ he₂ => ?_
        cases hw
        have kI : Keep [I] h₁ h₂ := fun b o e n => he₂ b o (fun q => n (q ▸ List.mem_singleton.mpr rfl)) e
        refine wpAny_execs_nil (k .next (ψ₁.filter (· ≠ I)) φ₁ h₂ tk₁ rfl ⟨fun a m => ?_, fun a m => x₁.new a (List.mem_filter.mp m).1, x₁.app⟩ (S₁.drop hI2 hI1 kI) (hL₁.drop hLI hI1 kI) fun b o e n => ?_)
        · refine List.mem_filter.mpr ⟨x₁.sub a m, ?_⟩
          have : a ≠ I := fun e => by
            subst e
            obtain ⟨o, ho⟩ := S.live _ m
            rw [hIs] at ho; cases ho
          simpa using this
        · refine kI b o (k₁ b o e n) fun m => ?_
          rw [List.mem_singleton.mp m, hIs] at e; cases e
      | succ r =>
        simp only [forF, Option.bind_eq_some_iff] at hw
        obtain ⟨u, hu, hw⟩ := hw
        refine wpAny_pyNext_range_item hit₁ (by omega) fun h₂ hit₂ hs₂ => ?_
        have kI : Keep [I] h₁ h₂ := fun b o e n => (hs₂.2 b (fun q => n (q ▸ List.mem_singleton.mpr rfl))).trans e
        have S₂ := S₁.other hI1 hI2 ⟨_, hit₂⟩ hs₂
        have hL₂ := hL₁.keptBy kI (sub_lift hI1) (fun a ha m => hLI a ha (List.mem_singleton.mp m))
        refine wpAny_assign_Name (store_sound (mv := .d (.int kk)) (s := { s with heap := h₂, toks := tk₁ + 1 }) S₂ hL₂ hx ⟨_, rfl⟩ fun h₃ tk₃ S₃ hL₃ k₃ => ?_)
        refine hb _ _ u hu A _ ψ₁ φ₁ V _ _ hR S₃ hL₃ fun fl ψ₄ φ₄ h₄ tk₄ hfl x₄ S₄ hL₄ k₄ => ?_
        have k2 : Keep (V.own ++ φ) s.heap h₂ := fun b o e n => kI b o (k₁ b o e n) fun m => by rw [List.mem_singleton.mp m, hIs] at e; cases e
        have k3 : Keep (V.own ++ φ) s.heap h₃ := k2.trans k₃.inOwn
        have x14 : Ext ψ φ ψ₄ φ₄ s.heap := x₁.trans x₄ (live_of k3 S₃ (fun a m => x₁.sub a (S.sub a m)) hL₃.inψ)
        have k14 : Keep (V.own ++ φ) s.heap h₄ := k3.ext x₁ k₄
        have hit3 : IsRangeIter h₃ I (kk + 1) ((r + 1 : Nat) - 1 : Int) 1 := k₃ _ _ hit₂ fun m => hLI _ m rfl
        have hit4 : IsRangeIter h₄ I (kk + 1) ((r + 1 : Nat) - 1 : Int) 1 := k₄ _ _ hit3 fun m => by
          rcases List.mem_append.mp m with m | m
          · exact hLI _ m rfl
          · exact hI2 m
        have er : (((r + 1 : Nat) : Int) - 1) = (r : Int) := by omega
        rw [er] at hit4
        cases hro : u.1 with
        | next =>
          rw [hro] at hw hfl
          cases hfl
          exact ⟨r, Nat.lt_succ_self r, kk + 1, u.2.1, u.2.2, ψ₄, φ₄, h₄, tk₄, rfl, hw, x₄.sub I hI1, mem_ext x₄ hI2 ⟨_, hit3⟩, hit4, x14, S₄, hL₄, k14⟩
        | ret v =>
          rw [hro] at hw hfl
          obtain ⟨z, rfl, hz⟩ := hfl
          cases hw
          exact k (.ret z) ψ₄ φ₄ h₄ tk₄ ⟨z, rfl, hz⟩ x14 S₄ hL₄ k14
    · cases h
  · cases h
end loops
end Mini

namespace Mini
open PySem PySem.Spec PySem.Calls PyProof.Rows
variable {prog : Program} {w : World}

section
variable {h₀ h h' : Heap} {ψ ψ' φ : List Addr} {μ : Mu}
theorem St.shrink (S : St h₀ ψ' φ μ h) (sub : ∀ a ∈ ψ, a ∈ ψ') (hφ : ∀ a ∈ φ, a ∈ ψ) : St h₀ ψ φ μ h :=
  have ks : ∀ a, a ∉ ψ' → (∃ o, h.get? a = some o) → a ∉ ψ ∧ a ∉ ([] : List Addr) := fun a n _ => ⟨fun m => n (sub a m), fun m => nomatch m⟩
  ⟨S.base, fun a m => S.off a (sub a m), fun a m => S.live a (sub a m), hφ, S.nd, S.len, fun i a xs e q => (S.obj i a xs e q).keep (κ := []) (fun _ e => e) (Keep.refl _ _) ks⟩
theorem MVR.shrink (sub : ∀ a ∈ ψ, a ∈ ψ') {mv : MV} {v : Value} (e : MVR ψ' φ h mv v) : MVR ψ φ h mv v := by
  cases mv with
  | d y => exact VR.keep (κ := []) (Keep.refl _ _) (fun a n _ => ⟨fun m => n (sub a m), fun m => nomatch m⟩) e
  | r j => exact e
theorem Loc.shrink {C : MC} {V : FV} {ρ : Rho} (X : Loc C V ψ' φ ρ h) (sub : ∀ a ∈ ψ, a ∈ ψ') (ho : ∀ a ∈ V.own, a ∈ ψ) : Loc C V ψ φ ρ h := by
  obtain ⟨m, l⟩ := X
  exact ⟨m, l.move (κ := []) (Keep.refl _ _) (fun _ _ m => nomatch m) (fun a ha => ⟨ho a ha, (l.own a ha).2⟩) fun _ _ e => e.shrink sub⟩
end

/-- what a comprehension's scope must be -/
structure CompOK (C C' : MC) (scope : Scope) (x : Str) (caps : List Nat) : Prop where
  fns : C'.fns = C.fns
  scp : C'.scope = relabelS scope C.scope
  kind : scope.kind = .function
  names : ∃ cn, C'.names = x :: cn ∧ cn.length = caps.length ∧ (∀ (j : Nat) z, cn[j]? = some z → ∃ i, caps[j]? = some i ∧ C.names[i]? = some z ∧ C.scope.names.lookup z = some .cell ∧ C'.scope.names.lookup z = some .cell)
  nd : C'.names.Nodup
  x : scope.names.lookup x = some .local
  all : ∀ z ∈ scope.names, z.2 ≠ .cell ∧ (z.2 = .local → scope.names.lookup z.1 = some .local) ∧ (z.2 = .free → C.scope.names.lookup z.1 = some .cell)

theorem relabel_eq {C : MC} {V : FV} {ψ φ : List Addr} {ρ : Rho} {h : Heap} {m : Str → Option Value} (l : LocS C V ψ φ ρ h m) (scope : Scope) : relabel scope V.env = relabelS scope C.scope := by
  unfold relabel relabelS
  congr 1
  apply List.map_congr_left
  rintro ⟨n, k⟩ _
  simp only [l.kind, Env.kindOf, l.kinds]
  simp

theorem closure_pure {C : MC} {V : FV} {ψ φ : List Addr} {ρ : Rho} {h : Heap} {m : Str → Option Value} (l : LocS C V ψ φ ρ h m) {scope : Scope} (hf : ∀ z ∈ scope.names, z.2 = .free → C.scope.names.lookup z.1 = some .cell) :
    ∃ cl, closureFor scope V.env = pure cl ∧ (∀ z c, cl.lookup z = some c → V.env.cells.lookup z = some c) ∧ (∀ z ∈ scope.names, z.2 = .free → ∃ c, cl.lookup z.1 = some c) := by
  have key : ∀ (ns : List (Str × NameKind)) (acc : List (Str × Addr)), (∀ z ∈ ns, z.2 = .free → C.scope.names.lookup z.1 = some .cell) → (∀ z c, acc.lookup z = some c → V.env.cells.lookup z = some c) →
      ∃ cl, (forIn ns acc fun (x : Str × NameKind) r => (if x.2 == .free then (do let c ← cellOf V.env x.1; pure (.yield ((x.1, c) :: r))) else pure (.yield r) : Sem (ForInStep (List (Str × Addr))))) = pure cl ∧
        (∀ z c, cl.lookup z = some c → V.env.cells.lookup z = some c) ∧ (∀ z ∈ ns, z.2 = .free → ∃ c, cl.lookup z.1 = some c) ∧ (∀ z c, acc.lookup z = some c → ∃ c', cl.lookup z = some c') := by
    intro ns
    induction ns with
    | nil => intro acc _ ha; exact ⟨acc, rfl, ha, (fun _ m => nomatch m), fun z c e => ⟨c, e⟩⟩
    | cons z ns ih =>
      intro acc hn ha
      obtain ⟨n, kd⟩ := z
      by_cases hk : kd = .free
      · subst hk
        obtain ⟨c, v₀, hc, _⟩ := l.cells n (hn _ (.head _) rfl)
        obtain ⟨cl, e, h1, h2, h3⟩ := ih ((n, c) :: acc) (fun z m => hn z (.tail _ m)) (fun z c' e => by
          rw [List.lookup_cons] at e
          split at e
          · rename_i hb; cases e; rw [beq_iff_eq.mp hb]; exact hc
          · exact ha z c' e)
        refine ⟨cl, ?_, h1, fun z m hz => ?_, fun z c' e => ?_⟩
        · rw [List.forIn_cons]
          have : cellOf V.env n = pure c := by unfold cellOf; rw [hc]
          simp only [this, beq_self_eq_true, if_true, pure_bind]
          exact e
        · rcases List.mem_cons.mp m with rfl | m
          · exact h3 n c (by rw [List.lookup_cons]; simp)
          · exact h2 z m hz
        · by_cases hzn : z = n
          · subst hzn; exact h3 z c (by rw [List.lookup_cons]; simp)
          · refine h3 z c' ?_
            rw [List.lookup_cons]
            have : (z == n) = false := by simpa using hzn
            rw [this]; exact e
      · obtain ⟨cl, e, h1, h2, h3⟩ := ih acc (fun z m => hn z (.tail _ m)) ha
        refine ⟨cl, ?_, h1, fun z m hz => ?_, h3⟩
        · rw [List.forIn_cons]
          have : (kd == NameKind.free) = false := by simpa using hk
          simp only [this, Bool.false_eq_true, if_false, pure_bind]
          exact e
        · rcases List.mem_cons.mp m with rfl | m
          · exact absurd hz hk
          · exact h2 z m hz
  obtain ⟨cl, e, h1, h2, _⟩ := key scope.names [] hf (fun z c e => by cases e)
  refine ⟨cl, ?_, h1, h2⟩
  unfold closureFor
  rw [← bind_pure (forIn scope.names _ _)] at e
  exact e

def Cx.to (X : Cx prog w) (C' : MC) (hf : C'.fns = X.C.fns) (hk : C'.scope.kind = .function) (nd : C'.names.Nodup) : Cx prog w := ⟨X.h₀, X.mg, X.mb, X.fs, X.n, C', X.G, hf.trans X.hf, hk, nd⟩

theorem relabelS_cell {scope outer : Scope} {z : Str} (hc : ∀ y ∈ scope.names, y.2 ≠ .cell) (h : (relabelS scope outer).names.lookup z = some .cell) : ∃ k : NameKind, (z, k) ∈ scope.names ∧ k = .free := by
  have hm := mem_of_lookup h
  obtain ⟨⟨n, k⟩, hm1, hm2⟩ := List.mem_map.mp hm
  simp only at hm2
  split at hm2
  · rename_i hb
    cases hm2
    simp only [Bool.and_eq_true, beq_iff_eq] at hb
    exact ⟨k, hm1, hb.1⟩
  · cases hm2
    exact absurd rfl (hc _ hm1)

theorem LocS.comp {C C' : MC} {V : FV} {ψ φ : List Addr} {ρ : Rho} {h : Heap} {m m' : Str → Option Value} {scope : Scope} {x : Str} {caps : List Nat} {cl : List (Str × Addr)} {D : Addr} {v : Value} {mv : MV}
    (l : LocS C V ψ φ ρ h m) (K : CompOK C C' scope x caps) (h1 : ∀ z c, cl.lookup z = some c → V.env.cells.lookup z = some c) (h2 : ∀ z ∈ scope.names, z.2 = .free → ∃ c, cl.lookup z.1 = some c)
    (hn : h.Ns D m') (hx : m' x = some v) (hD : D ∈ ψ ∧ D ∉ φ) (hDo : D ∉ V.own) (hv : MVR ψ φ h mv v) :
    LocS C' ⟨compEnvC scope cl D V.env, D :: V.own⟩ ψ φ (some mv :: caps.map fun j => ρ[j]?.join) h m' := by
  have hnames : (relabel scope V.env).names = C'.scope.names := by rw [relabel_eq l, K.scp]
  have cellAt : ∀ z, C'.scope.names.lookup z = some .cell → ∃ c, cl.lookup z = some c := fun z hz => by
    rw [K.scp] at hz
    obtain ⟨k, hm, rfl⟩ := relabelS_cell (fun y hy => (K.all y hy).1) hz
    exact h2 _ hm rfl
  have outer : ∀ z, C'.scope.names.lookup z = some .cell → C.scope.names.lookup z = some .cell := fun z hz => by
    rw [K.scp] at hz
    obtain ⟨k, hm, rfl⟩ := relabelS_cell (fun y hy => (K.all y hy).1) hz
    exact (K.all _ hm).2.2 rfl
  refine ⟨hn, ?_, hnames, l.globals, l.builtins, .head _, fun a ha => ?_, fun z hz => ?_, fun y z c e1 e2 => l.inj y z c (h1 _ _ e1) (h1 _ _ e2), fun i mv' e => ?_⟩
  · show (relabel scope V.env).kind = _
    rw [relabel_eq l]; exact K.kind
  · rcases List.mem_cons.mp ha with rfl | ha
    · exact hD
    · exact l.own a ha
  · obtain ⟨c, hc⟩ := cellAt z hz
    obtain ⟨c', v₀, e1, e2, e3, e4⟩ := l.cells z (outer z hz)
    rw [h1 z c hc] at e1; cases e1
    exact ⟨c, v₀, hc, .tail _ e2, fun e => hDo ((show c = D from e) ▸ e2), e4⟩
  · obtain ⟨cn, en, el, ec⟩ := K.names
    cases i with
    | zero =>
      cases e
      exact ⟨x, v, by rw [en]; rfl, .inl ⟨by rw [← hnames]; exact lookup_relabel_local K.x, hx⟩, hv⟩
    | succ j =>
      rw [List.getElem?_cons_succ, List.getElem?_map] at e
      obtain ⟨i', e1, e2⟩ := Option.map_eq_some_iff.mp e
      have hj : j < cn.length := by rw [el]; exact (List.getElem?_eq_some_iff.mp e1).1
      obtain ⟨i₂, q1, q2, q3, q4⟩ := ec j cn[j] (List.getElem?_eq_getElem hj)
      rw [e1] at q1; cases q1
      have e3 : ρ[i']? = some (some mv') := by
        cases q : ρ[i']? with
        | none => rw [q] at e2; cases e2
        | some o => rw [q] at e2; cases o with
          | none => cases e2
          | some z => cases e2; rfl
      obtain ⟨z, u, r1, r2, r3⟩ := l.val i' mv' e3
      rw [q2] at r1; cases r1
      refine ⟨cn[j], u, by rw [en, List.getElem?_cons_succ, List.getElem?_eq_getElem hj], .inr ⟨q4, ?_⟩, r3⟩
      rcases r2 with ⟨r2, _⟩ | ⟨_, c, r4, r5⟩
      · rw [q3] at r2; cases r2
      · obtain ⟨c', hc'⟩ := cellAt _ q4
        rw [h1 _ _ hc'] at r4; cases r4
        exact ⟨_, hc', r5⟩

theorem fresh_none {φ : List Addr} {h h' : Heap} (k : Keep φ h h') (hn : h'.objs.size ∉ φ) : h.get? h'.objs.size = none := by
  cases hq : h.get? h'.objs.size with
  | none => rfl
  | some o => exact absurd (Heap.lt_size (k _ _ hq hn)) (Nat.lt_irrefl _)
theorem Keep.but {a : Addr} {h h' : Heap} (hs : Heap.SameBut a h h') : Keep [a] h h' := fun b o e n => (hs.2 b (fun q => n (q ▸ List.mem_singleton.mpr rfl))).trans e

/-- what an iterator will still give -/
def ItR (ψ : List Addr) (h : Heap) (I : Addr) (rest : List PyData) : Prop :=
  (∃ k : Nat, IsRangeIter h I (k : Int) (rest.length : Int) 1 ∧ rest = (List.range' k rest.length).map fun (n : Nat) => PyData.int n) ∨
  (∃ l vs xs kk, h.IsListIter I l kk ∧ l ≠ I ∧ h.PlainList l vs ∧ l ∉ ψ ∧ VRs ψ h xs vs.toList ∧ xs.drop kk = rest)
theorem ItR.keep {κ ψ : List Addr} {h h' : Heap} {I : Addr} {rest : List PyData} (k : Keep κ h h') (hI : I ∉ κ) (s : ∀ a ∈ κ, a ∈ ψ) : ItR ψ h I rest → ItR ψ h' I rest
  | .inl ⟨n, hi, e⟩ => .inl ⟨n, k _ _ hi hI, e⟩
  | .inr ⟨l, vs, xs, kk, ⟨o, ho, hr⟩, hn, hp, hl, hv, e⟩ => .inr ⟨l, vs, xs, kk, ⟨o, k _ _ ho hI, hr⟩, hn, hp.at fun o e => k _ _ e fun m => hl (s _ m), hl, hv.kept k s, e⟩
theorem ItR.more {ψ ψ' : List Addr} {h h' : Heap} {I : Addr} {rest : List PyData} (k : ∀ b o, h.get? b = some o → h'.get? b = some o) (s : ∀ a, a ∉ ψ → (∃ o, h.get? a = some o) → a ∉ ψ') : ItR ψ h I rest → ItR ψ' h' I rest
  | .inl ⟨n, hi, e⟩ => .inl ⟨n, k _ _ hi, e⟩
  | .inr ⟨l, vs, xs, kk, ⟨o, ho, hr⟩, hn, hp, hl, hv, e⟩ => .inr ⟨l, vs, xs, kk, ⟨o, k _ _ ho, hr⟩, hn, hp.at fun o e => k _ _ e, s l hl (let ⟨_, e⟩ := hp; ⟨_, e⟩), hv.keep (κ := []) (.of k) (fun a n o => ⟨s a n o, fun m => nomatch m⟩), e⟩
section
variable {A : Around} {s : Shared} {ψ : List Addr} {I : Addr} {E : Value → Shared → Prop}
theorem ItR.next {x : PyData} {rest : List PyData} {Q : Option Value → Shared → Prop} (hI : I ∈ ψ) (h : ItR ψ s.heap I (x :: rest))
    (k : ∀ v h' tk, VR ψ h' x v → ItR ψ h' I rest → Heap.SameBut I s.heap h' → (∃ o, h'.get? I = some o) → Q (some v) { s with heap := h', toks := tk }) : wpAny (model prog w) A (pyNext (.ref I)) Q E s := by
  rcases h with ⟨n, hi, e⟩ | ⟨l, vs, xs, kk, hi, hn, hp, hl, hv, e⟩
  · rw [List.length_cons, List.range'_succ, List.map_cons] at e
    injection e with e1 e2
    refine wpAny_pyNext_range_item hi (by simp) fun h' hi' hs => ?_
    refine k _ h' _ (by rw [e1]; exact ⟨_, rfl⟩) (.inl ⟨n + 1, ?_, e2⟩) hs ⟨_, hi'⟩
    have h1 : IsRangeIter h' I ((n : Int) + 1) (((rest.length + 1 : Nat) : Int) - 1) 1 := hi'
    rw [show (((rest.length + 1 : Nat) : Int) - 1) = (rest.length : Int) from by omega] at h1
    exact h1
  · have hxk : xs[kk]? = some x := by
      have : (xs.drop kk)[0]? = some x := by rw [e]; rfl
      rw [List.getElem?_drop] at this; exact this
    have hdr : xs.drop (kk + 1) = rest := by rw [← List.drop_drop, e]; rfl
    obtain ⟨v, hv1, hv2⟩ := hv.get hxk
    rw [Array.getElem?_toList] at hv1
    refine wpAny_pyNext_list_item hi hp.isList hv1 fun h' hi' hs => ?_
    have kI : Keep [I] s.heap h' := Keep.but hs
    exact k v h' s.toks (hv2.kept kI (sub_lift hI)) (.inr ⟨l, vs, xs, kk + 1, hi', hn, hp.at fun o e => kI _ _ e fun m => hn (List.mem_singleton.mp m), hl, hv.kept kI (sub_lift hI), hdr⟩) hs (let ⟨o, e, _⟩ := hi'; ⟨o, e⟩)
theorem ItR.stop {Q : Option Value → Shared → Prop} (hA : A.handled = none) (h : ItR ψ s.heap I []) (k : ∀ h', Keep [I] s.heap h' → Q none { s with heap := h' }) : wpAny (model prog w) A (pyNext (.ref I)) Q E s := by
  rcases h with ⟨n, hi, e⟩ | ⟨l, vs, xs, kk, hi, hn, hp, hl, hv, e⟩
  · exact wpAny_pyNext_range_end hA hi (by simp) fun h' he => k h' fun b o e n => he b o (fun q => n (q ▸ List.mem_singleton.mpr rfl)) e
  · have hnone : vs[kk]? = none := by
      have h1 : xs.length ≤ kk := List.drop_eq_nil_iff.mp e
      have h2 := hv.length
      rw [Array.length_toList] at h2
      exact Array.getElem?_eq_none (by omega)
    exact wpAny_pyNext_list_end hA hi hp.isList hnone fun h' he => k h' fun b o e n => he b o (fun q => n (q ▸ List.mem_singleton.mpr rfl)) e
theorem ItR.self {rest : List PyData} {Q : Value → Shared → Prop} (h : ItR ψ s.heap I rest) (k : Q (.ref I) s) : wpAny (model prog w) A (pyIter (.ref I)) Q E s := by
  rcases h with ⟨n, hi, e⟩ | ⟨l, vs, xs, kk, hi, hn, hp, hl, hv, e⟩
  · exact wpAny_pyIter_rangeiter hi k
  · exact wpAny_pyIter_listiter hi k
end

/-- an expression that is gone over -/
def SIt (X : Cx prog w) (e : Expr) (sem : Rho → Mu → Option (List PyData × Mu)) : Prop :=
  ∀ ρ μ p, sem ρ μ = some p → ∀ (A : Around) (s : Shared) (ψ φ : List Addr) (V : FV) (E : Value → Shared → Prop) (Q : Value → Shared → Prop), Room X.n A → St X.h₀ ψ φ μ s.heap → Loc X.C V ψ φ ρ s.heap →
    (∀ I h' tk, St X.h₀ (I :: ψ) φ p.2 h' → Loc X.C V (I :: ψ) φ ρ h' → I ∉ ψ → s.heap.get? I = none → ItR (I :: ψ) h' I p.1 → Keep φ s.heap h' → Q (.ref I) { s with heap := h', toks := tk }) →
    wpAny (model prog w) A (eval e V.env) (fun x s₁ => wpAny (model prog w) A (pyIter x) Q E s₁) E s
/-- a comprehension's tests -/
def STs (X : Cx prog w) (ifs : List Expr) (sem : Rho → Mu → Option (Bool × Mu)) : Prop :=
  ∀ ρ μ p, sem ρ μ = some p → ∀ (A : Around) (s : Shared) (ψ φ : List Addr) (V : FV) (E : Value → Shared → Prop) (Q : Bool → Shared → Prop), Room X.n A → St X.h₀ ψ φ μ s.heap → Loc X.C V ψ φ ρ s.heap →
    (∀ h' tk, St X.h₀ ψ φ p.2 h' → Keep φ s.heap h' → Q p.1 { s with heap := h', toks := tk }) →
    wpAny (model prog w) A (forIn ifs true fun c r => if r = true then do let ok ← isTrue c V.env (eval c V.env); pure (ForInStep.yield ok) else pure (ForInStep.yield r)) Q E s

def itSem (se : Rho → Mu → Option (MV × Mu)) (rng : Bool) : Rho → Mu → Option (List PyData × Mu) := fun ρ μ => (se ρ μ).bind fun p => (itemsD rng p.1).map fun xs => (xs, p.2)

theorem it_range {X : Cx prog w} {e : Expr} {pr rp : Pos} {se : Rho → Mu → Option (MV × Mu)} (hg : X.C.glob "range" = true) (hst : notStar e = true) (he : SE X e se) : SIt X (.Call (.Name "range" pr) [e] [] rp) (itSem se true) := by
  intro ρ μ q h A s ψ φ V E Q hR S hL k
  obtain ⟨p, hp, h⟩ := Option.bind_eq_some_iff.mp h
  obtain ⟨xs, h, rfl⟩ := Option.map_eq_some_iff.mp h
  unfold itemsD at h
  split at h
  · rename_i N _ hN
    split at h
    · rename_i hlt
      cases h
      refine wpAny_Call_NameR (ld_bi (v := .type "range") hL S.base hg (by simp [builtinsUsed]) ?_)
      rw [star_cons hst, back_cons]
      refine PySem.callWith_type rfl (evalArgs_plain (spliced_cons (he ρ μ p hp A s ψ φ V E _ hR S hL fun v h₁ tk₁ hv S₁ k₁ => spliced_nil ?_)))
      rw [hN] at hv
      obtain ⟨t, rfl⟩ := hv
      refine call_range_1 (wpAny_pyIter_range (IsRange.new ..) (small_one (by decide) (by decide) (by omega) (by omega)) ?_)
      have hsz : Builtin.Range.rangeSize 0 N 1 = (N.toNat : Int) := by rw [rangeSize_one]; split <;> omega
      rw [hsz]
      have hL₁ := hL.kept k₁ S.sub
      generalize hR1 : ({ cls := .type "range", data := .fields #[.int 0 tk₁, .int N t, .int 1 (tk₁ + 1)] } : Obj) = oR
      have S₂ := S₁.push oR
      have hL₂ := hL₁.keptBy (κ := []) (Keep.of fun _ _ e => Heap.get?_push_of_some oR e) (fun _ m => nomatch m) (fun _ _ m => nomatch m)
      have k₂ : Keep φ s.heap (h₁.push oR) := k₁.push _
      generalize h₁.push oR = h₂ at *
      generalize hR2 : ({ cls := .type "range_iterator", data := .fields #[rawInt 0, rawInt (N.toNat : Int), rawInt 1] } : Obj) = oI
      have hfI : oI.isFreed = false := by rw [← hR2]; rfl
      have hIψ : h₂.objs.size ∉ ψ := S₂.fresh
      refine k h₂.objs.size (h₂.push oI) _ (S₂.hold oI hfI) (hL₂.hold oI) hIψ (fresh_none k₂ fun m => hIψ (S.sub _ m)) (.inl ⟨0, ?_, ?_⟩) (k₂.push _)
      · rw [List.length_map, List.length_range]
        rw [← hR2]; exact Heap.get?_push_size _ rfl
      · rw [List.length_map, List.length_range, List.range_eq_range']
    · cases h
  · rename_i e1 _; cases e1
  · cases h
theorem it_list {X : Cx prog w} {e : Expr} {se : Rho → Mu → Option (MV × Mu)} (he : SE X e se) : SIt X e (itSem se false) := by
  intro ρ μ q h A s ψ φ V E Q hR S hL k
  obtain ⟨p, hp, h⟩ := Option.bind_eq_some_iff.mp h
  obtain ⟨xs, h, rfl⟩ := Option.map_eq_some_iff.mp h
  unfold itemsD at h
  split at h
  · rename_i e1 _; cases e1
  · rename_i xs' _ hN
    split at h
    · cases h
      refine he ρ μ p hp A s ψ φ V E _ hR S hL fun v h₁ tk₁ hv S₁ k₁ => ?_
      rw [hN] at hv
      obtain ⟨l, vs, rfl, hl, hlψ, hvs⟩ := hv
      refine wpAny_pyIter_list hl.isList ?_
      have hL₁ := hL.kept k₁ S.sub
      generalize hR1 : ({ cls := .type "list_iterator", data := .fields #[.ref l, .int 0 0] } : Obj) = oI
      have hfI : oI.isFreed = false := by rw [← hR1]; rfl
      have hIψ : h₁.objs.size ∉ ψ := S₁.fresh
      have hlI : l ≠ h₁.objs.size := fun e => by
        obtain ⟨o, ho⟩ := hl
        exact absurd (Heap.lt_size ho) (e ▸ Nat.lt_irrefl _)
      refine k h₁.objs.size (h₁.push oI) _ (S₁.hold oI hfI) (hL₁.hold oI) hIψ (fresh_none k₁ fun m => hIψ (S.sub _ m)) (.inr ⟨l, vs, _, 0, ?_, hlI, hl.at fun _ e => Heap.get?_push_of_some _ e, ?_, ?_, rfl⟩) (k₁.push _)
      · rw [← hR1]; exact ⟨_, Heap.get?_push_size _ rfl, rfl, rfl⟩
      · intro m
        rcases List.mem_cons.mp m with e | m
        · exact hlI e
        · exact hlψ m
      · exact hvs.keep (κ := []) (.of fun _ _ e => Heap.get?_push_of_some _ e) fun a n ⟨o, e⟩ => ⟨fun m => by
          rcases List.mem_cons.mp m with rfl | m
          · exact absurd (Heap.lt_size e) (Nat.lt_irrefl _)
          · exact n m, fun m => nomatch m⟩
    · cases h
  · cases h

/-- [elt for x in it if ..] -/
theorem comp_core {X : Cx prog w} {C' : MC} {scope : Scope} {x : Str} {caps : List Nat} {px pos pos' : Pos} {it elt : Expr} {ifs : List Expr} {sit : Rho → Mu → Option (List PyData × Mu)} {tst : Rho → Mu → Option (Bool × Mu)} {sel : Rho → Mu → Option (MV × Mu)}
    (K : CompOK X.C C' scope x caps) (hk' : C'.scope.kind = .function) (hit : SIt X it sit) (hts : STs (X.to C' K.fns hk' K.nd) ifs tst) (hel : SE (X.to C' K.fns hk' K.nd) elt sel)
    {ρ : Rho} {μ : Mu} {p q : List PyData × Mu} (hp : sit ρ μ = some p) (hlen : p.1.length ≤ 16777216) (hq : compF tst sel (caps.map fun j => ρ[j]?.join) p.1 p.2 = some q)
    {A : Around} {s : Shared} {ψ φ : List Addr} {V : FV} {E : Value → Shared → Prop} {use : Option (Value → Sem Unit)} {Q : Value → Shared → Prop} (hR : Room X.n A) (S : St X.h₀ ψ φ μ s.heap) (hL : Loc X.C V ψ φ ρ s.heap)
    (hfold : ∀ v, foldedSetIterable it V.env v = pure v)
    (k : ∀ D Cn h' tk ys m, D ∉ ψ → Cn ∉ ψ → Cn ≠ D → s.heap.get? D = none → s.heap.get? Cn = none → h'.PlainList D ys → VRs (Cn :: D :: ψ) h' q.1 ys.toList → h'.Ns Cn m → St X.h₀ (Cn :: D :: ψ) φ q.2 h' → Loc X.C V (Cn :: D :: ψ) φ ρ h' → Keep φ s.heap h' →
      compPost (model prog w) A E use Q (.ref D) Cn (.ok .next) { s with heap := h', toks := tk }) :
    wpAny (model prog w) A (comprehension (.ListComp elt [⟨.Name x px, it, ifs, 0⟩] scope pos) scope V.env pos' (newList []) false (eval it V.env) use) Q E s := by
  obtain ⟨xsA, μE⟩ := q
  obtain ⟨m₀, l₀⟩ := id hL
  obtain ⟨cl, hclos, hcl1, hcl2⟩ := closure_pure l₀ (scope := scope) fun z hz => (K.all z hz).2.2
  refine wpAny_comprehension_free (use := use) (Q := Q) rfl hfold hclos K.kind (fun z hz => (K.all z hz).2.1) ?_
  refine hit ρ μ p hp A s ψ φ V E _ hR S hL fun I h₃ tk₃ S₃ hL₃ hIψ hIs hI k₃ => ?_
  have hIφ : I ∉ φ := fun m => hIψ (S.sub _ m)
  refine wpAny_newObj_type (wpAny_newFunctionEnv (fun z hz => (K.all z hz).1) (by intro z hz; simp at hz) (fun h₅ hns₅ hsb₅ => ?_) K.kind)
  dsimp only at hns₅ hsb₅ ⊢
  generalize hR3 : ({ cls := .type "list", dict := none, data := .seq ([] : List Value).toArray } : Obj) = oD at *
  have hfD : oD.isFreed = false := by rw [← hR3]; rfl
  have S₄ := S₃.hold oD hfD
  have hL₄ := hL₃.hold oD
  have k₄ : Keep φ s.heap (h₃.push oD) := k₃.push _
  have newer : ∀ (h : Heap) (ψ' : List Addr) (a : Addr), a ∉ ψ' → (∃ o, h.get? a = some o) → a ∉ h.objs.size :: ψ' := fun h ψ' a n ⟨o, e⟩ m => by
    rcases List.mem_cons.mp m with rfl | m
    · exact absurd (Heap.lt_size e) (Nat.lt_irrefl _)
    · exact n m
  have hI₄ : ItR (h₃.objs.size :: I :: ψ) (h₃.push oD) I p.1 := hI.more (fun _ _ e => Heap.get?_push_of_some _ e) (newer h₃ _)
  have hacc : (h₃.push oD).PlainList h₃.objs.size #[] := by rw [← hR3]; exact ⟨0, Heap.get?_push_size _ rfl⟩
  have hDψ : h₃.objs.size ∉ I :: ψ := S₃.fresh
  have hDφ : h₃.objs.size ∉ φ := fun m => hDψ (.tail _ (S.sub _ m))
  have hDs : s.heap.get? h₃.objs.size = none := fresh_none k₃ hDφ
  generalize h₃.objs.size = D at *
  generalize h₃.push oD = h₄ at *
  generalize hR4 : ({ cls := .type (if (some V.env).isSome then "dict" else "frame"), data := .dict #[] } : Obj) = oC at *
  have hfC : oC.isFreed = false := by rw [← hR4]; rfl
  have S₅' := S₄.hold oC hfC
  have hL₅' := hL₄.hold oC
  have k₅' : Keep φ s.heap (h₄.push oC) := k₄.push _
  have hI₅' : ItR (h₄.objs.size :: D :: I :: ψ) (h₄.push oC) I p.1 := hI₄.more (fun _ _ e => Heap.get?_push_of_some _ e) (newer h₄ _)
  have hacc' : (h₄.push oC).PlainList D #[] := hacc.at fun o e => Heap.get?_push_of_some _ e
  have hCψ : h₄.objs.size ∉ D :: I :: ψ := S₄.fresh
  have hCφ : h₄.objs.size ∉ φ := fun m => hCψ (.tail _ (.tail _ (S.sub _ m)))
  have hCs : s.heap.get? h₄.objs.size = none := fresh_none k₄ hCφ
  generalize h₄.objs.size = Cn at *
  generalize h₄.push oC = h₅' at *
  have hDI : D ≠ I := fun e => hDψ (e ▸ .head _)
  have hCI : Cn ≠ I := fun e => hCψ (e ▸ .tail _ (.head _))
  have hCD : Cn ≠ D := fun e => hCψ (e ▸ .head _)
  have kC5 : Keep [Cn] h₅' h₅ := Keep.but hsb₅
  have ownN : ∀ a ∈ V.own, a ≠ I ∧ a ≠ D ∧ a ≠ Cn := fun a ha =>
    have h1 := hL.inψ a ha
    ⟨fun e => hIψ (e ▸ h1), fun e => hDψ (e ▸ .tail _ h1), fun e => hCψ (e ▸ .tail _ (.tail _ h1))⟩
  have S₅ : St X.h₀ (Cn :: D :: I :: ψ) φ p.2 h₅ := S₅'.other (.head _) hCφ (let ⟨o, _, _, e, _⟩ := hns₅; ⟨o, e⟩) hsb₅
  have hL₅ : Loc X.C V (Cn :: D :: I :: ψ) φ ρ h₅ := hL₅'.keptBy kC5 (sub_lift (.head _)) fun a ha m => (ownN a ha).2.2 (List.mem_singleton.mp m)
  have hI₅ : ItR (Cn :: D :: I :: ψ) h₅ I p.1 := hI₅'.keep kC5 (fun m => hCI (List.mem_singleton.mp m).symm) (sub_lift (.head _))
  have hacc₅ : h₅.PlainList D #[] := hacc'.at fun o e => kC5 _ _ e fun m => hCD (List.mem_singleton.mp m).symm
  have k₅ : Keep φ s.heap h₅ := fun b o e n => kC5 b o (k₅' b o e n) fun m => by rw [List.mem_singleton.mp m, hCs] at e; cases e
  clear S₅' hL₅' k₅' hI₅' hacc' kC5 hsb₅ S₄ hL₄ k₄ hI₄ hacc S₃ hL₃ k₃ hI
  have hI' : I ∈ Cn :: D :: I :: ψ := .tail _ (.tail _ (.head _))
  have hD' : D ∈ Cn :: D :: I :: ψ := .tail _ (.head _)
  have hnv : ∀ a ∈ Cn :: D :: ψ, a ∈ Cn :: D :: I :: ψ ∧ a ≠ I := fun a m => by
    rcases List.mem_cons.mp m with rfl | m
    · exact ⟨.head _, hCI⟩
    · rcases List.mem_cons.mp m with rfl | m
      · exact ⟨hD', hDI⟩
      · exact ⟨.tail _ (.tail _ (.tail _ m)), fun e => hIψ (e ▸ m)⟩
  have loop : ∀ tk, codeAny (model prog w) A (.compLoop (.ListComp elt [⟨.Name x px, it, ifs, 0⟩] scope pos) 0 (.ref I) (.ref D) (compEnvC scope cl Cn V.env))
      (compPost (model prog w) A E use Q (.ref D) Cn) { s with heap := h₅, toks := tk } := by
    intro tk
    refine codeAny_compLoop_tests (fun r s' => ∃ its μ₁ xs₁ rest ys h₁ tk₁ m₁, s' = { s with heap := h₁, toks := tk₁ } ∧ its.length = r ∧ compF tst sel (caps.map fun j => ρ[j]?.join) its μ₁ = some (rest, μE) ∧ xs₁ ++ rest = xsA ∧ ItR (Cn :: D :: I :: ψ) h₁ I its ∧
        St X.h₀ (Cn :: D :: I :: ψ) φ μ₁ h₁ ∧ h₁.PlainList D ys ∧ VRs (Cn :: D :: I :: ψ) h₁ xs₁ ys.toList ∧ h₁.Ns Cn m₁ ∧ Keep φ s.heap h₁ ∧ Loc X.C V (Cn :: D :: I :: ψ) φ ρ h₁ ∧ ys.size + r ≤ 16777216) ?_ p.1.length
      ⟨p.1, p.2, [], xsA, #[], h₅, tk, _, rfl, rfl, hq, rfl, hI₅, S₅, hacc₅, rfl, hns₅, k₅, hL₅, by simp; omega⟩
    rintro r s' ⟨its, μ₁, xs₁, rest, ys, h₁, tk₁, m₁, rfl, hr, hw, hxs, hit, S₁, hpl, hvs, hns, k₁, hL₁, hsize⟩
    cases its with
    | nil =>
      refine ItR.stop hR.handled hit fun h₂ kI => ?_
      cases hw
      rw [List.append_nil] at hxs
      subst hxs
      have sub : ∀ a ∈ Cn :: D :: ψ, a ∈ (Cn :: D :: I :: ψ).filter (· ≠ I) := fun a m => List.mem_filter.mpr ⟨(hnv a m).1, by simpa using (hnv a m).2⟩
      have S₂ := (S₁.drop hIφ hI' kI).shrink sub fun a m => .tail _ (.tail _ (S.sub a m))
      have hL₂ := (hL₁.drop (fun a ha => (ownN a ha).1) hI' kI).shrink sub fun a ha => .tail _ (.tail _ (hL.inψ a ha))
      refine k D Cn h₂ tk₁ ys m₁ (fun m => hDψ (.tail _ m)) (fun m => hCψ (.tail _ (.tail _ m))) hCD hDs hCs (hpl.at fun o e => kI _ _ e fun m => hDI (List.mem_singleton.mp m)) (hvs.keep kI fun a n _ => ⟨fun m => n (hnv a m).1, fun m => n (by rw [List.mem_singleton.mp m]; exact hI')⟩)
        (ns_keep kI hns fun m => hCI (List.mem_singleton.mp m)) S₂ hL₂ fun b o e n => kI b o (k₁ b o e n) fun m => ?_
      rw [List.mem_singleton.mp m, hIs] at e; cases e
    | cons y its =>
      simp only [compF, Option.bind_eq_some_iff] at hw
      obtain ⟨t, ht, hw⟩ := hw
      refine ItR.next hI' hit fun v h₂ tk₂ hv hit₂ hs₂ hIl => ?_
      have kI : Keep [I] h₁ h₂ := Keep.but hs₂
      refine wpAny_assign_Name (wpAny_storeName_local (env := compEnvC scope cl Cn V.env) (lookup_relabel_local K.x) (ns_keep kI hns fun m => hCI (List.mem_singleton.mp m)) (fun h₃ hn₃ hs₃ => ?_) (by simp [compEnvC, relabel, K.kind]))
      have kC : Keep [Cn] h₂ h₃ := Keep.but hs₃
      have S₃ := (S₁.other hI' hIφ hIl hs₂).other (.head _) hCφ (let ⟨o, _, _, e, _⟩ := hn₃; ⟨o, e⟩) hs₃
      have hL₃ := (hL₁.keptBy kI (sub_lift hI') fun a ha m => (ownN a ha).1 (List.mem_singleton.mp m)).keptBy kC (sub_lift (.head _)) fun a ha m => (ownN a ha).2.2 (List.mem_singleton.mp m)
      obtain ⟨mL, lL⟩ := id hL₃
      have lc := lL.comp K hcl1 hcl2 (v := v) (mv := .d y) hn₃ (by simp) ⟨.head _, hCφ⟩ (fun m => (ownN _ m).2.2 rfl) (hv.kept kC (sub_lift (.head _)))
      have k13 : Keep (I :: Cn :: φ) h₁ h₃ := fun b o e n => kC b o (kI b o e fun m => n (List.mem_singleton.mp m ▸ .head _)) fun m => n (List.mem_singleton.mp m ▸ .tail _ (.head _))
      have sub14 : ∀ a ∈ I :: Cn :: φ, a ∈ Cn :: D :: I :: ψ := fun a m => by
        rcases List.mem_cons.mp m with rfl | m
        · exact hI'
        · rcases List.mem_cons.mp m with rfl | m
          · exact .head _
          · exact .tail _ (.tail _ (.tail _ (S.sub a m)))
      have hDn : D ∉ I :: Cn :: φ := fun m => by
        rcases List.mem_cons.mp m with e | m
        · exact hDI e
        · rcases List.mem_cons.mp m with e | m
          · exact hCD e.symm
          · exact hDφ m
      have toS : ∀ {h' : Heap}, Keep (I :: Cn :: φ) h₁ h' → Keep φ s.heap h' := fun {h'} kk b o e n => kk b o (k₁ b o e n) fun m => by
        rcases List.mem_cons.mp m with rfl | m
        · rw [hIs] at e; cases e
        · rcases List.mem_cons.mp m with rfl | m
          · rw [hCs] at e; cases e
          · exact n m
      have hit₃ : ItR (Cn :: D :: I :: ψ) h₃ I its := hit₂.keep kC (fun m => hCI (List.mem_singleton.mp m).symm) (sub_lift (.head _))
      refine hts _ μ₁ t ht A _ (Cn :: D :: I :: ψ) φ ⟨compEnvC scope cl Cn V.env, Cn :: V.own⟩ _ _ hR S₃ ⟨_, lc⟩ fun h₄ tk₄ S₄ k₄ => ?_
      have kφ : Keep φ h₃ h₄ := k₄
      have k14 : Keep (I :: Cn :: φ) h₁ h₄ := k13.trans (kφ.more fun a m => .tail _ (.tail _ m))
      have S₄' : St X.h₀ (Cn :: D :: I :: ψ) φ t.2 h₄ := S₄
      have hL₄ := hL₃.kept kφ fun a m => sub14 a (.tail _ (.tail _ m))
      have hit₄ : ItR (Cn :: D :: I :: ψ) h₄ I its := hit₃.keep kφ hIφ fun a m => sub14 a (.tail _ (.tail _ m))
      have hpl₄ : h₄.PlainList D ys := hpl.at fun o e => k14 _ _ e hDn
      cases hb : t.1 with
      | false =>
        rw [hb] at hw
        simp only [Bool.false_eq_true, if_false] at hw ⊢
        refine ⟨its.length, by rw [← hr]; exact Nat.lt_succ_self _, its, t.2, xs₁, rest, ys, h₄, tk₄, _, rfl, rfl, hw, hxs, hit₄, S₄', hpl₄, hvs.kept k14 sub14, ns_keep kφ hn₃ hCφ, toS k14, hL₄, ?_⟩
        rw [List.length_cons] at hr
        omega
      | true =>
        rw [hb] at hw
        simp only [if_true, Option.bind_eq_some_iff] at hw ⊢
        obtain ⟨p', hp', hw⟩ := hw
        split at hw
        · rename_i x' hx'
          obtain ⟨⟨rest', μE'⟩, hw', hrest⟩ := Option.map_eq_some_iff.mp hw
          cases hrest
          obtain ⟨mL', lL'⟩ := id hL₄
          have lc' := lL'.comp K hcl1 hcl2 (v := v) (mv := .d y) (ns_keep kφ hn₃ hCφ) (by simp) ⟨.head _, hCφ⟩ (fun m => (ownN _ m).2.2 rfl) ((hv.kept kC (sub_lift (.head _))).kept kφ fun a m => sub14 a (.tail _ (.tail _ m)))
          refine hel _ t.2 p' hp' A { s with heap := h₄, toks := tk₄ } (Cn :: D :: I :: ψ) φ ⟨compEnvC scope cl Cn V.env, Cn :: V.own⟩ _ _ hR S₄' ⟨_, lc'⟩ fun u h₅ tk₅ hu S₅ k₅ => ?_
          rw [hx'] at hu
          have kφ' : Keep φ h₄ h₅ := k₅
          have S₅' : St X.h₀ (Cn :: D :: I :: ψ) φ p'.2 h₅ := S₅
          have k15 : Keep (I :: Cn :: φ) h₁ h₅ := k14.trans (kφ'.more fun a m => .tail _ (.tail _ m))
          have hpl₅ : h₅.PlainList D ys := hpl.at fun o e => k15 _ _ e hDn
          refine wpAny_list_append_plain (hsz := by show ys.size ≤ 16777216; omega) hpl₅ fun h₆ hl₆ hs₆ => ?_
          have kD : Keep [D] h₅ h₆ := Keep.but hs₆
          refine ⟨its.length, by rw [← hr]; exact Nat.lt_succ_self _, its, p'.2, xs₁ ++ [x'], rest', ys.push u, h₆, tk₅, _, rfl, rfl, hw', by rw [List.append_assoc]; exact hxs, ?_, S₅'.other hD' hDφ (let ⟨n, e⟩ := hl₆; ⟨_, e⟩) hs₆, hl₆, ?_, ns_keep kD (ns_keep kφ' (ns_keep kφ hn₃ hCφ) hCφ) fun m => hCD (List.mem_singleton.mp m), fun b o e n => ?_, ?_, ?_⟩
          · exact (hit₄.keep kφ' hIφ fun a m => sub14 a (.tail _ (.tail _ m))).keep kD (fun m => hDI (List.mem_singleton.mp m).symm) (sub_lift hD')
          · rw [Array.toList_push]
            exact ((hvs.kept k15 sub14).append (VRs.one hu)).kept kD (sub_lift hD')
          · refine kD b o (toS k15 b o e n) fun m => ?_
            rw [List.mem_singleton.mp m, hDs] at e; cases e
          · exact (hL₄.kept kφ' fun a m => sub14 a (.tail _ (.tail _ m))).keptBy kD (sub_lift hD') fun a ha m => (ownN a ha).2.1 (List.mem_singleton.mp m)
          · rw [Array.size_push]
            rw [List.length_cons] at hr
            omega
        · cases hw
  exact codeAny_compStart_list (loop _) (hI₅.self (loop _))

section ends
variable {X : Cx prog w} {ψ φ : List Addr} {μ : Mu} {V : FV} {ρ : Rho} {A : Around} {s : Shared} {E : Value → Shared → Prop} {D Cn : Addr} {h' : Heap} {tk : Nat} {ys : Array Value} {m : Str → Option Value} {xs : List PyData}
theorem drop_cell (hD : D ∉ ψ) (hC : Cn ∉ ψ) (hCD : Cn ≠ D) (sub : ∀ a ∈ φ, a ∈ ψ) (S' : St X.h₀ (Cn :: D :: ψ) φ μ h') {h₂ : Heap} (kC : Keep [Cn] h' h₂) : St X.h₀ ψ φ μ h₂ :=
  (S'.drop (fun m => hC (sub _ m)) (.head _) kC).shrink (fun a m => List.mem_filter.mpr ⟨.tail _ (.tail _ m), by simpa using fun e : a = Cn => hC (e ▸ m)⟩) sub
theorem vr_out (hD : D ∉ ψ) (hC : Cn ∉ ψ) (hCD : Cn ≠ D) (hpl : h'.PlainList D ys) (hvs : VRs (Cn :: D :: ψ) h' xs ys.toList) {h₂ : Heap} (kC : Keep [Cn] h' h₂) : VR ψ h₂ (.list xs) (.ref D) :=
  ⟨D, ys, rfl, hpl.at fun o e => kC _ _ e fun m => hCD (List.mem_singleton.mp m).symm, hD, hvs.keep kC fun a n _ => ⟨fun m => n (.tail _ (.tail _ m)), fun m => n (by rw [List.mem_singleton.mp m]; exact .head _)⟩⟩
end ends

/-- a list that is there becomes a numbered one -/
theorem St.adopt {h₀ h : Heap} {ψ φ : List Addr} {μ : Mu} {D : Addr} {xs : List PyData} {vs : Array Value} (S : St h₀ ψ φ μ h) (hD : D ∈ ψ) (hn : D ∉ φ) (hp : h.PlainList D vs) (hv : VRs ψ h xs vs.toList) : St h₀ ψ (φ ++ [D]) (μ ++ [.l xs]) h := by
  refine ⟨S.base, S.off, S.live, fun b hb => ?_, ?_, by simp [S.len], fun i b ys e q => ?_⟩
  · rcases List.mem_append.mp hb with hb | hb
    · exact S.sub b hb
    · rw [List.mem_singleton.mp hb]; exact hD
  · exact List.nodup_append.mpr ⟨S.nd, by simp, fun x hx y hy => by rw [List.mem_singleton.mp hy]; exact fun z => hn (z ▸ hx)⟩
  · by_cases hi : i < φ.length
    · rw [List.getElem?_append_left hi] at e
      rw [List.getElem?_append_left (S.len ▸ hi)] at q
      exact S.obj i b ys e q
    · rw [List.getElem?_append_right (Nat.le_of_not_lt hi)] at e
      rw [List.getElem?_append_right (S.len ▸ Nat.le_of_not_lt hi)] at q
      have e0 : i - φ.length = 0 := by
        cases hq : i - φ.length with
        | zero => rfl
        | succ n => rw [hq] at e; cases e
      rw [e0] at e
      rw [← S.len, e0] at q
      cases e; cases q
      exact ⟨vs, hp, hv⟩
theorem MVR.adopt {ψ φ : List Addr} {h : Heap} {D : Addr} : ∀ {mv : MV} {v : Value}, MVR ψ φ h mv v → MVR ψ (φ ++ [D]) h mv v
  | .d _, _, e => e
  | .r _, _, ⟨a, e, ha⟩ => ⟨a, e, by rw [List.getElem?_append_left (List.getElem?_eq_some_iff.mp ha).1]; exact ha⟩
theorem Loc.adopt {C : MC} {V : FV} {ψ φ : List Addr} {ρ : Rho} {h : Heap} {D : Addr} (X : Loc C V ψ φ ρ h) (hn : D ∉ V.own) : Loc C V ψ (φ ++ [D]) ρ h := by
  obtain ⟨m, l⟩ := X
  refine ⟨m, l.move (κ := []) (Keep.refl _ _) (fun _ _ m => nomatch m) (fun a ha => ⟨(l.own a ha).1, fun q => ?_⟩) fun _ _ e => e.adopt⟩
  rcases List.mem_append.mp q with q | q
  · exact (l.own a ha).2 q
  · exact hn (List.mem_singleton.mp q ▸ ha)

def compSem (sit : Rho → Mu → Option (List PyData × Mu)) (tst : Rho → Mu → Option (Bool × Mu)) (sel : Rho → Mu → Option (MV × Mu)) (caps : List Nat) : Rho → Mu → Option (List PyData × Mu) := fun ρ μ => (sit ρ μ).bind fun p => compF tst sel (caps.map fun j => ρ[j]?.join) p.1 p.2

section forms
variable {X : Cx prog w} {C' : MC} {scope : Scope} {x y : Str} {caps : List Nat} {i : Nat} {px py pos spos : Pos} {it elt : Expr} {ifs : List Expr} {sit : Rho → Mu → Option (List PyData × Mu)} {tst : Rho → Mu → Option (Bool × Mu)} {sel : Rho → Mu → Option (MV × Mu)}
/-- a comprehension as an expression -/
theorem comp_expr (K : CompOK X.C C' scope x caps) (hk' : C'.scope.kind = .function) (hit : SIt X it sit) (hsm : ∀ ρ μ p, sit ρ μ = some p → p.1.length ≤ 16777216) (hts : STs (X.to C' K.fns hk' K.nd) ifs tst) (hel : SE (X.to C' K.fns hk' K.nd) elt sel) (hfold : ∀ env v, foldedSetIterable it env v = pure v) :
    SE X (.ListComp elt [⟨.Name x px, it, ifs, 0⟩] scope pos) fun ρ μ => (compSem sit tst sel caps ρ μ).map fun q => (.d (.list q.1), q.2) := by
  intro ρ μ r h A s ψ φ V E Q hR S hL k
  obtain ⟨q, hc, rfl⟩ := Option.map_eq_some_iff.mp h
  obtain ⟨p, hp, hq⟩ := Option.bind_eq_some_iff.mp hc
  rw [eval_ListComp]
  refine comp_core K hk' hit hts hel hp (hsm _ _ _ hp) hq (use := none) hR S hL (hfold _) fun D Cn h' tk ys m hD hC hCD hDs hCs hpl hvs hns S' hL' k' => ?_
  refine ⟨m, hns, fun h₂ hs₂ => ?_⟩
  have kC : Keep [Cn] h' h₂ := Keep.but hs₂
  refine k (.ref D) h₂ tk (vr_out hD hC hCD hpl hvs kC) (drop_cell hD hC hCD S.sub S' kC) fun b o e n => kC b o (k' b o e n) fun m => ?_
  rw [List.mem_singleton.mp m, hCs] at e; cases e
theorem swap_true {ψ φ : List Addr} {V : FV} {ρ : Rho} {h : Heap} {m₀ : Str → Option Value} (l₀ : LocS X.C V ψ φ ρ h m₀) (hyl : X.C.scope.names.lookup y = some .local) (hline : (py.line == pos.line) = true) (hny : (scope.names.any fun (n, k) => n == y && (k == .local || k == .cell)) = false) :
    swapsWith (.ListComp elt [⟨.Name x px, it, ifs, 0⟩] scope pos) (some (.Name y py)) spos.line V.env = pure true := by
  have b1 : (V.env.blockKind == .function) = true := by unfold Env.blockKind; rw [l₀.kind]; rfl
  have b2 : (V.env.kindOf y == some .local) = true := by rw [l₀.kindOf hyl]; rfl
  show (pure (V.env.blockKind == .function && V.env.kindOf y == some .local && py.line == pos.line && !(scope.names.any fun (n, k) => n == y && (k == .local || k == .cell))) : Sem Bool) = pure true
  rw [b1, b2, hline, hny]; rfl
/-- y = [..] -/
theorem comp_stmt (K : CompOK X.C C' scope x caps) (hk' : C'.scope.kind = .function) (hit : SIt X it sit) (hsm : ∀ ρ μ p, sit ρ μ = some p → p.1.length ≤ 16777216) (hts : STs (X.to C' K.fns hk' K.nd) ifs tst) (hel : SE (X.to C' K.fns hk' K.nd) elt sel) (hfold : ∀ env v, foldedSetIterable it env v = pure v)
    (hy : X.C.loc i y = true) (hyl : X.C.scope.names.lookup y = some .local) (hline : (py.line == pos.line) = true) (hny : (scope.names.any fun (n, k) => n == y && (k == .local || k == .cell)) = false) :
    SSt X (exec (.Assign [.Name y py] (.ListComp elt [⟨.Name x px, it, ifs, 0⟩] scope pos) spos)) fun ρ μ => (compSem sit tst sel caps ρ μ).map fun q => (.next, ρ.set i (some (.d (.list q.1))), q.2) := by
  intro ρ μ r h A s ψ φ V E Q hR S hL k
  obtain ⟨q, hc, rfl⟩ := Option.map_eq_some_iff.mp h
  obtain ⟨p, hp, hq⟩ := Option.bind_eq_some_iff.mp hc
  obtain ⟨m₀, l₀⟩ := id hL
  rw [exec_Assign_Name_used _ _ _ _ (swap_true l₀ hyl hline hny)]
  refine wpAny_bind (wpAny_standAt (wpAny_bind ?_))
  show wpAny _ A (do let _ ← comprehension (.ListComp elt [⟨.Name x px, it, ifs, 0⟩] scope pos) scope V.env _ (newList []) false (eval it V.env) (some (assign (.Name y py) V.env))) _ _ s
  refine wpAny_bind (wpAny_mono (comp_core K hk' hit hts hel hp (hsm _ _ _ hp) hq (use := some (assign (.Name y py) V.env)) (Q := fun _ s' => Q .next s') hR S hL (hfold _) fun D Cn h' tk ys m hD hC hCD hDs hCs hpl hvs hns S' hL' k' => ?_) (fun _ s' hq => wpAny_pure (wpAny_pure hq)) fun _ _ e => e)
  have hvr : VR (Cn :: ψ) h' (.list q.1) (.ref D) := ⟨D, ys, rfl, hpl, fun m => by
    rcases List.mem_cons.mp m with e | m
    · exact hCD e.symm
    · exact hD m, hvs.keep (κ := []) (Keep.refl _ _) fun a n _ => ⟨fun m => n (by
    rcases List.mem_cons.mp m with rfl | m
    · exact .head _
    · exact .tail _ (.tail _ m)), fun m => nomatch m⟩⟩
  have subD : ∀ a ∈ Cn :: ψ, a ∈ Cn :: D :: ψ := fun a m => by
    rcases List.mem_cons.mp m with rfl | m
    · exact .head _
    · exact .tail _ (.tail _ m)
  show wpAny _ A (assign (.Name y py) V.env (.ref D)) _ _ _
  refine wpAny_assign_Name (store_sound (mv := .d (.list q.1)) (s := { s with heap := h', toks := tk }) (S'.shrink subD fun a m => .tail _ (S.sub a m)) (hL'.shrink subD fun a ha => .tail _ (hL.inψ a ha)) hy hvr fun h₃ tk₃ S₃ hL₃ k₃ => ?_)
  refine ⟨m, ns_keep k₃ hns fun m => hC (hL.inψ _ m), fun h₄ hs₄ => ?_⟩
  have kC : Keep [Cn] h₃ h₄ := Keep.but hs₄
  have hCφ : Cn ∉ φ := fun m => hC (S.sub _ m)
  have sub' : ∀ a ∈ ψ, a ∈ (Cn :: ψ).filter (· ≠ Cn) := fun a m => List.mem_filter.mpr ⟨.tail _ m, by simpa using fun e : a = Cn => hC (e ▸ m)⟩
  refine k .next ψ φ h₄ tk₃ rfl (Ext.refl _ _ _) ((S₃.drop hCφ (.head _) kC).shrink sub' S.sub) ((hL₃.drop (I := Cn) (fun a ha (e : a = Cn) => hC (e ▸ hL.inψ a ha)) (.head _) kC).shrink sub' hL.inψ) fun b o e n => ?_
  refine kC b o (k₃ b o (k' b o e fun m => n (List.mem_append_right _ m)) fun m => n (List.mem_append_left _ m)) fun m => ?_
  rw [List.mem_singleton.mp m, hCs] at e; cases e
/-- y = [..], a numbered list -/
theorem comp_stmtn (K : CompOK X.C C' scope x caps) (hk' : C'.scope.kind = .function) (hit : SIt X it sit) (hsm : ∀ ρ μ p, sit ρ μ = some p → p.1.length ≤ 16777216) (hts : STs (X.to C' K.fns hk' K.nd) ifs tst) (hel : SE (X.to C' K.fns hk' K.nd) elt sel) (hfold : ∀ env v, foldedSetIterable it env v = pure v)
    (hy : X.C.loc i y = true) (hyl : X.C.scope.names.lookup y = some .local) (hline : (py.line == pos.line) = true) (hny : (scope.names.any fun (n, k) => n == y && (k == .local || k == .cell)) = false) :
    SSt X (exec (.Assign [.Name y py] (.ListComp elt [⟨.Name x px, it, ifs, 0⟩] scope pos) spos)) fun ρ μ => (compSem sit tst sel caps ρ μ).map fun q => (.next, ρ.set i (some (.r q.2.length)), q.2 ++ [.l q.1]) := by
  intro ρ μ r h A s ψ φ V E Q hR S hL k
  obtain ⟨q, hc, rfl⟩ := Option.map_eq_some_iff.mp h
  obtain ⟨p, hp, hq⟩ := Option.bind_eq_some_iff.mp hc
  obtain ⟨m₀, l₀⟩ := id hL
  rw [exec_Assign_Name_used _ _ _ _ (swap_true l₀ hyl hline hny)]
  refine wpAny_bind (wpAny_standAt (wpAny_bind ?_))
  show wpAny _ A (do let _ ← comprehension (.ListComp elt [⟨.Name x px, it, ifs, 0⟩] scope pos) scope V.env _ (newList []) false (eval it V.env) (some (assign (.Name y py) V.env))) _ _ s
  refine wpAny_bind (wpAny_mono (comp_core K hk' hit hts hel hp (hsm _ _ _ hp) hq (use := some (assign (.Name y py) V.env)) (Q := fun _ s' => Q .next s') hR S hL (hfold _) fun D Cn h' tk ys m hD hC hCD hDs hCs hpl hvs hns S' hL' k' => ?_) (fun _ s' hq => wpAny_pure (wpAny_pure hq)) fun _ _ e => e)
  have hDφ : D ∉ φ := fun m => hD (S.sub _ m)
  have S₁ := S'.adopt (.tail _ (.head _)) hDφ hpl hvs
  have hL₁ := hL'.adopt fun m => hD (hL.inψ _ m)
  show wpAny _ A (assign (.Name y py) V.env (.ref D)) _ _ _
  refine wpAny_assign_Name (store_sound (mv := .r q.2.length) (s := { s with heap := h', toks := tk }) S₁ hL₁ hy ⟨D, rfl, ?_⟩ fun h₃ tk₃ S₃ hL₃ k₃ => ?_)
  · rw [← S'.len, List.getElem?_append_right (Nat.le_refl _), Nat.sub_self]; rfl
  refine ⟨m, ns_keep k₃ hns fun m => hC (hL.inψ _ m), fun h₄ hs₄ => ?_⟩
  have kC : Keep [Cn] h₃ h₄ := Keep.but hs₄
  have hCφ : Cn ∉ φ ++ [D] := fun m => by
    rcases List.mem_append.mp m with m | m
    · exact hC (S.sub _ m)
    · exact hCD (List.mem_singleton.mp m)
  have sub' : ∀ a ∈ D :: ψ, a ∈ (Cn :: D :: ψ).filter (· ≠ Cn) := fun a m => List.mem_filter.mpr ⟨.tail _ m, by
    have : a ≠ Cn := fun e => by
      subst e
      rcases List.mem_cons.mp m with e | m
      · exact hCD e
      · exact hC m
    simpa using this⟩
  have subφ : ∀ a ∈ φ ++ [D], a ∈ D :: ψ := fun a m => by
    rcases List.mem_append.mp m with m | m
    · exact .tail _ (S.sub _ m)
    · rw [List.mem_singleton.mp m]; exact .head _
  refine k .next (D :: ψ) (φ ++ [D]) h₄ tk₃ rfl ⟨fun _ m => .tail _ m, fun a m => ?_, [D], rfl, fun a m => by rw [List.mem_singleton.mp m]; exact hDs⟩ ((S₃.drop hCφ (.head _) kC).shrink sub' subφ) ((hL₃.drop (I := Cn) (fun a ha (e : a = Cn) => hC (e ▸ hL.inψ a ha)) (.head _) kC).shrink sub' fun a ha => .tail _ (hL.inψ a ha)) fun b o e n => ?_
  · rcases List.mem_cons.mp m with rfl | m
    · exact .inr hDs
    · exact .inl m
  · refine kC b o (k₃ b o (k' b o e fun m => n (List.mem_append_right _ m)) fun m => n (List.mem_append_left _ m)) fun m => ?_
    rw [List.mem_singleton.mp m, hCs] at e; cases e
end forms

theorem filterMap_full {α β : Type} {f : α → Option β} : ∀ {l : List α}, (l.filterMap f).length = l.length → ∀ {j : Nat} {z : β}, (l.filterMap f)[j]? = some z → ∃ i, l[j]? = some i ∧ f i = some z
  | [], _, j, z, e => by simp at e
  | a :: l, hl, j, z, e => by
    have hle := List.length_filterMap_le f l
    rw [List.filterMap_cons] at hl e
    cases ha : f a with
    | none => rw [ha] at hl; simp only [List.length_cons] at hl; omega
    | some b =>
      rw [ha] at hl e
      simp only [List.length_cons, Nat.add_right_cancel_iff] at hl
      cases j with
      | zero => simp only [List.getElem?_cons_zero, Option.some.injEq] at e; subst e; exact ⟨a, rfl, ha⟩
      | succ j =>
        simp only [List.getElem?_cons_succ] at e
        obtain ⟨i, h1, h2⟩ := filterMap_full hl e
        exact ⟨i, by simpa using h1, h2⟩
theorem compOk_spec {C : MC} {scope : Scope} {x : Str} {caps : List Nat} (h : compOk C scope x caps = true) : CompOK C (compC C scope x caps) scope x caps := by
  unfold compOk at h
  simp only [Bool.and_eq_true, Bool.or_eq_true, decide_eq_true_eq, List.all_eq_true] at h
  obtain ⟨⟨⟨⟨⟨h1, h2⟩, h3⟩, h4⟩, h5⟩, h6⟩ := h
  refine ⟨rfl, rfl, h1, ⟨_, rfl, h2, fun j z e => ?_⟩, h4, h5, fun z hz => ?_⟩
  · obtain ⟨i, e1, e2⟩ := filterMap_full h2 e
    have := h3 z (List.mem_of_getElem? e)
    exact ⟨i, e1, e2, this.1, this.2⟩
  · obtain ⟨⟨q1, q2⟩, q3⟩ := h6 z hz
    exact ⟨q1, fun e => q2.resolve_left fun n => n e, fun e => q3.resolve_left fun n => n e⟩

theorem MVR.ext {ψ φ ψ' φ' κ : List Addr} {h h' : Heap} (x : Ext ψ φ ψ' φ' h) (k : Keep κ h h') (s : ∀ a ∈ κ, a ∈ ψ) : ∀ {mv : MV} {v : Value}, MVR ψ φ h mv v → MVR ψ' φ' h' mv v
  | .d _, _, e => VR.keep k (fun a n ⟨o, q⟩ => ⟨fun m => by
      rcases x.new a m with m | m
      · exact n m
      · rw [m] at q; exact (nomatch q), fun m => n (s a m)⟩) e
  | .r _, _, ⟨a, e, ha⟩ => ⟨a, e, by
      obtain ⟨ex, rfl, _⟩ := x.app
      rw [List.getElem?_append_left (List.getElem?_eq_some_iff.mp ha).1]; exact ha⟩
theorem itAt_spec {μ : Mu} {src : MV} {k : Nat} {y : Option PyData} (h : itAt μ src k = some y) : ∃ xs, rd μ src = some (.list xs) ∧ y = xs[k]? := by
  unfold itAt at h
  split at h
  · rename_i xs e; cases h; exact ⟨xs, e, rfl⟩
  · cases h
/-- for x in y, y a list, which may be a numbered one -/
theorem fore_sound {X : Cx prog w} {x y : Str} {px py pos : Pos} {body : List Stmt} {i : Nat} {se : Rho → Mu → Option (MV × Mu)} {b : Rho → Mu → Option (Out × Rho × Mu)} (hx : X.C.loc i x = true) (he : SE X (.Name y py) se) (hb : SSt X (execs body) b) :
    SSt X (exec (.For (.Name x px) (.Name y py) body [] pos)) fun ρ μ => (se ρ μ).bind fun p => foreF i b p.1 (lenOf p.2 p.1) 0 ρ p.2 := by
  intro ρ μ q h A s ψ φ V E Q hR S hL k
  obtain ⟨p, hp, h⟩ := Option.bind_eq_some_iff.mp h
  obtain ⟨src, μ0⟩ := p
  generalize hn : lenOf μ0 src = n at h
  obtain ⟨xs0, hrd⟩ : ∃ xs, rd μ0 src = some (.list xs) := by
    cases n with
    | zero => cases h
    | succ n =>
      simp only [foreF, Option.bind_eq_some_iff] at h
      obtain ⟨y, hy, _⟩ := h
      obtain ⟨xs, e, _⟩ := itAt_spec hy
      exact ⟨xs, e⟩
  refine wpAny_For ?_
  refine he ρ μ _ hp A s ψ φ V E _ hR S hL fun v h₁ tk₁ hv S₁ k₁ => ?_
  obtain ⟨l, vs, rfl, hl, hvs⟩ := hv.rr S₁ hrd
  refine wpAny_pyIter_list hl.isList ?_
  have hL₁ := hL.kept k₁ S.sub
  generalize hR1 : ({ cls := .type "list_iterator", data := .fields #[.ref l, .int 0 0] } : Obj) = oI
  have hfI : oI.isFreed = false := by rw [← hR1]; rfl
  have S₂ := S₁.hold oI hfI
  have hL₂ := hL₁.hold oI
  have k₂ : Keep φ s.heap (h₁.push oI) := k₁.push _
  have hit : (h₁.push oI).IsListIter h₁.objs.size l 0 := by rw [← hR1]; exact ⟨_, Heap.get?_push_size _ rfl, rfl, rfl⟩
  have hIψ : h₁.objs.size ∉ ψ := S₁.fresh
  have hIφ : h₁.objs.size ∉ φ := fun m => hIψ (S.sub _ m)
  have hIs : s.heap.get? h₁.objs.size = none := fresh_none k₁ hIφ
  have hlI : l ≠ h₁.objs.size := fun e => by
    obtain ⟨o, ho⟩ := hl
    exact absurd (Heap.lt_size ho) (e ▸ Nat.lt_irrefl _)
  have hsrc : MVR (h₁.objs.size :: ψ) φ (h₁.push oI) src (.ref l) := by
    cases src with
    | r j => exact hv
    | d y => exact VR.keep (κ := []) (.of fun _ _ e => Heap.get?_push_of_some _ e) (fun a n ⟨o, e⟩ => ⟨fun m => by
        rcases List.mem_cons.mp m with rfl | m
        · exact absurd (Heap.lt_size e) (Nat.lt_irrefl _)
        · exact n m, fun m => nomatch m⟩) hv
  clear hvs hl
  generalize h₁.objs.size = I at *
  generalize h₁.push oI = h₂ at *
  show codeAny (model prog w) A (.forLoop (.Name x px) (.ref I) body [] _) _ _
  refine codeAny_forLoop (fun r s' => ∃ kk ρ₁ μ₁ ψ₁ φ₁ h₁ tk₁, s' = { s with heap := h₁, toks := tk₁ } ∧ foreF i b src r kk ρ₁ μ₁ = some q ∧ I ∈ ψ₁ ∧ I ∉ φ₁ ∧ h₁.IsListIter I l kk ∧ MVR ψ₁ φ₁ h₁ src (.ref l) ∧ Ext ψ φ ψ₁ φ₁ s.heap ∧ St X.h₀ ψ₁ φ₁ μ₁ h₁ ∧ Loc X.C V ψ₁ φ₁ ρ₁ h₁ ∧ Keep (V.own ++ φ) s.heap h₁) ?_ n
    ⟨0, ρ, μ0, I :: ψ, φ, _, _, rfl, h, List.mem_cons_self, hIφ, hit, hsrc, ⟨fun _ m => List.mem_cons_of_mem _ m, fun a m => by
      rcases List.mem_cons.mp m with rfl | m
      · exact .inr hIs
      · exact .inl m, [], by simp, fun _ m => nomatch m⟩, S₂, hL₂, k₂.inφ⟩
  have hLI : ∀ a ∈ V.own, a ≠ I := fun a ha e => by
    subst e
    obtain ⟨o, ho⟩ := S.live a (hL.inψ a ha)
    rw [hIs] at ho; cases ho
  rintro r s' ⟨kk, ρ₁, μ₁, ψ₁, φ₁, h₁, tk₁, rfl, hw, hI1, hI2, hit₁, hsrc₁, x₁, S₁, hL₁, k₁⟩
  cases r with
  | zero => cases hw
  | succ r =>
    simp only [foreF, Option.bind_eq_some_iff] at hw
    obtain ⟨y, hy, hw⟩ := hw
    obtain ⟨xs, hrd₁, rfl⟩ := itAt_spec hy
    obtain ⟨l', vs, e, hlist, hvs₁⟩ := hsrc₁.rr S₁ hrd₁
    cases e
    cases hxk : xs[kk]? with
    | none =>
      rw [hxk] at hw
      have hnone : vs[kk]? = none := by
        have h1 : xs.length ≤ kk := List.getElem?_eq_none_iff.mp hxk
        have h2 := hvs₁.length
        rw [Array.length_toList] at h2
        exact Array.getElem?_eq_none (by omega)
      refine wpAny_pyNext_list_end hR.handled hit₁ hlist.isList hnone fun h₂ he₂ => ?_
      cases hw
      have kI : Keep [I] h₁ h₂ := fun b o e n => he₂ b o (fun q => n (q ▸ List.mem_singleton.mpr rfl)) e
      refine wpAny_execs_nil (k .next (ψ₁.filter (· ≠ I)) φ₁ h₂ tk₁ rfl ⟨fun a m => ?_, fun a m => x₁.new a (List.mem_filter.mp m).1, x₁.app⟩ (S₁.drop hI2 hI1 kI) (hL₁.drop hLI hI1 kI) fun b o e n => ?_)
      · refine List.mem_filter.mpr ⟨x₁.sub a m, ?_⟩
        have : a ≠ I := fun e => hIψ (e ▸ m)
        simpa using this
      · refine kI b o (k₁ b o e n) fun m => ?_
        rw [List.mem_singleton.mp m, hIs] at e; cases e
    | some z =>
      rw [hxk] at hw
      obtain ⟨u, hu, hw⟩ := Option.bind_eq_some_iff.mp hw
      obtain ⟨v, hv1, hv2⟩ := hvs₁.get hxk
      rw [Array.getElem?_toList] at hv1
      refine wpAny_pyNext_list_item hit₁ hlist.isList hv1 fun h₂ hit₂ hs₂ => ?_
      have kI : Keep [I] h₁ h₂ := Keep.but hs₂
      have S₂ := S₁.other hI1 hI2 (let ⟨o, e, _⟩ := hit₂; ⟨o, e⟩) hs₂
      have hL₂ := hL₁.keptBy kI (sub_lift hI1) fun a ha m => hLI a ha (List.mem_singleton.mp m)
      refine wpAny_assign_Name (store_sound (mv := .d z) (s := { s with heap := h₂, toks := tk₁ }) S₂ hL₂ hx (hv2.kept kI (sub_lift hI1)) fun h₃ tk₃ S₃ hL₃ k₃ => ?_)
      refine hb _ _ u hu A _ ψ₁ φ₁ V _ _ hR S₃ hL₃ fun fl ψ₄ φ₄ h₄ tk₄ hfl x₄ S₄ hL₄ k₄ => ?_
      have k2 : Keep (V.own ++ φ) s.heap h₂ := fun b o e n => kI b o (k₁ b o e n) fun m => by rw [List.mem_singleton.mp m, hIs] at e; cases e
      have k3 : Keep (V.own ++ φ) s.heap h₃ := k2.trans k₃.inOwn
      have x14 : Ext ψ φ ψ₄ φ₄ s.heap := x₁.trans x₄ (live_of k3 S₃ (fun a m => x₁.sub a (S.sub a m)) hL₃.inψ)
      have k14 : Keep (V.own ++ φ) s.heap h₄ := k3.ext x₁ k₄
      have hown : ∀ a ∈ V.own, a ∈ ψ₁ := hL₃.inψ
      have nI : I ∉ V.own ++ φ₁ := fun m => by
        rcases List.mem_append.mp m with m | m
        · exact hLI _ m rfl
        · exact hI2 m
      have it3 : h₃.IsListIter I l (kk + 1) := let ⟨o, e, r⟩ := hit₂; ⟨o, k₃ _ _ e fun m => hLI _ m rfl, r⟩
      have it4 : h₄.IsListIter I l (kk + 1) := let ⟨o, e, r⟩ := it3; ⟨o, k₄ _ _ e nI, r⟩
      have src3 : MVR ψ₁ φ₁ h₃ src (.ref l) := (hsrc₁.kept kI (sub_lift hI1)).kept k₃ hown
      have src4 : MVR ψ₄ φ₄ h₄ src (.ref l) := src3.ext x₄ k₄ fun a m => by
        rcases List.mem_append.mp m with m | m
        · exact hown a m
        · exact S₃.sub a m
      have nI4 : I ∉ φ₄ := mem_ext x₄ hI2 (let ⟨o, e, _⟩ := it3; ⟨o, e⟩)
      cases hro : u.1 with
      | next =>
        rw [hro] at hw hfl
        cases hfl
        exact ⟨r, Nat.lt_succ_self _, kk + 1, u.2.1, u.2.2, ψ₄, φ₄, h₄, tk₄, rfl, hw, x₄.sub I hI1, nI4, it4, src4, x14, S₄, hL₄, k14⟩
      | ret v =>
        rw [hro] at hw hfl
        obtain ⟨z, rfl, hz⟩ := hfl
        cases hw
        exact k (.ret z) ψ₄ φ₄ h₄ tk₄ ⟨z, rfl, hz⟩ x14 S₄ hL₄ k14
end Mini

namespace Mini
open PySem PySem.Spec PySem.Calls PyProof.Rows PySem.SeqAt
variable {prog : Program} {w : World}

theorem dict_any {prog' : Program} {w' : World} {h : Heap} {a : Addr} {vs : List (Int × Value)} (x : h.DictOf (intKind prog w) a vs) : h.DictOf (intKind prog' w') a vs := by
  obtain ⟨o, es, ep, ho, hx, hd, hk, hp, nd⟩ := x
  have key : ∀ {es : List DictEntry} {kvs : List (Int × Value)}, Pairs (intKind prog w) es kvs → Pairs (intKind prog' w') es kvs := by
    intro es kvs h
    induction h with
    | nil => exact .nil
    | cons h1 h2 _ ih => exact .cons h1 h2 ih
  exact ⟨o, es, ep, ho, hx, hd, hk, key hp, nd⟩

section
variable {A : Around} {E : Value → Shared → Prop} {s : Shared} {ψ : List Addr} {a : Addr} {kvs : List (Int × Int)}
theorem DR.some {k : Int} {vs : List (Int × Value)} (r : DR kvs vs) : (valueAt vs k).isSome = (kvs.lookup k).isSome := by
  obtain ⟨h1, h2⟩ := DR.get (k := k) r
  cases e : kvs.lookup k with
  | none => rw [h2 e]; rfl
  | some n => obtain ⟨t, ht⟩ := h1 n e; rw [ht]; rfl
theorem dnot_sound {k : Int} {t : Tok} {Q : Value → Shared → Prop} (o : OR ψ s.heap a (.m kvs)) (hq : ∀ tk, Q (.bool (!(kvs.lookup k).isSome)) { s with toks := tk }) : wpAny (model prog w) A (compareOp .NotIn (.int k t) (.ref a)) Q E s := by
  obtain ⟨vs, hs, hd, hr⟩ := o
  refine wpAny_notIn_of (knd := intKind prog w) (k := k) (intKind_is _ _ _ _) hs (hd prog w).mapOf ?_
  rw [hr.some]
  exact hq _
theorem dget_sound {value i : Expr} {k n : Int} {t : Tok} {Q : Value → Shared → Prop} (o : OR ψ s.heap a (.m kvs)) (hi : notSlice i = true) (hn : kvs.lookup k = some n) (hq : ∀ t tk, Q (.int n t) { s with toks := tk }) : wpAny (model prog w) A (subscriptTail value i (.ref a) (.int k t)) Q E s := by
  obtain ⟨vs, hs, hd, hr⟩ := o
  obtain ⟨t', ht⟩ := (DR.get (k := k) hr).1 n hn
  exact tail_any (hd prog w).typeIs slot_dict_getitem.lookup (wpAny_getItem_of (knd := intKind prog w) (k := k) (intKind_is _ _ _ _) (hd prog w).mapOf ht (hq _ _)) (sub_plain hi _ _)
theorem dlen_sound {Q : Value → Shared → Prop} (o : OR ψ s.heap a (.m kvs)) (hl : kvs.length ≤ 16777216) (hq : ∀ t tk, Q (.int (kvs.length : Int) t) { s with toks := tk }) : wpAny (model prog w) A (call (.builtin "len") [.ref a]) Q E s := by
  obtain ⟨vs, hs, hd, hr⟩ := o
  have e := hr.length
  refine call_len_dict hs (hd prog w) (by omega) ?_
  rw [e]
  exact hq _ _
theorem dset_sound {k n : Int} {t t' : Tok} {Q : Unit → Shared → Prop} (o : OR ψ s.heap a (.m kvs)) (hl : kvs.length ≤ 16777216) (hk : (kvs.lookup k).isSome = false)
    (hq : ∀ h' tk, OR ψ h' a (.m (kvs ++ [(k, n)])) → Heap.SameBut a s.heap h' → (∃ o, h'.get? a = some o) → Q () { s with heap := h', toks := tk }) : wpAny (model prog w) A (setItem (.ref a) (.int k t) (.int n t')) Q E s := by
  obtain ⟨vs, hs, hd, hr⟩ := o
  refine wpAny_setItem_pairs (knd := intKind prog w) (k := k) (intKind_is _ _ _ _) (hd prog w) (fun h' hm hb => ?_) (by rw [hr.length]; exact hl)
  have e : stored vs k (.int n t') = vs ++ [(k, .int n t')] := by
    have h1 : (valueAt vs k).isSome = false := by rw [hr.some]; exact hk
    unfold stored
    rw [if_neg]
    intro h2
    obtain ⟨kv, hm1, hm2⟩ := List.any_eq_true.mp h2
    unfold valueAt at h1
    rw [Option.isSome_map] at h1
    rw [List.find?_isSome.mpr ⟨kv, hm1, hm2⟩] at h1
    cases h1
  rw [e] at hm
  exact hq h' _ ⟨_, hs, fun prog' w' => dict_any hm, hr.add⟩ hb (let ⟨o, _, _, ho, _⟩ := hm; ⟨o, ho⟩)
end

mutual
theorem VR.inj {ψ : List Addr} {h : Heap} : ∀ {x y : PyData} {v : Value}, VR ψ h x v → VR ψ h y v → x = y
  | .none, y, v, e, e' => by
    cases e
    cases y with
    | none => rfl
    | bool b => cases e'
    | int i => obtain ⟨_, e'⟩ := e'; cases e'
    | str i => obtain ⟨_, e'⟩ := e'; cases e'
    | list i => obtain ⟨_, _, e', _⟩ := e'; cases e'
    | tuple i => obtain ⟨_, _, e', _⟩ := e'; cases e'
    | dict i => cases e'
  | .bool b, y, v, e, e' => by
    cases e
    cases y with
    | none => cases e'
    | bool b => cases e'; rfl
    | int i => obtain ⟨_, e'⟩ := e'; cases e'
    | str i => obtain ⟨_, e'⟩ := e'; cases e'
    | list i => obtain ⟨_, _, e', _⟩ := e'; cases e'
    | tuple i => obtain ⟨_, _, e', _⟩ := e'; cases e'
    | dict i => cases e'
  | .int b, y, v, ⟨t, e⟩, e' => by
    cases e
    cases y with
    | none => cases e'
    | bool b => cases e'
    | int i => obtain ⟨_, e'⟩ := e'; cases e'; rfl
    | str i => obtain ⟨_, e'⟩ := e'; cases e'
    | list i => obtain ⟨_, _, e', _⟩ := e'; cases e'
    | tuple i => obtain ⟨_, _, e', _⟩ := e'; cases e'
    | dict i => cases e'
  | .str b, y, v, ⟨t, e⟩, e' => by
    cases e
    cases y with
    | none => cases e'
    | bool b => cases e'
    | int i => obtain ⟨_, e'⟩ := e'; cases e'
    | str i => obtain ⟨_, e'⟩ := e'; cases e'; rfl
    | list i => obtain ⟨_, _, e', _⟩ := e'; cases e'
    | tuple i => obtain ⟨_, _, e', _⟩ := e'; cases e'
    | dict i => cases e'
  | .list xs, y, v, ⟨a, vs, e, ⟨n, hp⟩, _, hv⟩, e' => by
    cases e
    cases y with
    | none => cases e'
    | bool b => cases e'
    | int i => obtain ⟨_, e'⟩ := e'; cases e'
    | str i => obtain ⟨_, e'⟩ := e'; cases e'
    | list ys =>
      obtain ⟨a', vs', e', ⟨n', hp'⟩, _, hv'⟩ := e'
      cases e'
      rw [hp] at hp'
      cases hp'
      rw [VRs.inj hv hv']
    | tuple ys =>
      obtain ⟨a', vs', e', ⟨o, hp', hc, _⟩, _⟩ := e'
      cases e'
      rw [hp] at hp'
      cases hp'
      exact absurd hc (by simp)
    | dict i => cases e'
  | .tuple xs, y, v, ⟨a, vs, e, ⟨o, ho, hc, n, hd⟩, _, hv⟩, e' => by
    cases e
    cases y with
    | none => cases e'
    | bool b => cases e'
    | int i => obtain ⟨_, e'⟩ := e'; cases e'
    | str i => obtain ⟨_, e'⟩ := e'; cases e'
    | list ys =>
      obtain ⟨a', vs', e', ⟨n', hp'⟩, _⟩ := e'
      cases e'
      rw [ho] at hp'
      cases hp'
      exact absurd hc (by simp)
    | tuple ys =>
      obtain ⟨a', vs', e', ⟨o', ho', hc', n', hd'⟩, _, hv'⟩ := e'
      cases e'
      rw [ho] at ho'
      cases ho'
      rw [hd] at hd'
      cases hd'
      rw [VRs.inj hv hv']
    | dict i => cases e'
  | .dict _, _, _, e, _ => e.elim
theorem VRs.inj {ψ : List Addr} {h : Heap} : ∀ {xs ys : List PyData} {vs : List Value}, VRs ψ h xs vs → VRs ψ h ys vs → xs = ys
  | [], ys, vs, e, e' => by
    cases e
    cases ys with
    | nil => rfl
    | cons y ys => obtain ⟨_, _, e', _⟩ := e'; cases e'
  | x :: xs, ys, vs, ⟨v, ws, e, hv, hr⟩, e' => by
    subst e
    cases ys with
    | nil => cases e'
    | cons y ys =>
      obtain ⟨v', ws', e', hv', hr'⟩ := e'
      cases e'
      rw [VR.inj hv hv', VRs.inj hr hr']
end

open Classical in
theorem index_sound {A : Around} {E : Value → Shared → Prop} {s : Shared} {ψ : List Addr} {l : Addr} {vs : Array Value} {xs : List PyData} {x : PyData} {u : Value} {n : Nat} {Q : Value → Shared → Prop} (hl : s.heap.PlainList l vs) (hv : VRs ψ s.heap xs vs.toList) (ru : RR ψ s.heap x u)
    (hz : indexD x xs = some n) (hsz : xs.length ≤ 16777216) (hu : A.units + 70 < cLine) (hq : Q (.int (n : Int) s.toks) { s with toks := s.toks + 1 }) : wpAny (model prog w) A (call (.builtin "list.index") [.ref l, u]) Q E s := by
  obtain ⟨n0, ho⟩ := hl
  unfold indexD at hz
  split at hz
  · rename_i hall
    rw [List.all_eq_true] at hall
    obtain ⟨as, ra⟩ := ru.reads
    have hlen : vs.size = xs.length := hv.size
    have at_ : ∀ i (h1 : i < vs.size) (h2 : i < xs.length), VR ψ s.heap xs[i] vs[i] := fun i h1 h2 => by
      obtain ⟨v, e1, e2⟩ := hv.get (List.getElem?_eq_getElem h2)
      rw [Array.getElem?_toList, Array.getElem?_eq_getElem h1] at e1
      cases e1
      exact e2
    have he : ∀ i (h1 : i < vs.size) (h2 : i < xs.length), decide (∃ d, VR ψ s.heap d vs[i] ∧ PyData.eqv d x = true) = PyData.eqv xs[i] x := fun i h1 h2 => by
      have q := at_ i h1 h2
      cases hb : PyData.eqv xs[i] x with
      | true => exact decide_eq_true ⟨_, q, hb⟩
      | false => exact decide_eq_false fun ⟨d, hd, e⟩ => by rw [VR.inj hd q, hb] at e; cases e
    obtain ⟨hn, hp, hno⟩ := List.findIdx?_eq_some_iff_getElem.mp hz
    refine call_meets PySem.F.slot_list_index ⟨_, ho, rfl⟩ PySem.F.entry_list_index (PySem.F.args_list_index_2 _ _)
      (list_indexAt l vs n0 none #[] u (fun v => decide (∃ d, VR ψ s.heap d v ∧ PyData.eqv d x = true)) n (by omega) (by omega) ?_ ?_) ⟨ho, fun y hy => ?_, hq⟩
    · exact (he n (by omega) hn).trans hp
    · intro m hm hlt
      exact (he m hm (by omega)).trans (by simpa using hno m hlt)
    · obtain ⟨i, hi, rfl⟩ := Array.mem_iff_getElem.mp hy
      have hi2 : i < xs.length := by omega
      rw [show (decide (∃ d, VR ψ s.heap d vs[i] ∧ PyData.eqv d x = true)) = PyData.eqv xs[i] x from he i hi hi2]
      obtain ⟨bs, rb⟩ := (at_ i hi hi2).reads
      obtain ⟨h1, h2, h3⟩ := eqOk_spec (hall xs[i] (List.getElem_mem hi2))
      refine eqAt_reads xs[i] x _ s _ _ bs as rb ra h1 h2 ?_
      show A.units + 1 + _ < cLine
      omega
  · cases hz
end Mini

namespace Mini
open PySem PySem.Spec PySem.Calls PyProof.Rows
variable {prog : Program} {w : World}

theorem itSem_small {se : Rho → Mu → Option (MV × Mu)} {rng : Bool} : ∀ ρ μ p, itSem se rng ρ μ = some p → p.1.length ≤ 16777216 := by
  intro ρ μ p h
  obtain ⟨q, _, h⟩ := Option.bind_eq_some_iff.mp h
  obtain ⟨xs, h, rfl⟩ := Option.map_eq_some_iff.mp h
  unfold itemsD at h
  split at h
  · split at h
    · cases h; rename_i hk; simp; omega
    · cases h
  · split at h
    · cases h; assumption
    · cases h
  · cases h
theorem comp_sem {F : List Fn} {rng : Bool} {caps : List Nat} {a elt : ME} {ts : MTs} {ρ : Rho} {μ : Mu} {q : MV × Mu} (h : evE F (.comp rng caps a ts elt) ρ μ = some q) : ((compSem (itSem (evE F a) rng) (evBs F .And ts) (evE F elt) caps ρ μ).map fun q => (MV.d (.list q.1), q.2)) = some q := by
  simp only [evE, Option.bind_eq_some_iff, Option.map_eq_some_iff] at h
  obtain ⟨p, h1, xs, h2, r, h3, rfl⟩ := h
  have e : itSem (evE F a) rng ρ μ = some (xs, p.2) := by simp only [itSem, h1, Option.bind_some, h2, Option.map_some]
  simp only [compSem, e, Option.bind_some]
  rw [show compF (evBs F .And ts) (evE F elt) (caps.map fun j => ρ[j]?.join) xs p.2 = some r from h3]
  rfl
theorem evBs_one {F : List Fn} {t : MT} {ρ : Rho} {μ : Mu} {p : Bool × Mu} (h : evBs F .And (.cons t .nil) ρ μ = some p) : evB F t ρ μ = some p := by
  simp only [evBs, Option.bind_eq_some_iff] at h
  obtain ⟨r, h1, h2⟩ := h
  obtain ⟨b, m⟩ := r
  cases b <;> (rw [h1]; exact h2)
theorem oneTest_sound {X : Cx prog w} {ts : MTs} {ifs : List Expr} (h : ∀ (t : MT) (x : Expr), matchT X.C t x = true → ts = .cons t .nil → SB X x (evB X.F t)) (hone : oneTest ifs = true) (hm : matchTs X.C ts ifs = true) : STs X ifs (evBs X.F .And ts) := by
  intro ρ μ p hp A s ψ φ V E Q hR S hL k
  cases ifs with
  | nil =>
    cases ts with
    | nil =>
      simp only [evBs, Option.some.injEq] at hp
      subst hp
      exact wpAny_tests_nil (k s.heap s.toks S (Keep.refl _ _))
    | cons t ts => cases hm
  | cons x xs =>
    cases xs with
    | cons _ _ => cases hone
    | nil =>
      cases ts with
      | nil => cases hm
      | cons t ts =>
        have hm' : (matchT X.C t x && matchTs X.C ts []) = true := hm
        simp only [Bool.and_eq_true] at hm'
        cases ts with
        | cons _ _ => cases hm'.2
        | nil => exact wpAny_tests_one (h t x hm'.1 rfl ρ μ p (evBs_one hp) A s ψ φ V E Q hR S hL k)

theorem soundVar (X : Cx prog w) (i : Nat) (x : Str) (px : Pos) (hm : X.C.loc i x = true) : SE X (.Name x px) (evE X.F (.var i)) := by
  intro ρ μ q h A s ψ φ V E Q hR S hL k
  obtain ⟨h1, h2, h3⟩ := MC.loc_spec hm
  simp only [evE] at h
  obtain ⟨mv, hv, rfl⟩ := Option.map_eq_some_iff.mp h
  obtain ⟨m, v, l, hx, hr⟩ := hL.get h1 hv
  rcases hx with ⟨e1, e2⟩ | ⟨e1, c, e2, e3⟩
  · exact wpAny_Name (wpAny_loadName_local l.kind (l.kindOf e1) l.ns e2 (k v s.heap s.toks hr S (Keep.refl _ _))) h3
  · exact wpAny_Name (wpAny_loadName_cell l.kind (l.kindOf e1) e2 e3 (k v s.heap s.toks hr S (Keep.refl _ _))) h3

set_option maxHeartbeats 1000000 in
mutual
theorem soundE (X : Cx prog w) : ∀ (me : ME) (e : Expr), matchE X.C me e = true → SE X e (evE X.F me)
  | .var i, e, hm => by
    unfold matchE at hm
    split at hm
    · exact soundVar X i _ _ hm
    · cases hm
  | .bool b, e, hm => by
    unfold matchE at hm
    split at hm
    · intro ρ μ q h A s ψ φ V E Q hR S hL k
      cases of_decide_eq_true hm
      simp only [evE, Option.some.injEq] at h
      subst h
      exact wpAny_Constant_bool (k _ s.heap s.toks rfl S (Keep.refl _ _))
    · cases hm
  | .int n, e, hm => by
    unfold matchE at hm
    split at hm
    · intro ρ μ q h A s ψ φ V E Q hR S hL k
      cases of_decide_eq_true hm
      simp only [evE, Option.some.injEq] at h
      subst h
      exact wpAny_Constant_int (k _ s.heap _ ⟨_, rfl⟩ S (Keep.refl _ _))
    · cases hm
  | .str n, e, hm => by
    unfold matchE at hm
    split at hm
    · intro ρ μ q h A s ψ φ V E Q hR S hL k
      cases of_decide_eq_true hm
      simp only [evE, Option.some.injEq] at h
      subst h
      exact wpAny_Constant_str (k _ s.heap _ ⟨_, rfl⟩ S (Keep.refl _ _))
    · cases hm
  | .bin op a b, e, hm => by
    unfold matchE at hm
    split at hm
    · intro ρ μ q h A s ψ φ V E Q hR S hL k
      simp only [Bool.and_eq_true, decide_eq_true_eq] at hm
      obtain ⟨⟨rfl, ha⟩, hb⟩ := hm
      simp only [evE, Option.bind_eq_some_iff, Option.map_eq_some_iff] at h
      obtain ⟨p1, h1, p2, h2, x, hx, y, hy, z, hz, rfl⟩ := h
      refine wpAny_BinOp (SE.two (soundE X a _ ha) (soundE X b _ hb) h1 h2 hR S hL fun u v h' tk hu hv S' k' => ?_)
      exact bin_sound hz (hu.rr S' hx) (hv.rr S' hy) S'.fresh fun r h'' tk' hr kk => k r h'' tk' hr (S'.grow kk) (k'.trans (.of kk))
    · cases hm
  | .cmp op a b, e, hm => by
    unfold matchE at hm
    split at hm
    · intro ρ μ q h A s ψ φ V E Q hR S hL k
      simp only [Bool.and_eq_true, decide_eq_true_eq, Bool.not_eq_true'] at hm
      obtain ⟨⟨⟨rfl, hbm⟩, ha⟩, hb⟩ := hm
      simp only [evE, Option.bind_eq_some_iff, Option.map_eq_some_iff] at h
      obtain ⟨p1, h1, p2, h2, x, hx, y, hy, z, hz, rfl⟩ := h
      refine wpAny_Compare1 (SE.two (soundE X a _ ha) (soundE X b _ hb) h1 h2 hR S hL fun u v h' tk hu hv S' k' => ?_) hbm
      exact cmp_sound hz (hu.rr S' hx) (hv.rr S' hy) hR.units64 (k _ h' tk rfl S' k')
    · cases hm
  | .tup es, e, hm => by
    unfold matchE at hm
    split at hm
    · intro ρ μ q h A s ψ φ V E Q hR S hL k
      simp only [evE, Option.bind_eq_some_iff] at h
      obtain ⟨p, h1, xs, hx, h2⟩ := h
      split at h2
      · cases h2
        rename_i hs
        refine wpAny_Tuple (soundL X es _ hm ρ μ p h1 A s ψ φ V _ E _ hR S hL fun vs h' tk hv S' k' => ⟨?_, ?_⟩)
        · rw [hv.length, ← allD_length hx]; exact hs
        · refine k _ _ tk ⟨_, _, rfl, ⟨_, Heap.get?_push_size _ rfl, rfl, 0, rfl⟩, S'.fresh, ?_⟩ (S'.push _) (k'.push _)
          exact (hv.allD hx).kept (κ := []) (.of fun _ _ e => Heap.get?_push_of_some _ e) fun _ m => nomatch m
      · cases h2
    · cases hm
  | .idx a b, e, hm => by
    unfold matchE at hm
    split at hm
    · intro ρ μ q h A s ψ φ V E Q hR S hL k
      simp only [Bool.and_eq_true] at hm
      obtain ⟨⟨hi, ha⟩, hb⟩ := hm
      simp only [evE, Option.bind_eq_some_iff, Option.map_eq_some_iff] at h
      obtain ⟨p1, h1, p2, h2, x, hx, y, hy, z, hz, rfl⟩ := h
      refine Subscript_ (SE.two (soundE X a _ ha) (soundE X b _ hb) h1 h2 hR S hL fun u v h' tk hu hv S' k' => ?_)
      exact idx_sound hz (hu.rr S' hx) (hv.rr S' hy) hi fun r tk' hr => k r h' tk' hr S' k'
    · cases hm
  | .call g es, e, hm => by
    unfold matchE at hm
    split at hm
    · rename_i x p0 y ys p1
      intro ρ μ q h A s ψ φ V E Q hR S hL k
      simp only [Bool.and_eq_true, decide_eq_true_eq] at hm
      obtain ⟨⟨hg, hx⟩, he⟩ := hm
      simp only [evE, Option.bind_eq_some_iff, Option.map_eq_some_iff] at h
      obtain ⟨p, h1, fn, hfn, r, hr, rfl⟩ := h
      have hfs : ∃ z, X.fs[g]? = some z ∧ z.1 = x ∧ z.2 = fn := by
        rw [X.hf, List.getElem?_map] at hg
        unfold Cx.F at hfn
        rw [List.getElem?_map] at hfn
        cases hz : X.fs[g]? with
        | none => rw [hz] at hg; cases hg
        | some z =>
          rw [hz] at hg hfn
          exact ⟨z, rfl, Option.some.inj hg, Option.some.inj hfn⟩
      obtain ⟨z, hz, rfl, rfl⟩ := hfs
      obtain ⟨a, o, fd, hmg, hao, hod, hcall⟩ := X.G.fn g z.1 z.2 hz
      have hstar := matchEs_star he
      refine wpAny_Call_NameR (ld_glob hL S.base hx hmg (callWith_function (o := o) (fd := fd) ?_))
      have hsp := soundL X es _ he ρ μ p h1 A s ψ φ V p1 E (fun vs s₁ => (s₁.heap.get? a = some o ∧ o.data = .func fd) ∧ wpAny (model prog w) A (call (.ref a) ([] ++ vs) []) Q E s₁) hR S hL fun vs h' tk hv S' k' =>
        ⟨⟨S'.base a o hao, hod⟩, wpAny_call (hcall A { s with heap := h', toks := tk } ψ φ p.2 p.1 vs r.1 r.2 _ hR S' hv hr fun v h'' tk' hv' S'' k'' => k v h'' tk' hv' S'' (k'.trans k''))⟩
      rw [star_cons hstar, back_cons] at hsp ⊢
      exact evalArgs_plain hsp
    · cases hm
  | .prim k0 es, e, hm => by
    unfold matchE at hm
    split at hm
    · rename_i x p0 y ys p1
      intro ρ μ q h A s ψ φ V E Q hR S hL k
      simp only [Bool.and_eq_true, decide_eq_true_eq] at hm
      obtain ⟨⟨rfl, hx⟩, he⟩ := hm
      simp only [evE, Option.bind_eq_some_iff, Option.map_eq_some_iff] at h
      obtain ⟨p, h1, xs, hxs, z, hz, rfl⟩ := h
      have hstar := matchEs_star he
      refine wpAny_Call_NameR (ld_bi (v := .builtin k0.id) hL S.base hx (prim_used k0) (callWith_builtin ?_ ?_))
      · exact plain_args he
      · have hsp := soundL X es _ he ρ μ p h1 A s ψ φ V p1 E (fun vs s₁ => wpAny (model prog w) A (call (.builtin k0.id) ([] ++ vs) []) Q E s₁) hR S hL fun vs h' tk hv S' k' => by
          obtain ⟨hl1, hl2⟩ := rdAll_rr S' hv hxs
          exact prim_sound (s := { s with heap := h', toks := tk }) hR.handled hz hl1 hl2 fun r h'' tk' hr kk => k r h'' tk' hr (S'.grow kk) (k'.trans (.of kk))
        rw [star_cons hstar, back_cons] at hsp ⊢
        exact evalArgs_plain hsp
    · cases hm
  | .dlen i, e, hm => by
    unfold matchE at hm
    split at hm
    · rename_i f pf x px pc
      simp only [Bool.and_eq_true, decide_eq_true_eq] at hm
      obtain ⟨⟨rfl, hf⟩, hx⟩ := hm
      intro ρ μ q h A s ψ φ V E Q hR S hL k
      simp only [evE] at h
      split at h
      · rename_i j hj
        split at h
        · rename_i kvs hkv
          split at h
          · rename_i hlen
            cases h
            refine wpAny_Call_NameR (ld_bi (v := .builtin "len") hL S.base hf (by simp [builtinsUsed]) (callWith_builtin rfl (evalArgs_plain (spliced_cons ?_))))
            refine soundVar X i x px hx ρ μ (.r j, μ) (by simp [evE, hj]) A s ψ φ V E _ hR S hL fun ov h' tk hv S' k' => spliced_nil ?_
            obtain ⟨a, rfl, ha⟩ := hv
            exact dlen_sound (s := { s with heap := h', toks := tk }) (S'.obj j a _ ha hkv) hlen fun t tk' => k _ h' tk' ⟨_, rfl⟩ S' k'
          · cases h
        · cases h
      · cases h
    · cases hm
  | .dget i a, e, hm => by
    unfold matchE at hm
    split at hm
    · rename_i x px y pc
      simp only [Bool.and_eq_true] at hm
      obtain ⟨⟨hsl, hx⟩, ha⟩ := hm
      intro ρ μ q h A s ψ φ V E Q hR S hL k
      simp only [evE] at h
      split at h
      · rename_i j hj
        obtain ⟨p, h1, h⟩ := Option.bind_eq_some_iff.mp h
        split at h
        · rename_i k0 kvs hp hkv
          obtain ⟨n, hn, rfl⟩ := Option.map_eq_some_iff.mp h
          refine Subscript_ (soundVar X i x px hx ρ μ (.r j, μ) (by simp [evE, hj]) A s ψ φ V E _ hR S hL fun ov h' tk hv S' k' => ?_)
          obtain ⟨b, rfl, hb⟩ := hv
          refine soundE X a y ha ρ μ p h1 A { s with heap := h', toks := tk } ψ φ V E _ hR S' (hL.kept k' S.sub) fun kv h'' tk'' hkv' S'' k'' => ?_
          rw [hp] at hkv'
          obtain ⟨t, rfl⟩ := hkv'
          exact dget_sound (s := { s with heap := h'', toks := tk'' }) (S''.obj j b _ hb hkv) hsl hn fun t tk3 => k _ h'' tk3 ⟨_, rfl⟩ S'' (k'.trans k'')
        · cases h
      · cases h
    · cases hm
  | .dnot a i, e, hm => by
    unfold matchE at hm
    split at hm
    · rename_i y x px pc
      simp only [Bool.and_eq_true, Bool.not_eq_true'] at hm
      obtain ⟨⟨hbm, hx⟩, ha⟩ := hm
      intro ρ μ q h A s ψ φ V E Q hR S hL k
      simp only [evE] at h
      split at h
      · rename_i j hj
        obtain ⟨p, h1, h⟩ := Option.bind_eq_some_iff.mp h
        split at h
        · rename_i k0 kvs hp hkv
          cases h
          refine wpAny_Compare1 (soundE X a y ha ρ μ p h1 A s ψ φ V E _ hR S hL fun kv h' tk hkv' S' k' => ?_) hbm
          refine soundVar X i x px hx ρ p.2 (.r j, p.2) (by simp [evE, hj]) A { s with heap := h', toks := tk } ψ φ V E _ hR S' (hL.kept k' S.sub) fun ov h'' tk'' hv S'' k'' => ?_
          obtain ⟨b, rfl, hb⟩ := hv
          rw [hp] at hkv'
          obtain ⟨t, rfl⟩ := hkv'
          exact dnot_sound (s := { s with heap := h'', toks := tk'' }) (S''.obj j b _ hb hkv) fun tk3 => k _ h'' tk3 rfl S'' (k'.trans k'')
        · cases h
      · cases h
    · cases hm
  | .index i a, e, hm => by
    unfold matchE at hm
    split at hm
    · rename_i x px m apos y pos
      simp only [Bool.and_eq_true, decide_eq_true_eq] at hm
      obtain ⟨⟨⟨⟨hx, rfl⟩, hline⟩, hst⟩, ha⟩ := hm
      intro ρ μ q h A s ψ φ V E Q hR S hL k
      simp only [evE, Option.bind_eq_some_iff] at h
      obtain ⟨v0, hv0, h⟩ := h
      split at h
      · rename_i xs0 hr0
        obtain ⟨p, h1, h⟩ := Option.bind_eq_some_iff.mp h
        obtain ⟨dx, hdx, h⟩ := Option.bind_eq_some_iff.mp h
        split at h
        · rename_i xs hrx
          split at h
          · rename_i hsz
            obtain ⟨n, hn, rfl⟩ := Option.map_eq_some_iff.mp h
            refine wpAny_Call_method1_late rfl (by simp [hline]) (by rw [star_cons hst]; rfl) ?_
            refine soundVar X i x px hx ρ μ (v0, μ) (by simp [evE, hv0]) A s ψ φ V E _ hR S hL fun ov h' tk hv S' k' => ?_
            obtain ⟨l, us, rfl, hl, _⟩ := hv.rr S' hr0
            refine ⟨"list", "list.index", PySem.F.plainAttrs_list, PySem.F.slot_list_index, rfl, hl.isList.typeIs, fun a e => by cases e; obtain ⟨n, e⟩ := hl; exact ⟨_, e, rfl⟩, ?_⟩
            refine callWith_builtin rfl (evalArgs_plain (spliced_cons (soundE X a y ha ρ μ p h1 A { s with heap := h', toks := tk } ψ φ V E _ hR S' (hL.kept k' S.sub) fun u h'' tk'' hu S'' k'' => spliced_nil ?_)))
            obtain ⟨l', vs, e, hl', hvs⟩ := (hv.kept k'' S.sub).rr S'' hrx
            cases e
            exact index_sound (s := { s with heap := h'', toks := tk'' }) hl' hvs (hu.rr S'' hdx) hn hsz (by have := hR.units; omega) (k _ h'' _ ⟨_, rfl⟩ S'' (k'.trans k''))
          · cases h
        · cases h
      · cases h
    · cases hm
  | .comp true caps a ts elt, e, hm => by
    unfold matchE at hm
    split at hm
    · rename_i el x px r pr y rp ifs scope pos
      simp only [Bool.and_eq_true, decide_eq_true_eq] at hm
      obtain ⟨⟨⟨⟨⟨⟨⟨rfl, hg⟩, hst⟩, ha⟩, hco⟩, hone⟩, hts⟩, hel⟩ := hm
      have K := compOk_spec hco
      intro ρ μ q h
      have ht := oneTest_sound (X := X.to (compC X.C scope x caps) K.fns K.kind K.nd) (soundT1 (X.to (compC X.C scope x caps) K.fns K.kind K.nd) ts) hone hts
      refine comp_expr K K.kind (it_range hg hst (soundE X a y ha)) itSem_small ht (soundE (X.to (compC X.C scope x caps) K.fns K.kind K.nd) elt el hel) (fun _ _ => rfl) ρ μ q ?_
      exact comp_sem h
    · cases hm
  | .comp false caps a ts elt, e, hm => by
    unfold matchE at hm
    split at hm
    · rename_i el x px z pz ifs scope pos
      simp only [Bool.and_eq_true] at hm
      obtain ⟨⟨⟨⟨ha, hco⟩, hone⟩, hts⟩, hel⟩ := hm
      have K := compOk_spec hco
      intro ρ μ q h
      have ht := oneTest_sound (X := X.to (compC X.C scope x caps) K.fns K.kind K.nd) (soundT1 (X.to (compC X.C scope x caps) K.fns K.kind K.nd) ts) hone hts
      refine comp_expr K K.kind (it_list (soundE X a (.Name z pz) ha)) itSem_small ht (soundE (X.to (compC X.C scope x caps) K.fns K.kind K.nd) elt el hel) (fun _ _ => rfl) ρ μ q ?_
      exact comp_sem h
    · cases hm
theorem soundL (X : Cx prog w) : ∀ (es : MEs) (xs : List Expr), matchEs X.C es xs = true → SL X xs (evL X.F es)
  | .nil, xs, hm => by
    unfold matchEs at hm
    split at hm
    · intro ρ μ q h A s ψ φ V pos E Q hR S hL k
      simp only [evL, Option.some.injEq] at h
      subst h
      exact spliced_nil (k [] s.heap s.toks rfl S (Keep.refl _ _))
    · cases hm
  | .cons e es, xs, hm => by
    unfold matchEs at hm
    split at hm
    · intro ρ μ q h A s ψ φ V pos E Q hR S hL k
      simp only [Bool.and_eq_true] at hm
      obtain ⟨⟨hst, he⟩, hes⟩ := hm
      simp only [evL, Option.bind_eq_some_iff, Option.map_eq_some_iff] at h
      obtain ⟨p, h1, r, h2, rfl⟩ := h
      rw [star_cons hst, back_cons]
      refine spliced_cons (soundE X e _ he ρ μ p h1 A s ψ φ V E _ hR S hL fun v h' tk hv S' k' => ?_)
      exact soundL X es _ hes ρ p.2 r h2 A { s with heap := h', toks := tk } ψ φ V pos E _ hR S' (hL.kept k' S.sub) fun vs h'' tk' hvs S'' k'' =>
        k (v :: vs) h'' tk' ⟨v, vs, rfl, hv.kept k'' S.sub, hvs⟩ S'' (k'.trans k'')
    · cases hm
theorem soundT (X : Cx prog w) : ∀ (t : MT) (x : Expr), matchT X.C t x = true → SB X x (evB X.F t)
  | .val e, x, hm => by
    unfold matchT at hm
    simp only [Bool.and_eq_true] at hm
    obtain ⟨hp, he⟩ := hm
    intro ρ μ q h A s ψ φ V E Q hR S hL k
    simp only [evB, Option.bind_eq_some_iff, Option.map_eq_some_iff] at h
    obtain ⟨p, h1, y, hy, b, hb, rfl⟩ := h
    by_cases hc : ∃ l o c p, x = .Compare l o c p
    · obtain ⟨l, o, c, pc, rfl⟩ := hc
      cases e with
      | cmp op a b =>
        unfold matchE at he
        split at he
        · rename_i e0
          cases e0
          simp only [Bool.and_eq_true, decide_eq_true_eq, Bool.not_eq_true'] at he
          obtain ⟨⟨⟨rfl, hbm⟩, ha⟩, hb'⟩ := he
          simp only [evE, Option.bind_eq_some_iff, Option.map_eq_some_iff] at h1
          obtain ⟨p1, h1, p2, h2, x, hx, y', hy', z, hz, rfl⟩ := h1
          cases hy
          cases hb
          refine wpAny_isTrue_Compare1 (SE.two (soundE X a _ ha) (soundE X b _ hb') h1 h2 hR S hL fun u v h' tk hu hv S' k' => ?_) hbm
          exact cmp_sound hz (hu.rr S' hx) (hv.rr S' hy') hR.units64 (wpAny_truthy_bool (k h' tk S' k'))
        · cases he
      | dnot a i =>
        unfold matchE at he
        split at he
        · rename_i e0
          cases e0
          simp only [Bool.and_eq_true, Bool.not_eq_true'] at he
          obtain ⟨⟨hbm, hx⟩, ha⟩ := he
          simp only [evE] at h1
          split at h1
          · rename_i j hj
            obtain ⟨p1, h1', h2⟩ := Option.bind_eq_some_iff.mp h1
            split at h2
            · rename_i k0 kvs hp1 hkv
              cases h2
              cases hy
              cases hb
              refine wpAny_isTrue_Compare1 (soundE X a _ ha ρ μ p1 h1' A s ψ φ V E _ hR S hL fun kv h' tk hkv' S' k' => ?_) hbm
              refine soundVar X i _ _ hx ρ p1.2 (.r j, p1.2) (by simp [evE, hj]) A { s with heap := h', toks := tk } ψ φ V E _ hR S' (hL.kept k' S.sub) fun ov h'' tk'' hv S'' k'' => ?_
              obtain ⟨b, rfl, hb⟩ := hv
              rw [hp1] at hkv'
              obtain ⟨t, rfl⟩ := hkv'
              exact dnot_sound (s := { s with heap := h'', toks := tk'' }) (S''.obj j b _ hb hkv) fun tk3 => wpAny_truthy_bool (k h'' tk3 S'' (k'.trans k''))
            · cases h2
          · cases h1
        · cases he
      | comp r _ _ _ _ => cases r <;> cases he
      | _ => cases he
    · rw [isTrue_plain' hp fun l o c p e => hc ⟨l, o, c, p, e⟩]
      refine wpAny_bind (soundE X e x he ρ μ p h1 A s ψ φ V E _ hR S hL fun v h' tk hv S' k' => wpAny_bind (wpAny_standAt (wpAny_holding ?_)))
      have hvb : v = .bool b := by
        have r := hv.rr S' hy
        cases y <;> simp only [truth, Option.some.injEq, reduceCtorEq] at hb
        subst hb; exact r
      subst hvb
      exact wpAny_truthy_bool (k h' tk S' k')
  | .bop op ts, x, hm => by
    unfold matchT at hm
    split at hm
    · intro ρ μ q h A s ψ φ V E Q hR S hL k
      simp only [Bool.and_eq_true, decide_eq_true_eq] at hm
      obtain ⟨rfl, hts⟩ := hm
      simp only [evB] at h
      exact wpAny_isTrue_BoolOp (soundTs X ts _ hts _ ρ μ q h A s ψ φ V E Q hR S hL k)
    · cases hm
theorem soundT1 (X : Cx prog w) : ∀ (ts : MTs) (t : MT) (x : Expr), matchT X.C t x = true → ts = .cons t .nil → SB X x (evB X.F t)
  | .nil, t, x, _, e => by cases e
  | .cons t₀ ts, t, x, hm, e => by
    have e1 : t₀ = t := by cases e; rfl
    have h := soundT X t₀ x (by rw [e1]; exact hm)
    rw [e1] at h
    exact h
theorem soundTs (X : Cx prog w) : ∀ (ts : MTs) (xs : List Expr), matchTs X.C ts xs = true → ∀ (op : BoolOp) (ρ : Rho) (μ : Mu) (p : Bool × Mu), evBs X.F op ts ρ μ = some p →
    ∀ (A : Around) (s : Shared) (ψ φ : List Addr) (V : FV) (E : Value → Shared → Prop) (Q : Bool → Shared → Prop),
    Room X.n A → St X.h₀ ψ φ μ s.heap → Loc X.C V ψ φ ρ s.heap →
    (∀ h' tk, St X.h₀ ψ φ p.2 h' → Keep φ s.heap h' → Q p.1 { s with heap := h', toks := tk }) →
    wpAny (model prog w) A (allTrue op xs (V.env)) Q E s
  | .nil, xs, hm => by
    unfold matchTs at hm
    split at hm
    · intro op ρ μ p h A s ψ φ V E Q hR S hL k
      simp only [evBs, Option.some.injEq] at h
      subst h
      exact wpAny_pure (k s.heap s.toks S (Keep.refl _ _))
    · cases hm
  | .cons t ts, xs, hm => by
    unfold matchTs at hm
    split at hm
    · rename_i x xs'
      intro op ρ μ p h A s ψ φ V E Q hR S hL k
      simp only [Bool.and_eq_true] at hm
      obtain ⟨ht, hts⟩ := hm
      simp only [evBs, Option.bind_eq_some_iff] at h
      obtain ⟨q, h1, h2⟩ := h
      cases op with
      | And =>
        refine wpAny_allTrue_And_cons (soundT X t x ht ρ μ q h1 A s ψ φ V E _ hR S hL fun h' tk S' k' => ?_)
        cases hq : q.1 with
        | true =>
          rw [hq] at h2
          exact soundTs X ts xs' hts .And ρ q.2 p h2 A { s with heap := h', toks := tk } ψ φ V E Q hR S' (hL.kept k' S.sub) fun h'' tk' S'' k'' => k h'' tk' S'' (k'.trans k'')
        | false =>
          rw [hq] at h2
          have : p = q := by cases h2; rfl
          subst this
          have := k h' tk S' k'
          rw [hq] at this
          exact this
      | Or =>
        refine wpAny_allTrue_Or_cons (soundT X t x ht ρ μ q h1 A s ψ φ V E _ hR S hL fun h' tk S' k' => ?_)
        cases hq : q.1 with
        | false =>
          rw [hq] at h2
          exact soundTs X ts xs' hts .Or ρ q.2 p h2 A { s with heap := h', toks := tk } ψ φ V E Q hR S' (hL.kept k' S.sub) fun h'' tk' S'' k'' => k h'' tk' S'' (k'.trans k'')
        | true =>
          rw [hq] at h2
          have : p = q := by cases h2; rfl
          subst this
          have := k h' tk S' k'
          rw [hq] at this
          exact this
    · cases hm
end
end Mini

namespace Mini
open PySem PySem.Spec PySem.Calls PyProof.Rows
variable {prog : Program} {w : World}

set_option maxHeartbeats 1000000 in
mutual
theorem soundS (X : Cx prog w) : ∀ (ms : MS) (st : Stmt), matchS X.C ms st = true → SSt X (exec st) (evS X.F ms)
  | .assign i e, st, hm => by
    unfold matchS at hm
    split at hm
    · intro ρ μ q h A s ψ φ V E Q hR S hL k
      simp only [Bool.and_eq_true] at hm
      obtain ⟨⟨hx, hc⟩, he⟩ := hm
      simp only [evS, Option.map_eq_some_iff] at h
      obtain ⟨p, h1, rfl⟩ := h
      refine wpAny_Assign_Name (soundE X e _ he ρ μ p h1 A s ψ φ V E _ hR S hL fun v h' tk hv S' k' => ?_) (notComp_swaps hc)
      exact store_sound (s := { s with heap := h', toks := tk }) S' (hL.kept k' S.sub) hx hv fun h'' tk' S'' hL'' k'' => k .next ψ φ h'' tk' rfl (Ext.refl _ _ _) S'' hL'' (k'.toL k'')
    · cases hm
  | .newlist i es, st, hm => by
    unfold matchS at hm
    split at hm
    · intro ρ μ q h A s ψ φ V E Q hR S hL k
      simp only [Bool.and_eq_true] at hm
      obtain ⟨hx, he⟩ := hm
      simp only [evS, Option.bind_eq_some_iff] at h
      obtain ⟨p, h1, xs, hxs, h⟩ := h
      split at h
      · cases h
        rename_i hs
        refine wpAny_Assign_Name (wpAny_List (soundL X es _ he ρ μ p h1 A s ψ φ V _ E _ hR S hL fun vs h' tk hv S' k' => ⟨?_, ?_⟩))
        · rw [hv.length, ← allD_length hxs]; exact hs
        · have hnew : s.heap.get? h'.objs.size = none := by
            cases hq : s.heap.get? h'.objs.size with
            | none => rfl
            | some o => exact absurd (Heap.lt_size (k' _ _ hq fun m => S'.fresh (S.sub _ m))) (Nat.lt_irrefl _)
          refine store_sound (s := { s with heap := h'.push { cls := .type "list", data := .seq vs.toArray }, toks := tk }) (mv := .r p.2.length) (S'.alloc (hv.allD hxs)) (Loc.alloc S' (hL.kept k' S.sub) _) hx ⟨_, rfl, ?_⟩ fun h'' tk' S'' hL'' k'' => ?_
          · rw [← S'.len, List.getElem?_append_right (Nat.le_refl _), Nat.sub_self]; rfl
          · refine k .next _ _ h'' tk' rfl ⟨fun _ m => .tail _ m, fun a m => ?_, [h'.objs.size], rfl, fun a m => by rw [List.mem_singleton.mp m]; exact hnew⟩ S'' hL'' ((k'.push _).toL k'')
            rcases List.mem_cons.mp m with rfl | m
            · exact .inr hnew
            · exact .inl m
      · cases h
    · cases hm
  | .append i e, st, hm => by
    unfold matchS at hm
    split at hm
    · rename_i x px m apos y pos p0
      intro ρ μ q h A s ψ φ V E Q hR S hL k
      simp only [Bool.and_eq_true, decide_eq_true_eq] at hm
      obtain ⟨⟨⟨⟨hx, rfl⟩, hline⟩, hst⟩, he⟩ := hm
      simp only [evS] at h
      split at h
      · rename_i j hj
        split at h
        rotate_left
        · cases h
        rename_i hisl
        obtain ⟨p, h1, h⟩ := Option.bind_eq_some_iff.mp h
        split at h
        · rename_i x' xs hp hxs
          split at h
          · cases h
            rename_i hs
            refine wpAny_Expr_any (wpAny_Call_append rfl (by rw [star_cons hst]; rfl) (by simp [hline]) (by rw [star_cons hst]; rfl) ?_) (by obtain ⟨_, l⟩ := hL; show (V.env.scope.kind == .module && _) = false; rw [l.kind]; rfl)
            refine soundE X (.var i) (.Name x px) hx ρ μ (.r j, μ) (by simp [evE, hj]) A s ψ φ V E _ hR S hL fun ov h' tk hv S' k' => ?_
            obtain ⟨a, rfl, ha⟩ := hv
            obtain ⟨ys, hys⟩ : ∃ ys, μ[j]? = some (.l ys) := by
              unfold isL at hisl
              split at hisl
              · rename_i ys hys; exact ⟨ys, hys⟩
              · cases hisl
            obtain ⟨us, ⟨n, hus⟩, _⟩ := S'.lst j a ys ha hys
            refine ⟨a, us, rfl, ⟨_, n, hus, rfl, rfl, rfl⟩, ?_⟩
            refine soundE X e _ he ρ μ p h1 A { s with heap := h', toks := tk } ψ φ V E _ hR S' (hL.kept k' S.sub) fun v h'' tk'' hv'' S'' k'' => ?_
            rw [hp] at hv''
            obtain ⟨vs, hvs, hvr⟩ := S''.lst j a xs ha hxs
            refine wpAny_list_append_plain hvs (fun h3 hp3 hs3 => ?_) (by rw [hvr.size]; exact hs)
            obtain ⟨S3, k3⟩ := S''.set (xs := xs ++ [x']) ha hp3 hs3 (by rw [Array.toList_push]; exact hvr.append (.one hv''))
            exact k .next ψ φ h3 tk'' rfl (Ext.refl _ _ _) S3 (hL.kept ((k'.trans k'').trans k3) S.sub) (((k'.trans k'').trans k3).inφ)
          · cases h
        · cases h
      · cases h
    · cases hm
  | .ite c a b, st, hm => by
    unfold matchS at hm
    split at hm
    · intro ρ μ q h A s ψ φ V E Q hR S hL k
      simp only [Bool.and_eq_true] at hm
      obtain ⟨⟨hc, ha⟩, hb⟩ := hm
      simp only [evS, Option.bind_eq_some_iff] at h
      obtain ⟨p, h1, h2⟩ := h
      refine wpAny_If (soundT X c _ hc ρ μ p h1 A s ψ φ V E _ hR S hL fun h' tk S' k' => ?_)
      have fin : ∀ fl ψ' φ' h'' tk', Flows ψ' φ' h'' q.1 fl → Ext ψ φ ψ' φ' h' → St X.h₀ ψ' φ' q.2.2 h'' → Loc X.C V ψ' φ' q.2.1 h'' → Keep (V.own ++ φ) h' h'' → Q fl { s with heap := h'', toks := tk' } := fun fl ψ' φ' h'' tk' hfl x S'' hL'' k'' =>
        k fl ψ' φ' h'' tk' hfl ((Ext.refl ψ φ s.heap).trans x (live_of k'.inφ S' S.sub hL.inψ)) S'' hL'' (k'.inφ.trans k'')
      cases hp : p.1 with
      | true =>
        rw [hp] at h2
        simp only [if_true] at h2 ⊢
        exact soundSs X a _ ha ρ p.2 q h2 A { s with heap := h', toks := tk } ψ φ V E Q hR S' (hL.kept k' S.sub) fin
      | false =>
        rw [hp] at h2
        simp only [Bool.false_eq_true, if_false] at h2 ⊢
        exact soundSs X b _ hb ρ p.2 q h2 A { s with heap := h', toks := tk } ψ φ V E Q hR S' (hL.kept k' S.sub) fin
    · cases hm
  | .forr i e b, st, hm => by
    unfold matchS at hm
    split at hm
    · simp only [Bool.and_eq_true, decide_eq_true_eq] at hm
      obtain ⟨⟨⟨⟨⟨hx, rfl⟩, hg⟩, hst⟩, he⟩, hb⟩ := hm
      intro ρ μ q h
      simp only [evS] at h
      exact for_sound hx hg hst (soundE X e _ he) (soundSs X b _ hb) ρ μ q h
    · cases hm
  | .ret e, st, hm => by
    unfold matchS at hm
    split at hm
    · intro ρ μ q h A s ψ φ V E Q hR S hL k
      simp only [evS, Option.map_eq_some_iff] at h
      obtain ⟨p, h1, rfl⟩ := h
      exact wpAny_Return_some (soundE X e _ hm ρ μ p h1 A s ψ φ V E _ hR S hL fun v h' tk hv S' k' => k (.ret v) ψ φ h' tk ⟨v, rfl, hv⟩ (Ext.refl _ _ _) S' (hL.kept k' S.sub) k'.inφ)
    · cases hm
  | .compr i caps e ts elt, st, hm => by
    unfold matchS at hm
    split at hm
    · rename_i y py v spos
      simp only [Bool.and_eq_true] at hm
      obtain ⟨⟨hy, htg⟩, he⟩ := hm
      unfold matchE at he
      split at he
      · rename_i el x px r pr a rp ifs scope pos
        unfold compTgt at htg
        simp only [Bool.and_eq_true, decide_eq_true_eq, Bool.not_eq_true'] at he htg
        obtain ⟨⟨⟨⟨⟨⟨⟨rfl, hg⟩, hst⟩, ha⟩, hco⟩, hone⟩, hts⟩, hel⟩ := he
        obtain ⟨⟨h2, h3⟩, h4⟩ := htg
        have K := compOk_spec hco
        intro ρ μ q h
        have ht := oneTest_sound (X := X.to (compC X.C scope x caps) K.fns K.kind K.nd) (soundT1 (X.to (compC X.C scope x caps) K.fns K.kind K.nd) ts) hone hts
        refine comp_stmt K K.kind (it_range hg hst (soundE X e _ ha)) itSem_small ht (soundE (X.to (compC X.C scope x caps) K.fns K.kind K.nd) elt el hel) (fun _ _ => rfl) hy h2 h3 h4 ρ μ q ?_
        simp only [evS, Option.bind_eq_some_iff, Option.map_eq_some_iff] at h
        obtain ⟨p, h1, xs, h2, r, h3, rfl⟩ := h
        have e1 : itSem (evE X.F e) true ρ μ = some (xs, p.2) := by simp only [itSem, h1, Option.bind_some, h2, Option.map_some]
        have e2 : compSem (itSem (evE X.F e) true) (evBs X.F .And ts) (evE X.F elt) caps ρ μ = some r := by simp only [compSem, e1, Option.bind_some]; exact h3
        exact Option.map_eq_some_iff.mpr ⟨r, e2, rfl⟩
      · cases he
    · cases hm
  | .comprn i caps e ts elt, st, hm => by
    unfold matchS at hm
    split at hm
    · rename_i y py v spos
      simp only [Bool.and_eq_true] at hm
      obtain ⟨⟨hy, htg⟩, he⟩ := hm
      unfold matchE at he
      split at he
      · rename_i el x px z pz ifs scope pos
        unfold compTgt at htg
        simp only [Bool.and_eq_true, decide_eq_true_eq, Bool.not_eq_true'] at he htg
        obtain ⟨⟨⟨⟨ha, hco⟩, hone⟩, hts⟩, hel⟩ := he
        obtain ⟨⟨h2, h3⟩, h4⟩ := htg
        have K := compOk_spec hco
        intro ρ μ q h
        have ht := oneTest_sound (X := X.to (compC X.C scope x caps) K.fns K.kind K.nd) (soundT1 (X.to (compC X.C scope x caps) K.fns K.kind K.nd) ts) hone hts
        refine comp_stmtn K K.kind (it_list (soundE X e _ ha)) itSem_small ht (soundE (X.to (compC X.C scope x caps) K.fns K.kind K.nd) elt el hel) (fun _ _ => rfl) hy h2 h3 h4 ρ μ q ?_
        simp only [evS, Option.bind_eq_some_iff, Option.map_eq_some_iff] at h
        obtain ⟨p, h1, xs, h2, r, h3, rfl⟩ := h
        have e1 : itSem (evE X.F e) false ρ μ = some (xs, p.2) := by simp only [itSem, h1, Option.bind_some, h2, Option.map_some]
        have e2 : compSem (itSem (evE X.F e) false) (evBs X.F .And ts) (evE X.F elt) caps ρ μ = some r := by simp only [compSem, e1, Option.bind_some]; exact h3
        exact Option.map_eq_some_iff.mpr ⟨r, e2, rfl⟩
      · cases he
    · cases hm
  | .dnew i, st, hm => by
    unfold matchS at hm
    split at hm
    · rename_i x px p0 p1
      intro ρ μ q h A s ψ φ V E Q hR S hL k
      simp only [evS, Option.some.injEq] at h
      subst h
      refine wpAny_Assign_Name (wpAny_Dict_empty ?_)
      have hnew : s.heap.get? s.heap.objs.size = none := by
        cases hq : s.heap.get? s.heap.objs.size with
        | none => rfl
        | some o => exact absurd (Heap.lt_size hq) (Nat.lt_irrefl _)
      have hsys : (s.heap.objs.size == sysModules) = false := by
        obtain ⟨o, _, _, ho, _⟩ := X.G.g
        have h1 : 3 < s.heap.objs.size := Heap.lt_size (S.base _ _ ho)
        have : s.heap.objs.size ≠ 1 := by omega
        simpa [sysModules] using this
      refine store_sound (s := { s with heap := s.heap.push { cls := .type "dict", data := .dict #[] }, toks := s.toks }) (mv := .r μ.length) (S.allocM hsys) (Loc.alloc S hL _) hm ⟨_, rfl, ?_⟩ fun h'' tk' S'' hL'' k'' => ?_
      · rw [← S.len, List.getElem?_append_right (Nat.le_refl _), Nat.sub_self]; rfl
      · refine k .next _ _ h'' tk' rfl ⟨fun _ m => .tail _ m, fun a m => ?_, [s.heap.objs.size], rfl, fun a m => by rw [List.mem_singleton.mp m]; exact hnew⟩ S'' hL'' (((Keep.refl φ s.heap).push _).toL k'')
        rcases List.mem_cons.mp m with rfl | m
        · exact .inr hnew
        · exact .inl m
    · cases hm
  | .dset i ek ev, st, hm => by
    unfold matchS at hm
    split at hm
    · rename_i x px y ps v p1
      simp only [Bool.and_eq_true] at hm
      obtain ⟨⟨⟨⟨hx, hsl⟩, hc⟩, hek⟩, hev⟩ := hm
      intro ρ μ q h A s ψ φ V E Q hR S hL k
      simp only [evS] at h
      split at h
      · rename_i j hj
        obtain ⟨p, h1, h⟩ := Option.bind_eq_some_iff.mp h
        obtain ⟨p2, h2, h⟩ := Option.bind_eq_some_iff.mp h
        split at h
        · rename_i n k0 kvs hp hp2 hkv
          split at h
          · rename_i hs
            cases h
            refine wpAny_Assign_Subscript (soundE X ev v hev ρ μ p h1 A s ψ φ V E _ hR S hL fun v1 h' tk hv1 S' k' => ?_) (notComp_swaps hc)
            refine soundE X (.var i) (.Name x px) hx ρ p.2 (.r j, p.2) (by simp [evE, hj]) A { s with heap := h', toks := tk } ψ φ V E _ hR S' (hL.kept k' S.sub) fun ov h2' tk2 hv2 S2 k2 => ?_
            refine soundE X ek y hek ρ p.2 p2 h2 A { s with heap := h2', toks := tk2 } ψ φ V E _ hR S2 (hL.kept (k'.trans k2) S.sub) fun v3 h3 tk3 hv3 S3 k3 => ?_
            rw [hp] at hv1
            obtain ⟨t1, rfl⟩ := hv1
            obtain ⟨a, rfl, ha⟩ := hv2
            rw [hp2] at hv3
            obtain ⟨t3, rfl⟩ := hv3
            refine dset_sound (s := { s with heap := h3, toks := tk3 }) (S3.obj j a _ ha hkv) hs.1 hs.2 fun h4 tk4 o4 hb4 hl4 => ?_
            obtain ⟨S4, k4⟩ := S3.put ha o4 hl4 hb4
            have kk := ((k'.trans k2).trans k3).trans k4
            exact k .next ψ φ h4 tk4 rfl (Ext.refl _ _ _) S4 (hL.kept kk S.sub) kk.inφ
          · cases h
        · cases h
      · cases h
    · cases hm
  | .fore i e b, st, hm => by
    unfold matchS at hm
    split at hm
    · simp only [Bool.and_eq_true] at hm
      obtain ⟨⟨hx, he⟩, hb⟩ := hm
      intro ρ μ q h
      simp only [evS] at h
      exact fore_sound hx (soundE X e _ he) (soundSs X b _ hb) ρ μ q h
    · cases hm
theorem soundSs (X : Cx prog w) : ∀ (ms : MSs) (sts : List Stmt), matchSs X.C ms sts = true → SSt X (execs sts) (evSs X.F ms)
  | .nil, sts, hm => by
    unfold matchSs at hm
    split at hm
    · intro ρ μ q h A s ψ φ V E Q hR S hL k
      simp only [evSs, Option.some.injEq] at h
      subst h
      exact wpAny_execs_nil (k .next ψ φ s.heap s.toks rfl (Ext.refl _ _ _) S hL (Keep.refl _ _))
    · cases hm
  | .cons m ms, sts, hm => by
    unfold matchSs at hm
    split at hm
    · rename_i st sts'
      intro ρ μ q h A s ψ φ V E Q hR S hL k
      simp only [Bool.and_eq_true] at hm
      simp only [evSs, Option.bind_eq_some_iff] at h
      obtain ⟨r, h1, h2⟩ := h
      refine wpAny_execs_cons (soundS X m st hm.1 ρ μ r h1 A s ψ φ V E _ hR S hL fun fl ψ' φ' h' tk hfl x S' hL' k' => ?_)
      cases hro : r.1 with
      | next =>
        rw [hro] at h2 hfl
        cases hfl
        exact soundSs X ms sts' hm.2 r.2.1 r.2.2 q h2 A { s with heap := h', toks := tk } ψ' φ' V E Q hR S' hL' fun fl ψ'' φ'' h'' tk' hfl x' S'' hL'' k'' =>
          k fl ψ'' φ'' h'' tk' hfl (x.trans x' (live_of k' S' (fun a m => x.sub a (S.sub a m)) hL'.inψ)) S'' hL'' (k'.ext x k'')
      | ret v =>
        rw [hro] at h2 hfl
        cases h2
        obtain ⟨u, rfl, hu⟩ := hfl
        exact k (.ret u) ψ' φ' h' tk (by rw [hro]; exact ⟨u, rfl, hu⟩) x S' hL' k'
    · cases hm
end
end Mini

namespace Mini
open PySem PySem.Spec PySem.Calls PyProof.Rows
variable {prog : Program} {w : World}

theorem lookup_mem {β : Type} : ∀ {l : List (Str × β)} {y : Str} {v : β}, (l.map (·.1)).Nodup → (y, v) ∈ l → l.lookup y = some v
  | [], _, _, _, m => nomatch m
  | (z, u) :: r, y, v, nd, m => by
    rw [List.map_cons, List.nodup_cons] at nd
    rw [List.lookup_cons]
    rcases List.mem_cons.mp m with e | m'
    · cases e; simp
    · have : (y == z) = false := by
        rw [beq_eq_false_iff_ne]
        intro e
        subst e
        exact nd.1 (List.mem_map.mpr ⟨(y, v), m', rfl⟩)
      rw [this]
      exact lookup_mem nd.2 m'

theorem cells_acc : ∀ (names : List (Str × NameKind)) (n : Nat) (acc : List (Str × Addr)) (x : Str), (acc.lookup x).isSome = true → ((cellsFrom n names acc).lookup x).isSome = true
  | [], _, _, _, h => h
  | (y, k) :: r, n, acc, x, h => by
    unfold cellsFrom
    split
    · refine cells_acc r _ _ x ?_
      rw [List.lookup_cons]
      split
      · rfl
      · exact h
    · exact cells_acc r _ _ x h
theorem cells_some : ∀ (names : List (Str × NameKind)) (n : Nat) (acc : List (Str × Addr)) (x : Str), names.lookup x = some .cell → ((cellsFrom n names acc).lookup x).isSome = true
  | [], _, _, _, h => by cases h
  | (y, k) :: r, n, acc, x, h => by
    rw [List.lookup_cons] at h
    unfold cellsFrom
    split at h
    · rename_i hb
      cases h
      rw [if_pos (by decide)]
      refine cells_acc r _ _ x ?_
      rw [List.lookup_cons, hb]; rfl
    · split
      · exact cells_some r _ _ x h
      · exact cells_some r _ _ x h
theorem bindL_other {kd : Str → Option NameKind} : ∀ {bs : List (Str × Value)} {m : Str → Option Value} {y : Str}, y ∉ bs.map (·.1) → bindL kd bs m y = m y
  | [], _, _, _ => rfl
  | (n, v) :: r, m, y, h => by
    rw [List.map_cons, List.mem_cons, not_or] at h
    unfold bindL
    rw [bindL_other h.2]
    split
    · exact if_neg h.1
    · rfl
theorem bindC_other {kd : Str → Option NameKind} : ∀ {bs : List (Str × Value)} {m : Str → Option Value} {y : Str}, y ∉ bs.map (·.1) → bindC kd bs m y = m y
  | [], _, _, _ => rfl
  | (n, v) :: r, m, y, h => by
    rw [List.map_cons, List.mem_cons, not_or] at h
    unfold bindC
    rw [bindC_other h.2]
    split
    · rfl
    · exact if_neg h.1
theorem bindL_get {kd : Str → Option NameKind} : ∀ {bs : List (Str × Value)} {m : Str → Option Value} {y : Str} {v : Value}, (bs.map (·.1)).Nodup → (y, v) ∈ bs → kd y = some .local → bindL kd bs m y = some v
  | [], _, _, _, _, m, _ => nomatch m
  | (n, u) :: r, m, y, v, nd, hm, hk => by
    rw [List.map_cons, List.nodup_cons] at nd
    unfold bindL
    rcases List.mem_cons.mp hm with e | hm
    · cases e
      rw [bindL_other nd.1, if_pos hk]; simp
    · exact bindL_get nd.2 hm hk
theorem bindC_get {kd : Str → Option NameKind} : ∀ {bs : List (Str × Value)} {m : Str → Option Value} {y : Str} {v : Value}, (bs.map (·.1)).Nodup → (y, v) ∈ bs → kd y = some .cell → bindC kd bs m y = some v
  | [], _, _, _, _, m, _ => nomatch m
  | (n, u) :: r, m, y, v, nd, hm, hk => by
    rw [List.map_cons, List.nodup_cons] at nd
    unfold bindC
    rcases List.mem_cons.mp hm with e | hm
    · cases e
      rw [bindC_other nd.1, if_neg (by rw [hk]; decide)]; simp
    · exact bindC_get nd.2 hm hk

section
variable {h₀ h h₁ : Heap} {ψ φ : List Addr} {μ : Mu}
theorem VR.enter {own : List Addr} (k : ∀ b o, h.get? b = some o → h₁.get? b = some o) (hd : ∀ a ∈ own, h.get? a = none) {x : PyData} {v : Value} (e : VR ψ h x v) : VR (own ++ ψ) h₁ x v :=
  VR.keep (κ := []) (.of k) (fun a n ⟨o, e⟩ => ⟨fun m => by
    rcases List.mem_append.mp m with m | m
    · rw [hd a m] at e; cases e
    · exact n m, fun m => nomatch m⟩) e
theorem St.enter (S : St h₀ ψ φ μ h) {own : List Addr} (k : ∀ b o, h.get? b = some o → h₁.get? b = some o) (hd : ∀ a ∈ own, h.get? a = none) (hl : ∀ a ∈ own, ∃ o, h₁.get? a = some o) : St h₀ (own ++ ψ) φ μ h₁ := by
  have ks : ∀ a, a ∉ ψ → (∃ o, h.get? a = some o) → a ∉ (own ++ ψ) ∧ a ∉ ([] : List Addr) := fun a n ⟨o, e⟩ => ⟨fun m => by
    rcases List.mem_append.mp m with m | m
    · rw [hd a m] at e; cases e
    · exact n m, fun m => nomatch m⟩
  refine ⟨fun b o e => k b o (S.base b o e), fun b hb => ?_, fun b hb => ?_, fun b hb => List.mem_append_right _ (S.sub b hb), S.nd, S.len, fun i a xs e q => ?_⟩
  · rcases List.mem_append.mp hb with hb | hb
    · cases q : h₀.get? b with
      | none => rfl
      | some o => have := hd b hb; rw [S.base _ _ q] at this; cases this
    · exact S.off b hb
  · rcases List.mem_append.mp hb with hb | hb
    · exact hl b hb
    · obtain ⟨o, e⟩ := S.live b hb; exact ⟨o, k b o e⟩
  · exact (S.obj i a xs e q).keep (κ := []) (k a) (.of k) ks
theorem St.leave {ψ' e : List Addr} {μ' : Mu} {h' : Heap} (S : St h₀ ψ' (φ ++ e) μ' h') (sub : ∀ a ∈ ψ, a ∈ ψ') (hφ : ∀ a ∈ φ, a ∈ ψ) : St h₀ ψ φ (μ'.take φ.length) h' := by
  have ks : ∀ a, a ∉ ψ' → (∃ o, h'.get? a = some o) → a ∉ ψ ∧ a ∉ ([] : List Addr) := fun a n _ => ⟨fun m => n (sub a m), fun m => nomatch m⟩
  have hlen := S.len
  rw [List.length_append] at hlen
  refine ⟨S.base, fun a m => S.off a (sub a m), fun a m => S.live a (sub a m), hφ, (List.nodup_append.mp S.nd).1, by rw [List.length_take]; omega, fun i a xs e1 q => ?_⟩
  have hi := (List.getElem?_eq_some_iff.mp e1).1
  rw [List.getElem?_take, if_pos hi] at q
  exact (S.obj i a xs (by rw [List.getElem?_append_left hi]; exact e1) q).keep (κ := []) (fun _ e => e) (Keep.refl _ _) ks
end

structure Def (X : Cx prog w) (x : Str) (np nl : Nat) (ms : MSs) : Prop where
  it : ∃ a o params body pm code doc, X.mg x = some (.ref a) ∧ X.h₀.get? a = some o ∧ o.data = .func (docDef x params body X.C.scope pm code doc) ∧ X.h₀.CodeRec code x ∧
    matchSs X.C ms body = true ∧ (∀ vs : List Value, vs.length = np → bindArgs (docDef x params body X.C.scope pm code doc) ⟨vs, []⟩ = pure ((X.C.names.take np).zip vs))
  len : X.C.names.length = np + nl
  loc : ∀ y ∈ X.C.names.take np, X.C.scope.names.lookup y = some .local ∨ X.C.scope.names.lookup y = some .cell
  co : X.C.scope.isCoroutine = false
  gen : X.C.scope.isGenerator = false

theorem fn_ok {X : Cx prog w} {x : Str} {np nl : Nat} {ms : MSs} (D : Def X x np nl ms) : FnOK prog w X.h₀ X.mg (X.n + 1) x (fun args μ => if args.length = np then fnOf X.F nl ms args μ else none) := by
  obtain ⟨⟨a, o, params, body, pm, code, doc, hmg, ho, hd, hcd, hm, hbind⟩, hlen, hloc, hco, hgen⟩ := D
  refine ⟨a, o, _, hmg, ho, hd, fun A s ψ φ μ mvs vs d μ' R hR S hv hf k => ?_⟩
  simp only at hf
  split at hf
  · rename_i hn
    unfold fnOf at hf
    obtain ⟨q, hq, hf⟩ := Option.bind_eq_some_iff.mp hf
    have hvl : vs.length = np := by rw [hv.length, hn]
    refine codeAny_call_function (by have := hR.depth; omega) (S.base a o ho) hd hco hgen rfl (hcd.keeps S.base) (BindsTo.of_eq (hbind vs hvl) _ _ _ _ ?_)
    refine wpAny_newFunctionEnv_cells X.hk (fun y hy => ?_) fun env' he s' x' => ?_
    · rcases hloc y.1 (List.of_mem_zip (b := y.2) hy).1 with h1 | h1
      · exact .inl h1
      · exact .inr ⟨h1, cells_some _ _ _ _ h1⟩
    · obtain ⟨h₁, tk, rfl, _⟩ := x'.done
      have hk₁ : ∀ b o, s.heap.get? b = some o → h₁.get? b = some o := x'.toInCall.keep
      have hLe : env'.locals = s.heap.objs.size := by rw [he]; rfl
      have hcs : env'.cells = cellsFrom (s.heap.objs.size + 1) X.C.scope.names [] := by rw [he]; rfl
      have dead : ∀ b, s.heap.objs.size ≤ b → s.heap.get? b = none := fun b hb => by
        cases hq : s.heap.get? b with
        | none => rfl
        | some o => exact absurd (Heap.lt_size hq) (Nat.not_lt.mpr hb)
      obtain ⟨own, hown⟩ : ∃ own, own = env'.locals :: (env'.cells.filter fun p => decide (env'.cells.lookup p.1 = some p.2)).map (·.2) := ⟨_, rfl⟩
      have hnd : (((X.C.names.take np).zip vs).map (·.1)).Nodup := by
        rw [List.map_fst_zip (by rw [List.length_take, hvl]; omega)]
        exact X.nd.sublist (List.take_sublist _ _)
      have hdead : ∀ b ∈ own, s.heap.get? b = none := fun b hb => by
        subst hown
        rcases List.mem_cons.mp hb with rfl | hb
        · exact dead _ (Nat.le_of_eq hLe.symm)
        · obtain ⟨p, hp, rfl⟩ := List.mem_map.mp hb
          have := x'.above p.1 p.2 (List.mem_filter.mp hp).1
          exact dead _ (hLe ▸ Nat.le_of_lt this)
      have cellLive : ∀ n c, env'.cells.lookup n = some c → h₁.IsCell c (bindC env'.kindOf ((X.C.names.take np).zip vs) (fun _ => none) n) := x'.cell
      have hlive : ∀ b ∈ own, ∃ o, h₁.get? b = some o := fun b hb => by
        subst hown
        rcases List.mem_cons.mp hb with rfl | hb
        · obtain ⟨o, _, _, e, _⟩ := x'.toInCall.ns; exact ⟨o, e⟩
        · obtain ⟨p, hp, rfl⟩ := List.mem_map.mp hb
          obtain ⟨o, e, _⟩ := cellLive p.1 p.2 (of_decide_eq_true (List.mem_filter.mp hp).2)
          exact ⟨o, e⟩
      have S₁ : St X.h₀ (own ++ ψ) φ μ h₁ := S.enter hk₁ hdead hlive
      have hkd : env'.scope.names = X.C.scope.names := by rw [he]; rfl
      have hkind : env'.scope.kind = .function := by rw [he]; exact X.hk
      have hR' : Room X.n (A.deeper env') := ⟨hR.handled, by have := hR.depth; show A.depth + 1 + X.n < _; omega, by have := hR.units; show A.units + 3 + 4 * X.n + 70 < _; omega⟩
      have hko : ∀ y k, X.C.scope.names.lookup y = some k → env'.kindOf y = some k := fun y k e => by unfold Env.kindOf; rw [hkd]; exact e
      have hL₁ : Loc X.C ⟨env', own⟩ (own ++ ψ) φ (mvs.map some ++ List.replicate nl none) h₁ := by
        refine ⟨_, x'.toInCall.ns, hkind, hkd, by rw [he]; rfl, by rw [he]; rfl, by rw [hown]; exact .head _, fun b hb => ⟨List.mem_append_left _ hb, fun m => ?_⟩, fun y hy => ?_, fun y z c h1 h2 => name_of_addr x'.apart (mem_of_lookup h1) (mem_of_lookup h2), fun i mv e => ?_⟩
        · obtain ⟨o, e⟩ := S.live b (S.sub b m)
          rw [hdead b hb] at e; cases e
        · obtain ⟨c, hc⟩ := Option.isSome_iff_exists.mp (cells_some X.C.scope.names (s.heap.objs.size + 1) [] y hy)
          rw [← hcs] at hc
          refine ⟨c, _, hc, ?_, fun e => ?_, cellLive y c hc⟩
          · rw [hown]; exact .tail _ (List.mem_map.mpr ⟨(y, c), List.mem_filter.mpr ⟨mem_of_lookup hc, decide_eq_true hc⟩, rfl⟩)
          · have := x'.above y c (mem_of_lookup hc)
            exact Nat.lt_irrefl _ (e ▸ this)
        · have hi : i < mvs.length := by
            apply Nat.lt_of_not_le
            intro hge
            rw [List.getElem?_append_right (by simpa using hge), List.getElem?_replicate] at e
            split at e <;> cases e
          rw [List.getElem?_append_left (by simpa using hi), List.getElem?_map] at e
          obtain ⟨mv', e1, e2⟩ := Option.map_eq_some_iff.mp e
          cases e2
          obtain ⟨v, hv1, hv2⟩ := hv.get e1
          have hin : i < X.C.names.length := by omega
          have hz : ((X.C.names.take np).zip vs)[i]? = some (X.C.names[i], v) := by
            rw [List.getElem?_zip_eq_some]
            exact ⟨by rw [List.getElem?_take, if_pos (by omega), List.getElem?_eq_getElem hin], hv1⟩
          have hz' := List.mem_of_getElem? hz
          refine ⟨X.C.names[i], v, List.getElem?_eq_getElem hin, ?_, ?_⟩
          · rcases hloc X.C.names[i] (List.of_mem_zip hz').1 with h1 | h1
            · exact .inl ⟨h1, bindL_get hnd hz' (hko _ _ h1)⟩
            · obtain ⟨c, hc⟩ := Option.isSome_iff_exists.mp (cells_some X.C.scope.names (s.heap.objs.size + 1) [] _ h1)
              rw [← hcs] at hc
              exact .inr ⟨h1, c, hc, by have := cellLive _ c hc; rw [bindC_get hnd hz' (hko _ _ h1)] at this; exact this⟩
          · cases mv with
            | d y => exact VR.enter hk₁ hdead hv2
            | r j => exact hv2
      refine ⟨(X.G.nolimit.keeps S.base).keeps hk₁, codeAny_func ?_⟩
      refine soundSs X ms body hm _ μ q hq _ { s with heap := h₁, toks := tk } (own ++ ψ) φ ⟨env', own⟩ _ _ hR' S₁ hL₁ fun fl ψ' φ' h' tk' hfl hx S' hL' k' => ?_
      obtain ⟨e, rfl, hex⟩ := hx.app
      have hsub : ∀ b ∈ ψ, b ∈ ψ' := fun b m => hx.sub b (List.mem_append_right _ m)
      have S'' := S'.leave hsub S.sub
      have kk : Keep φ s.heap h' := fun b o e n => k' b o (hk₁ b o e) fun m => by
        rcases List.mem_append.mp m with m | m
        · rw [hdead b m] at e; cases e
        · exact n m
      have ks : ∀ b, b ∉ ψ' → (∃ o, h'.get? b = some o) → b ∉ ψ ∧ b ∉ ([] : List Addr) := fun b n _ => ⟨fun m => n (hsub b m), fun m => nomatch m⟩
      rw [S.len] at S''
      split at hf
      · rename_i hq1
        cases hf
        rw [hq1] at hfl
        cases hfl
        exact k _ h' tk' rfl S'' kk
      · rename_i y hq1
        cases hf
        rw [hq1] at hfl
        obtain ⟨v, rfl, hv⟩ := hfl
        exact k v h' tk' (VR.keep (κ := []) (Keep.refl _ _) ks hv) S'' kk
      · rename_i i hq1
        split at hf
        · rename_i hle
          split at hf
          rotate_left
          · cases hf
          rename_i xs hxs
          cases hf
          rw [hq1] at hfl
          obtain ⟨v, rfl, b, rfl, hb⟩ := hfl
          obtain ⟨us, hp, hus⟩ := S'.lst i b xs hb hxs
          refine k _ h' tk' ⟨b, us, rfl, hp, fun m => ?_, hus.keep (κ := []) (Keep.refl _ _) ks⟩ S'' kk
          rw [List.getElem?_append_right (by rw [S.len]; exact hle)] at hb
          have h1 := hex b (List.mem_of_getElem? hb)
          obtain ⟨o, h2⟩ := S.live b m
          have h3 := hk₁ b o h2
          rw [h1] at h3; cases h3
        · cases hf
  · cases hf
end Mini

namespace Mini
open PySem PySem.Spec PySem.Calls PyProof.Rows
variable {prog : Program} {w : World}

/-- item[1] -/
def matchSub (x : Str) : Expr → Bool
  | .Subscript (.Name z _) (.Constant (.int k) _ _) _ => decide (z = x) && decide (k = 1)
  | _ => false
/-- type(item[1]) -/
def matchTyp (scope : Scope) (x : Str) : Expr → Bool
  | .Call (.Name t _) [y] [] _ => decide (t = ("type" : Str)) && decide (scope.names.lookup t = some .globalImplicit) && matchSub x y
  | _ => false
/-- type(item[1]) is int -/
def matchElt (scope : Scope) (x : Str) : Expr → Bool
  | .Compare l [op] [.Name u pu] _ => decide (op = .Is) && decide (u = ("int" : Str)) && decide (scope.names.lookup u = some .globalImplicit) && !behindInMarks op (.Name u pu) && matchTyp scope x l
  | _ => false
/-- (.. for item in got) -/
def matchGen (C : MC) (gi : Nat) : Expr → Bool
  | .GeneratorExp elt [⟨.Name x _, .Name y _, [], 0⟩] scope _ =>
    C.loc gi y && decide (scope.kind = .function) && !scope.isCoroutine && decide (scope.names.lookup (".0" : Str) = some .local) && decide (scope.names.lookup x = some .local) && !(x == ("__debug__" : Str)) && scope.names.all (fun z => decide (z.2 ≠ .cell) && decide (z.2 ≠ .free)) && matchElt scope x elt
  | _ => false
/-- all((..)) -/
def matchAllE (C : MC) (gi : Nat) : Expr → Bool
  | .Call (.Name f _) [g] [] _ => decide (f = ("all" : Str)) && C.glob f && matchGen C gi g
  | _ => false
/-- if not all((type(item[1]) is int for item in got)): .. -/
def matchAll (C : MC) (gi : Nat) : Stmt → Bool
  | .If (.UnaryOp op e _) _ [] _ => decide (op = .Not) && matchAllE C gi e
  | _ => false

/-- an object of ψ that is none of φ is changed, and others are new -/
theorem St.otherK {h₀ h h' : Heap} {ψ φ : List Addr} {μ : Mu} (S : St h₀ ψ φ μ h) {L : Addr} (hL : L ∈ ψ) (hn : L ∉ φ) (hl : ∃ o, h'.get? L = some o) (k : Keep [L] h h') : St h₀ ψ φ μ h' := by
  refine ⟨fun b o e => ?_, S.off, fun b hb => ?_, S.sub, S.nd, S.len, fun i b ys e q => ?_⟩
  · exact k b o (S.base b o e) fun hb => by rw [List.mem_singleton.mp hb, S.off L hL] at e; cases e
  · by_cases hba : b = L
    · subst hba; exact hl
    · obtain ⟨o, e⟩ := S.live b hb; exact ⟨o, k b o e fun m => hba (List.mem_singleton.mp m)⟩
  · exact (S.obj i b ys e q).keep (fun o ho => k b o ho fun m => hn (List.mem_singleton.mp m ▸ List.mem_of_getElem? e)) k fun c n _ => ⟨n, fun m => n (List.mem_singleton.mp m ▸ hL)⟩

theorem elt_sound {X : Cx prog w} {scope : Scope} {cl : List (Str × Addr)} {C : Addr} {code : Value} {env : Env} {x : Str} {pt pz p1 p2 p3 pu p4 : Pos} {kc : Nat} {A : Around} {E : Value → Shared → Prop} {s : Shared} {v : Value} {m : Str → Option Value} {y : PyData} {n : Int} {Q : Value → Shared → Prop}
    (hk : scope.kind = .function) (hx : scope.names.lookup x = some .local) (hd : (x == ("__debug__" : Str)) = false) (ht : scope.names.lookup ("type" : Str) = some .globalImplicit) (hu : scope.names.lookup ("int" : Str) = some .globalImplicit) (hbm : behindInMarks .Is (.Name "int" pu) = false)
    (hg : env.globals = mainGlobals) (base : ∀ b o, X.h₀.get? b = some o → s.heap.get? b = some o) (hn : s.heap.Ns C m) (hv : m x = some v) (hr : VR [] s.heap (.tuple [y, .int n]) v)
    (hq : ∀ tk, Q (.bool true) { s with toks := tk }) :
    wpAny (model prog w) A (eval (.Compare (.Call (.Name "type" pt) [.Subscript (.Name x pz) (.Constant (.int 1) kc p1) p2] [] p3) [.Is] [.Name "int" pu] p4) (genEnv scope cl C code builtinsNs env)) Q E s := by
  have bi : ∀ {z : Str} {p : Pos} {u : Value} {A : Around} {E Q : Value → Shared → Prop} {tk : Nat}, scope.names.lookup z = some .globalImplicit → (z, u) ∈ builtinsUsed → (z == ("__debug__" : Str)) = false → Q u { s with toks := tk } → wpAny (model prog w) A (eval (.Name z p) (genEnv scope cl C code builtinsNs env)) Q E { s with toks := tk } := by
    intro z p u A E Q tk h1 h2 h3 h4
    exact Name_function_global (env := genEnv scope cl C code builtinsNs env) hk h1 (loadGlobal_builtin (env := genEnv scope cl C code builtinsNs env) (hg ▸ X.G.g.keeps base) (X.G.bi _ h2).1 (X.G.b.keeps base) (X.G.bi _ h2).2 h4) h3
  refine wpAny_Compare1 (wpAny_Call_NameR (bi (u := .type "type") (tk := s.toks) ht (by simp [builtinsUsed]) rfl ?_)) hbm
  refine PySem.callWith_type rfl (evalArgs_plain (spliced_cons (Subscript_ (wpAny_Name (wpAny_loadName_local (env := genEnv scope cl C code builtinsNs env) hk hx hn hv (wpAny_Constant_int ?_)) hd))))
  refine idx_sound (s := { s with toks := s.toks + 1 }) (ψ := []) (x := .tuple [y, .int n]) (y := .int 1) (z := .int n) rfl hr ⟨_, rfl⟩ rfl fun r tk hr => spliced_nil ?_
  obtain ⟨t, rfl⟩ := hr
  refine call_type_of (Tx := "int") rfl rfl ?_
  refine bi (u := .type "int") hu (by simp [builtinsUsed]) rfl ?_
  exact wpAny_is_plain rfl (hq _)

theorem matchAllE_spec {C : MC} {gi : Nat} {e : Expr} (h : matchAllE C gi e = true) : ∃ pf g cp, e = .Call (.Name "all" pf) [g] [] cp ∧ C.glob "all" = true ∧ matchGen C gi g = true := by
  unfold matchAllE at h
  split at h
  · simp only [Bool.and_eq_true, decide_eq_true_eq] at h
    obtain ⟨⟨rfl, h1⟩, h2⟩ := h
    exact ⟨_, _, _, rfl, h1, h2⟩
  · cases h
theorem matchGen_spec {C : MC} {gi : Nat} {e : Expr} (h : matchGen C gi e = true) : ∃ elt x px y py scope pos, e = .GeneratorExp elt [⟨.Name x px, .Name y py, [], 0⟩] scope pos ∧ C.loc gi y = true ∧ scope.kind = .function ∧ scope.isCoroutine = false ∧ scope.names.lookup (".0" : Str) = some .local ∧ scope.names.lookup x = some .local ∧ (x == ("__debug__" : Str)) = false ∧
    (∀ z ∈ scope.names, z.2 ≠ .cell ∧ z.2 ≠ .free) ∧ matchElt scope x elt = true := by
  unfold matchGen at h
  split at h
  · simp only [Bool.and_eq_true, decide_eq_true_eq, Bool.not_eq_true', List.all_eq_true] at h
    obtain ⟨⟨⟨⟨⟨⟨⟨h1, h2⟩, h3⟩, h4⟩, h5⟩, h6⟩, h7⟩, h8⟩ := h
    exact ⟨_, _, _, _, _, _, _, rfl, h1, h2, h3, h4, h5, h6, h7, h8⟩
  · cases h
theorem matchElt_spec {scope : Scope} {x : Str} {e : Expr} (h : matchElt scope x e = true) : ∃ pt pz kc p1 p2 p3 pu p4, e = .Compare (.Call (.Name "type" pt) [.Subscript (.Name x pz) (.Constant (.int 1) kc p1) p2] [] p3) [.Is] [.Name "int" pu] p4 ∧ scope.names.lookup ("type" : Str) = some .globalImplicit ∧ scope.names.lookup ("int" : Str) = some .globalImplicit ∧ behindInMarks .Is (.Name "int" pu) = false := by
  unfold matchElt at h
  split at h
  · simp only [Bool.and_eq_true, decide_eq_true_eq, Bool.not_eq_true'] at h
    obtain ⟨⟨⟨⟨rfl, rfl⟩, h1⟩, h2⟩, h⟩ := h
    unfold matchTyp at h
    split at h
    · simp only [Bool.and_eq_true, decide_eq_true_eq] at h
      obtain ⟨⟨rfl, h3⟩, h⟩ := h
      unfold matchSub at h
      split at h
      · simp only [Bool.and_eq_true, decide_eq_true_eq] at h
        obtain ⟨rfl, rfl⟩ := h
        exact ⟨_, _, _, _, _, _, _, _, rfl, h3, h1, h2⟩
      · cases h
    · cases h
  · cases h

theorem all_sound {X : Cx prog w} {st : Stmt} {gi : Nat} (hm : matchAll X.C gi st = true) {h₁ : Heap} {c P bm : Addr} {ob : Obj} (hne : ∀ b, b ≠ P → X.h₀.get? b = h₁.get? b) (hPn : X.h₀.get? P = none) (B : Based h₁ h₁ c P #[]) (M : BMod h₁ mainGlobals X.mg bm ob)
    {ρ : Rho} {μ : Mu} {xs : List PyData} (hgot : ρ[gi]?.join = some (.d (.list xs))) (hxs : ∀ x ∈ xs, ∃ y n, x = .tuple [y, .int n])
    {A : Around} {s : Shared} {ψ φ : List Addr} {V : FV} {E : Value → Shared → Prop} {Q : Flow → Shared → Prop} (hR : Room X.n A) (hdepth : A.depth < recursionLimit) (S : St X.h₀ ψ φ μ s.heap) (hL : Loc X.C V ψ φ ρ s.heap) (hcode : V.env.code = .ref c) (hab : h₁.objs.size ≤ V.env.locals)
    (hP : P ∈ ψ) (hPφ : P ∉ φ) (hPo : P ∉ V.own) (hPk : ∀ o, h₁.get? P = some o → s.heap.get? P = some o) (hgen : AllBare s.gens)
    (k : ∀ s' ps, s'.os = s.os → AllBare s'.gens → St X.h₀ ψ φ μ s'.heap → Loc X.C V ψ φ ρ s'.heap → Keep [P] s.heap s'.heap → Based h₁ (regrown h₁ P ps) c P ps → (∀ b o, (regrown h₁ P ps).get? b = some o → s'.heap.get? b = some o) → Q .next s') :
    wpAny (model prog w) A (exec st V.env) Q E s := by
  unfold matchAll at hm
  split at hm
  · rename_i op e np body ip
    simp only [Bool.and_eq_true, decide_eq_true_eq] at hm
    obtain ⟨rfl, hm⟩ := hm
    obtain ⟨pf, g, cp, rfl, hf, hm⟩ := matchAllE_spec hm
    obtain ⟨elt, x, px, y, py, scope, pos, rfl, hy, hkind, hco, h0, hx, hd, hall, hm⟩ := matchGen_spec hm
    obtain ⟨pt, pz, kc, p1, p2, p3, pu, p4, rfl, ht, hu, hbm⟩ := matchElt_spec hm
    obtain ⟨hy1, hy2, hy3⟩ := MC.loc_spec hy
    obtain ⟨m, v, l, hload, hv⟩ := hL.get hy1 hgot
    obtain ⟨cl, hclos, _, _⟩ := closure_pure l (scope := scope) fun z hz e => absurd e (hall z hz).2
    refine wpAny_If (wpAny_isTrue_Not ?_)
    rw [isTrue_plain' rfl fun _ _ _ _ e => by cases e]
    refine wpAny_bind (wpAny_Call_NameR (ld_bi (v := .builtin "all") hL S.base hf (by simp [builtinsUsed]) (callWith_builtin rfl (evalArgs_plain (spliced_cons ?_)))))
    refine GeneratorExp_rowsP (L := V.env.locals) (m := m) B (l.globals ▸ M) hcode rfl hR.handled hco hclos (fun z hz => (hall z hz).1) h0 hx hkind hdepth ?_ (fun _ => rfl)
    have ldv : ∀ {Q E : Value → Shared → Prop}, Q v s → wpAny (model prog w) A (eval (.Name y py) V.env) Q E s := by
      intro Q E hq
      rcases hload with ⟨e1, e2⟩ | ⟨e1, c, e2, e3⟩
      · exact wpAny_Name (wpAny_loadName_local l.kind (l.kindOf e1) l.ns e2 hq) hy3
      · exact wpAny_Name (wpAny_loadName_cell l.kind (l.kindOf e1) e2 e3 hq) hy3
    refine ldv ?_
    obtain ⟨li, vs, rfl, hl, hlψ, hvs⟩ := hv
    have hLlt : V.env.locals < s.heap.objs.size := by obtain ⟨o, _, _, e, _⟩ := l.ns; exact Heap.lt_size e
    have hLK : V.env.locals ≤ s.heap.objs.size - 1 := Nat.le_sub_one_of_lt hLlt
    have F₁ : Fr h₁ V.env.locals s.heap m := ⟨l.ns, fun b o e => by
      by_cases hb : b = P
      · subst hb; exact hPk o e
      · exact S.base b o ((hne b hb).trans e), hab⟩
    refine src_list (K := s.heap.objs.size - 1) (pz := fun _ => true) (F := fun _ y => y = .bool true) B hl.isList F₁ hgen (X.G.nolimit.keeps S.base) hLK (Nat.sub_one_lt_of_lt hLlt) ?_ ?_ ?_
    · intro c' C A' E' i v t m₂ _ _ _ _ _ _ _ _
      exact wpAny_tests_nil ⟨rfl, t.heap, t.toks, rfl, fun _ _ e => e⟩
    · intro c' C A' E' i v t m₂ hA' hD' hU' hv _ F₂ hm₂ hC hkeep
      have kP : Keep [P] s.heap t.heap := fun b o e n => hkeep b o (fun q => n (q ▸ List.mem_singleton.mpr rfl)) e
      obtain ⟨xi, hxi⟩ : ∃ xi, xs[i]? = some xi := by
        have h1 := hvs.length
        rw [Array.length_toList] at h1
        have h2 := (Array.getElem?_eq_some_iff.mp hv).1
        exact ⟨xs[i]'(by omega), List.getElem?_eq_getElem (by omega)⟩
      obtain ⟨v', hv1, hv2⟩ := hvs.get hxi
      rw [Array.getElem?_toList, hv] at hv1
      cases hv1
      obtain ⟨y0, n0, rfl⟩ := hxs xi (List.mem_of_getElem? hxi)
      have hr : VR [] t.heap (.tuple [y0, .int n0]) v := VR.keep kP (fun a n _ => ⟨List.not_mem_nil, fun m => n (List.mem_singleton.mp m ▸ hP)⟩) hv2
      refine elt_sound (X := X) hkind hx hd ht hu hbm l.globals (fun b o e => F₂.keep b o ?_) F₂.ns hm₂ hr fun tk => ⟨rfl, t.heap, tk, rfl, fun _ _ e => e⟩
      have hb : b ≠ P := fun q => by rw [q, hPn] at e; cases e
      exact regrown_other h₁ P _ b o hb ((hne b hb).symm.trans e)
    · intro c' a s₅ B' F' G' hos hk X'
      refine spliced_nil (all_rowsK (K := s.heap.objs.size - 1) F' G' X' hLK (fun _ => true) (fun j v s Q E hv hQ => ?_) fun s' F'' G'' hos' hk' => ?_)
      · obtain ⟨_, _, rfl⟩ := hv
        exact wpAny_truthy_bool hQ
      · have e : (List.range (passing (fun _ => true) vs.size 0).length).all (fun _ => true) = true := by simp
        rw [e]
        refine wpAny_bind (wpAny_standAt (wpAny_holding (wpAny_truthy_bool ?_)))
        show wpAny _ A (execs [] V.env) _ _ _
        have kP : Keep [P] s.heap s'.heap := fun b o e n => hk' b o (Nat.le_sub_one_of_lt (Heap.lt_size e)) (hk b o (fun q => n (q ▸ List.mem_singleton.mpr rfl)) e)
        have hPl : ∃ o, s'.heap.get? P = some o := ⟨_, F''.keep P _ B'.tab.2⟩
        refine wpAny_execs_nil (k s' _ (hos'.trans hos) G'' (S.otherK hP hPφ hPl kP) (hL.keptBy kP (sub_lift hP) fun a ha m => hPo (List.mem_singleton.mp m ▸ ha)) kP B' F''.keep)
  · cases hm
end Mini

namespace Mini
open PySem PySem.Spec PySem.Calls PyProof.Rows
variable {prog : Program} {w : World}

/-- statements that are run to their end, and what stands behind them -/
theorem soundSs_app (X : Cx prog w) : ∀ (ms : MSs) (sts rest : List Stmt), matchSs X.C ms sts = true → ∀ (ρ : Rho) (μ : Mu) (ρ' : Rho) (μ' : Mu), evSs X.F ms ρ μ = some (.next, ρ', μ') →
    ∀ (A : Around) (s : Shared) (ψ φ : List Addr) (V : FV) (E : Value → Shared → Prop) (Q : Flow → Shared → Prop), Room X.n A → St X.h₀ ψ φ μ s.heap → Loc X.C V ψ φ ρ s.heap →
    (∀ ψ' φ' h' tk, Ext ψ φ ψ' φ' s.heap → St X.h₀ ψ' φ' μ' h' → Loc X.C V ψ' φ' ρ' h' → Keep (V.own ++ φ) s.heap h' → wpAny (model prog w) A (execs rest V.env) Q E { s with heap := h', toks := tk }) →
    wpAny (model prog w) A (execs (sts ++ rest) V.env) Q E s
  | .nil, sts, rest, hm, ρ, μ, ρ', μ', h, A, s, ψ, φ, V, E, Q, hR, S, hL, k => by
    unfold matchSs at hm
    split at hm
    · simp only [evSs, Option.some.injEq] at h
      cases h
      exact k ψ φ s.heap s.toks (Ext.refl _ _ _) S hL (Keep.refl _ _)
    · cases hm
  | .cons m ms, sts, rest, hm, ρ, μ, ρ', μ', h, A, s, ψ, φ, V, E, Q, hR, S, hL, k => by
    unfold matchSs at hm
    split at hm
    · rename_i st sts'
      simp only [Bool.and_eq_true] at hm
      simp only [evSs, Option.bind_eq_some_iff] at h
      obtain ⟨r, h1, h2⟩ := h
      rw [List.cons_append]
      refine wpAny_execs_cons (soundS X m st hm.1 ρ μ r h1 A s ψ φ V E _ hR S hL fun fl ψ' φ' h' tk hfl x S' hL' k' => ?_)
      cases hro : r.1 with
      | next =>
        rw [hro] at h2 hfl
        cases hfl
        exact soundSs_app X ms sts' rest hm.2 r.2.1 r.2.2 ρ' μ' h2 A { s with heap := h', toks := tk } ψ' φ' V E Q hR S' hL' fun ψ'' φ'' h'' tk' x' S'' hL'' k'' =>
          k ψ'' φ'' h'' tk' (x.trans x' (live_of k' S' (fun a m => x.sub a (S.sub a m)) hL'.inψ)) S'' hL'' (k'.ext x k'')
      | ret v =>
        rw [hro] at h2
        injection h2 with h2
        rw [h2] at hro
        cases hro
    · cases hm

/-- a call of a def whose body is shown by hand -/
theorem law_enter {X : Cx prog w} {x : Str} {np nl : Nat} {a : Addr} {o : Obj} {params : Arguments} {body : List Stmt} {pm code doc : Value} (hlen : X.C.names.length = np + nl) (hloc : ∀ y ∈ X.C.names.take np, X.C.scope.names.lookup y = some .local ∨ X.C.scope.names.lookup y = some .cell)
    (hco : X.C.scope.isCoroutine = false) (hgen : X.C.scope.isGenerator = false) (hbind : ∀ vs : List Value, vs.length = np → bindArgs (docDef x params body X.C.scope pm code doc) ⟨vs, []⟩ = pure ((X.C.names.take np).zip vs))
    {A : Around} {s : Shared} {ψ φ : List Addr} {μ : Mu} {mvs : List MV} {vs : List Value} {R : Result → Shared → Prop} (ho : s.heap.get? a = some o) (hd : o.data = .func (docDef x params body X.C.scope pm code doc)) (hcd : s.heap.CodeRec code x) (hn : mvs.length = np)
    (hR : Room (X.n + 1) A) (S : St X.h₀ ψ φ μ s.heap) (hv : MVRs ψ φ s.heap mvs vs) {Pf : Shared → Prop} {v : Value} (k : ∀ s', Pf s' → R (.ok (.ret v)) s')
    (hbody : ∀ (env' : Env) (own : List Addr) (h₁ : Heap) (tk : Nat) (Q : Flow → Shared → Prop) (E : Value → Shared → Prop), env'.code = code → env'.locals = s.heap.objs.size → (∀ b ∈ own, s.heap.get? b = none) → (∀ b o, s.heap.get? b = some o → h₁.get? b = some o) →
      St X.h₀ (own ++ ψ) φ μ h₁ → Loc X.C ⟨env', own⟩ (own ++ ψ) φ (mvs.map some ++ List.replicate nl none) h₁ → Room X.n (A.deeper env') → (∀ s', Pf s' → Q (.ret v) s') → wpAny (model prog w) (A.deeper env') (execs body env') Q E { s with heap := h₁, toks := tk }) :
    codeAny (model prog w) A (.call (.ref a) ⟨vs, []⟩) R s := by
  have hvl : vs.length = np := by rw [hv.length, hn]
  refine codeAny_call_function (by have := hR.depth; omega) ho hd hco hgen rfl hcd (BindsTo.of_eq (hbind vs hvl) _ _ _ _ ?_)
  refine wpAny_newFunctionEnv_cells X.hk (fun y hy => ?_) fun env' he s' x' => ?_
  · rcases hloc y.1 (List.of_mem_zip (b := y.2) hy).1 with h1 | h1
    · exact .inl h1
    · exact .inr ⟨h1, cells_some _ _ _ _ h1⟩
  · obtain ⟨h₁, tk, rfl, _⟩ := x'.done
    have hk₁ : ∀ b o, s.heap.get? b = some o → h₁.get? b = some o := x'.toInCall.keep
    have hLe : env'.locals = s.heap.objs.size := by rw [he]; rfl
    have hcs : env'.cells = cellsFrom (s.heap.objs.size + 1) X.C.scope.names [] := by rw [he]; rfl
    have dead : ∀ b, s.heap.objs.size ≤ b → s.heap.get? b = none := fun b hb => by
      cases hq : s.heap.get? b with
      | none => rfl
      | some o => exact absurd (Heap.lt_size hq) (Nat.not_lt.mpr hb)
    obtain ⟨own, hown⟩ : ∃ own, own = env'.locals :: (env'.cells.filter fun p => decide (env'.cells.lookup p.1 = some p.2)).map (·.2) := ⟨_, rfl⟩
    have hnd : (((X.C.names.take np).zip vs).map (·.1)).Nodup := by
      rw [List.map_fst_zip (by rw [List.length_take, hvl]; omega)]
      exact X.nd.sublist (List.take_sublist _ _)
    have hdead : ∀ b ∈ own, s.heap.get? b = none := fun b hb => by
      subst hown
      rcases List.mem_cons.mp hb with rfl | hb
      · exact dead _ (Nat.le_of_eq hLe.symm)
      · obtain ⟨p, hp, rfl⟩ := List.mem_map.mp hb
        have := x'.above p.1 p.2 (List.mem_filter.mp hp).1
        exact dead _ (hLe ▸ Nat.le_of_lt this)
    have cellLive : ∀ n c, env'.cells.lookup n = some c → h₁.IsCell c (bindC env'.kindOf ((X.C.names.take np).zip vs) (fun _ => none) n) := x'.cell
    have hlive : ∀ b ∈ own, ∃ o, h₁.get? b = some o := fun b hb => by
      subst hown
      rcases List.mem_cons.mp hb with rfl | hb
      · obtain ⟨o, _, _, e, _⟩ := x'.toInCall.ns; exact ⟨o, e⟩
      · obtain ⟨p, hp, rfl⟩ := List.mem_map.mp hb
        obtain ⟨o, e, _⟩ := cellLive p.1 p.2 (of_decide_eq_true (List.mem_filter.mp hp).2)
        exact ⟨o, e⟩
    have S₁ : St X.h₀ (own ++ ψ) φ μ h₁ := S.enter hk₁ hdead hlive
    have hkd : env'.scope.names = X.C.scope.names := by rw [he]; rfl
    have hkind : env'.scope.kind = .function := by rw [he]; exact X.hk
    have hR' : Room X.n (A.deeper env') := ⟨hR.handled, by have := hR.depth; show A.depth + 1 + X.n < _; omega, by have := hR.units; show A.units + 3 + 4 * X.n + 70 < _; omega⟩
    have hko : ∀ y k, X.C.scope.names.lookup y = some k → env'.kindOf y = some k := fun y k e => by unfold Env.kindOf; rw [hkd]; exact e
    have hL₁ : Loc X.C ⟨env', own⟩ (own ++ ψ) φ (mvs.map some ++ List.replicate nl none) h₁ := by
      refine ⟨_, x'.toInCall.ns, hkind, hkd, by rw [he]; rfl, by rw [he]; rfl, by rw [hown]; exact .head _, fun b hb => ⟨List.mem_append_left _ hb, fun m => ?_⟩, fun y hy => ?_, fun y z c h1 h2 => name_of_addr x'.apart (mem_of_lookup h1) (mem_of_lookup h2), fun i mv e => ?_⟩
      · obtain ⟨o, e⟩ := S.live b (S.sub b m)
        rw [hdead b hb] at e; cases e
      · obtain ⟨c, hc⟩ := Option.isSome_iff_exists.mp (cells_some X.C.scope.names (s.heap.objs.size + 1) [] y hy)
        rw [← hcs] at hc
        refine ⟨c, _, hc, ?_, fun e => ?_, cellLive y c hc⟩
        · rw [hown]; exact .tail _ (List.mem_map.mpr ⟨(y, c), List.mem_filter.mpr ⟨mem_of_lookup hc, decide_eq_true hc⟩, rfl⟩)
        · have := x'.above y c (mem_of_lookup hc)
          exact Nat.lt_irrefl _ (e ▸ this)
      · have hi : i < mvs.length := by
          apply Nat.lt_of_not_le
          intro hge
          rw [List.getElem?_append_right (by simpa using hge), List.getElem?_replicate] at e
          split at e <;> cases e
        rw [List.getElem?_append_left (by simpa using hi), List.getElem?_map] at e
        obtain ⟨mv', e1, e2⟩ := Option.map_eq_some_iff.mp e
        cases e2
        obtain ⟨v, hv1, hv2⟩ := hv.get e1
        have hin : i < X.C.names.length := by omega
        have hz : ((X.C.names.take np).zip vs)[i]? = some (X.C.names[i], v) := by
          rw [List.getElem?_zip_eq_some]
          exact ⟨by rw [List.getElem?_take, if_pos (by omega), List.getElem?_eq_getElem hin], hv1⟩
        have hz' := List.mem_of_getElem? hz
        refine ⟨X.C.names[i], v, List.getElem?_eq_getElem hin, ?_, ?_⟩
        · rcases hloc X.C.names[i] (List.of_mem_zip hz').1 with h1 | h1
          · exact .inl ⟨h1, bindL_get hnd hz' (hko _ _ h1)⟩
          · obtain ⟨c, hc⟩ := Option.isSome_iff_exists.mp (cells_some X.C.scope.names (s.heap.objs.size + 1) [] _ h1)
            rw [← hcs] at hc
            exact .inr ⟨h1, c, hc, by have := cellLive _ c hc; rw [bindC_get hnd hz' (hko _ _ h1)] at this; exact this⟩
        · cases mv with
          | d y => exact VR.enter hk₁ hdead hv2
          | r j => exact hv2
    refine ⟨(X.G.nolimit.keeps S.base).keeps hk₁, codeAny_func ?_⟩
    exact hbody env' own h₁ tk _ _ (by rw [he]; rfl) hLe hdead hk₁ S₁ hL₁ hR' fun s' hs' => k s' hs'
end Mini

namespace Mini
open PySem PySem.Spec PySem.Calls PyProof.Rows PySem.W
variable {prog : Program} {w : World}

/-- a def of the text, in its Mini form -/
structure FD where
  name : Str
  np : Nat
  nl : Nat
  names : List Str
  body : MSs

def argNames? : Arguments → Option (List Str)
  | ⟨[], as, none, [], [], none, []⟩ => some (as.map (·.arg))
  | _ => none

def checkDef (fns : List Str) (f : FD) (r : DefRec) : Bool :=
  decide (r.name = f.name) && decide (argNames? r.params = some (f.names.take f.np)) && decide (f.names.length = f.np + f.nl) && decide f.names.Nodup &&
  decide (r.scope.kind = .function) && !r.scope.isCoroutine && !r.scope.isGenerator &&
  (f.names.take f.np).all (fun y => decide (r.scope.names.lookup y = some .local) || decide (r.scope.names.lookup y = some .cell)) && matchSs ⟨f.names, r.scope, fns⟩ f.body r.body

def semOf (fs : List (Str × Fn)) (f : FD) : Str × Fn := (f.name, fun args μ => if args.length = f.np then fnOf (fs.map (·.2)) f.nl f.body args μ else none)
def sems : List FD → List (Str × Fn) → List (Str × Fn)
  | [], fs => fs
  | f :: r, fs => sems r (fs ++ [semOf fs f])
def checkAll (q : Program) : List FD → List Str → Bool
  | [], _ => true
  | f :: r, fns => (recsOf q).any (checkDef fns f) && checkAll q r (fns ++ [f.name])
def checkBi (q : Program) (loose : List Str) : Bool :=
  builtinsUsed.all fun p => decide (p.1 ∉ startupNames) && decide (p.1 ∉ loose) && decide (p.1 ∉ (recsOf q).map (·.name)) && decide (p.1 ∉ (litsOf q).map (·.1)) && decide (p.1 ∉ (clssOf q loose).map (·.name)) && decide (p.1 ≠ ("__name__" : Str)) && decide (bootBuiltins p.1 = some p.2)

theorem zip_lookup : ∀ (ks : List Str) (vs : List Value), ks.Nodup → vs.length = ks.length → (ks.filterMap fun n => ((ks.zip vs).lookup n).map (n, ·)) = ks.zip vs := by
  intro ks vs nd hl
  have key : ∀ (l : List Str) (us : List Value), us.length = l.length → (∀ p ∈ l.zip us, (ks.zip vs).lookup p.1 = some p.2) → (l.filterMap fun n => ((ks.zip vs).lookup n).map (n, ·)) = l.zip us := by
    intro l
    induction l with
    | nil => intro us h _; cases us <;> rfl
    | cons x l ih =>
      intro us h hp
      cases us with
      | nil => cases h
      | cons u us =>
        have h1 := hp (x, u) (List.mem_cons_self ..)
        rw [List.zip_cons_cons, List.filterMap_cons, h1]
        simp only [Option.map_some]
        rw [ih us (by simpa using h) fun p m => hp p (List.mem_cons_of_mem _ m)]
  refine key ks vs hl fun p m => lookup_mem ?_ m
  rw [List.map_fst_zip (by omega)]
  exact nd

theorem bind_plain {x : Str} {params : Arguments} {body : List Stmt} {scope : Scope} {pm code doc : Value} {ns : List Str} {vs : List Value} (hp : argNames? params = some ns) (nd : ns.Nodup) (hv : vs.length = ns.length) :
    bindArgs (docDef x params body scope pm code doc) ⟨vs, []⟩ = pure (ns.zip vs) := by
  unfold argNames? at hp
  split at hp
  · rename_i as
    cases hp
    have hz : ∀ n ∈ as.map (·.arg), (((as.map (·.arg)).zip vs).lookup n).isNone = false := by
      intro n hn
      obtain ⟨i, hi, e⟩ := List.mem_iff_getElem.mp hn
      have hv' : i < vs.length := by rw [hv]; exact hi
      have : ((as.map (·.arg)).zip vs).lookup n = some vs[i] := by
        refine lookup_mem (by rw [List.map_fst_zip (by omega)]; exact nd) ?_
        refine List.mem_iff_getElem.mpr ⟨i, by rw [List.length_zip]; omega, ?_⟩
        rw [List.getElem_zip, e]
      rw [this]; rfl
    have hmiss : ((as.map (·.arg)).filter (fun n => (((as.map (·.arg)).zip vs).lookup n).isNone)) = [] := by
      rw [List.filter_eq_nil_iff]
      intro n hn
      rw [hz n hn]
      simp
    have hlen : ¬ vs.length > (as.map (·.arg)).length := by omega
    have hs : seqItems? Value.none = pure none := rfl
    unfold bindArgs
    simp only [docDef, List.map_nil, List.nil_append, List.append_nil, List.forIn_nil, pure_bind, hs, hlen]
    simp only [decide_false, Bool.false_and, Bool.false_eq_true, if_false, Option.getD_none, List.drop_nil, List.length_nil, Nat.sub_zero, List.take_length, hmiss, List.isEmpty_nil, Bool.not_true, List.drop_length, List.zip_nil_right, List.forIn_nil, pure_bind]
    exact congrArg pure (zip_lookup _ vs nd hv)
  · cases hp

theorem FnOK.more {h₀ : Heap} {mg : Str → Option Value} {n : Nat} {x : Str} {f : Fn} (h : FnOK prog w h₀ mg n x f) : FnOK prog w h₀ mg (n + 1) x f := by
  obtain ⟨a, o, fd, h1, h2, h3, h4⟩ := h
  exact ⟨a, o, fd, h1, h2, h3, fun A s ψ φ μ mvs vs d μ' R hR => h4 A s ψ φ μ mvs vs d μ' R ⟨hR.handled, by have := hR.depth; omega, by have := hR.units; omega⟩⟩

section top
variable {q : Program} {loose : List Str} {mean : ExcName → Option Value} {mg mb : Str → Option Value} {h₀ : Heap}

/-- what the defs ask of the module -/
structure TopL (q : Program) (loose : List Str) (mg mb : Str → Option Value) (h : Heap) : Prop where
  g : h.Ns mainGlobals mg
  b : h.Ns builtinsNs mb
  nolimit : h.NoLimit
  fn : ∀ d ∈ recsOf q, ∃ a o pm code doc, mg d.name = some (.ref a) ∧ h.get? a = some o ∧ o.data = .func (docDef d.name d.params d.body d.scope pm code doc) ∧ h.CodeRec code d.name
  free : ∀ x, x ∉ startupNames → x ∉ loose → x ∉ (recsOf q).map (·.name) → x ∉ (litsOf q).map (·.1) → x ∉ (clssOf q loose).map (·.name) → mg x = none
  builtins : ∀ x : Str, x ≠ "__name__" → mb x = bootBuiltins x
theorem topL (T : Top q loose mean mg mb h₀) : TopL q loose mg mb h₀ := ⟨T.g, T.b, T.nolimit, T.fn, T.free, T.builtins⟩
theorem ns_hide {h : Heap} {a P : Addr} {m : Str → Option Value} {ps : Array Value} (hP : h.get? P = some { cls := .none, data := .fields ps }) (x : h.Ns a m) : a ≠ P ∧ (h.hide P).Ns a m := by
  obtain ⟨o, es, ep, ho, hd, r⟩ := x
  have hne : a ≠ P := fun e => by
    rw [e, hP] at ho
    cases ho
    cases hd
  exact ⟨hne, o, es, ep, (Heap.hide_ne h hne).trans ho, hd, r⟩
/-- the module without one code's table -/
theorem TopL.hide {P : Addr} (T : TopL q loose mg mb h₀) (hP : h₀.get? P = some { cls := .none, data := .fields #[] }) : TopL q loose mg mb (h₀.hide P) := by
  obtain ⟨mc, h1, h2⟩ := T.nolimit
  refine ⟨(ns_hide hP T.g).2, (ns_hide hP T.b).2, ⟨mc, (ns_hide hP h1).2, h2⟩, fun d hd => ?_, T.free, T.builtins⟩
  obtain ⟨a, o, pm, code, doc, e1, e2, e3, c, oc, vs, t, e4, e5, e6, e7⟩ := T.fn d hd
  refine ⟨a, o, pm, code, doc, e1, (Heap.hide_ne h₀ fun e => ?_).trans e2, e3, c, oc, vs, t, e4, (Heap.hide_ne h₀ fun e => ?_).trans e5, e6, e7⟩
  · rw [e, hP] at e2
    cases e2
    cases e3
  · rw [e, hP] at e5
    cases e5
    cases e6
    cases e7

theorem gf_step (T : TopL q loose mg mb h₀) {fs : List (Str × Fn)} {n : Nat} (G : GF prog w h₀ mg mb fs n) {f : FD} (hc : (recsOf q).any (checkDef (fs.map (·.1)) f) = true) : GF prog w h₀ mg mb (fs ++ [semOf fs f]) (n + 1) := by
  obtain ⟨r, hr, hc⟩ := List.any_eq_true.mp hc
  unfold checkDef at hc
  simp only [Bool.and_eq_true, Bool.or_eq_true, decide_eq_true_eq, Bool.not_eq_true', List.all_eq_true] at hc
  obtain ⟨⟨⟨⟨⟨⟨⟨⟨hname, hargs⟩, hlen⟩, hnd⟩, hk⟩, hco⟩, hgen⟩, hloc⟩, hm⟩ := hc
  let X : Cx prog w := ⟨h₀, mg, mb, fs, n, ⟨f.names, r.scope, fs.map (·.1)⟩, G, rfl, hk, hnd⟩
  have D : Def X f.name f.np f.nl f.body := by
    refine ⟨?_, hlen, hloc, hco, hgen⟩
    obtain ⟨a, o, pm, code, doc, h1, h2, h3, h4⟩ := T.fn r hr
    rw [hname] at h1 h3 h4
    exact ⟨a, o, r.params, r.body, pm, code, doc, h1, h2, h3, h4, hm, fun vs hv => bind_plain hargs (hnd.sublist (List.take_sublist _ _)) (by rw [hv, List.length_take, hlen]; omega)⟩
  have ok := fn_ok D
  refine ⟨G.g, G.b, G.nolimit, G.bi, fun i x g e => ?_⟩
  by_cases hi : i < fs.length
  · rw [List.getElem?_append_left hi] at e
    exact (G.fn i x g e).more
  · rw [List.getElem?_append_right (Nat.le_of_not_lt hi)] at e
    have e0 : i - fs.length = 0 := by
      cases hq : i - fs.length with
      | zero => rfl
      | succ m => rw [hq] at e; cases e
    rw [e0] at e
    cases e
    exact ok
theorem gf_all (T : TopL q loose mg mb h₀) : ∀ (fds : List FD) (fs : List (Str × Fn)) (n : Nat), GF prog w h₀ mg mb fs n → checkAll q fds (fs.map (·.1)) = true → GF prog w h₀ mg mb (sems fds fs) (n + fds.length)
  | [], _, _, G, _ => G
  | f :: r, fs, n, G, hc => by
    have hc' : ((recsOf q).any (checkDef (fs.map (·.1)) f) && checkAll q r (fs.map (·.1) ++ [f.name])) = true := hc
    obtain ⟨h1, h2⟩ := Bool.and_eq_true_iff.mp hc'
    have e : (fs ++ [semOf fs f]).map (·.1) = fs.map (·.1) ++ [f.name] := by simp [semOf]
    have := gf_all T r (fs ++ [semOf fs f]) (n + 1) (gf_step T G h1) (by rw [e]; exact h2)
    rw [List.length_cons, ← Nat.add_assoc, Nat.add_right_comm]
    exact this
theorem gf_start (T : TopL q loose mg mb h₀) (hb : checkBi q loose = true) : GF prog w h₀ mg mb [] 0 := by
  refine ⟨T.g, T.b, T.nolimit, fun p hp => ?_, fun i x f e => by cases e⟩
  have := List.all_eq_true.mp hb p hp
  simp only [Bool.and_eq_true, decide_eq_true_eq] at this
  obtain ⟨⟨⟨⟨⟨⟨h1, h2⟩, h3⟩, h4⟩, h5⟩, h6⟩, h7⟩ := this
  exact ⟨T.free p.1 h1 h2 h3 h4 h5, (T.builtins p.1 h6).trans h7⟩

theorem ints_vr {ψ : List Addr} {h : Heap} : ∀ {vs : List Value} {ns : List Int}, IntsAre vs ns → VRs ψ h (ns.map .int) vs
  | _, _, .nil => rfl
  | _, _, .cons _ t r => ⟨_, _, rfl, ⟨t, rfl⟩, ints_vr r⟩

/-- a law whose body is: statements, the test of all(..), statements -/
structure LD where
  name : Str
  nl : Nat
  names : List Str
  gi : Nat
  n : Nat
  pre : MSs
  post : MSs
def checkLaw (fns : List Str) (f : LD) (r : DefRec) : Bool :=
  decide (r.name = f.name) && decide (argNames? r.params = some (f.names.take 1)) && decide (f.names.length = 1 + f.nl) && decide f.names.Nodup &&
  decide (r.scope.kind = .function) && !r.scope.isCoroutine && !r.scope.isGenerator &&
  (f.names.take 1).all (fun y => decide (r.scope.names.lookup y = some .local) || decide (r.scope.names.lookup y = some .cell)) &&
  (match r.body.drop f.n with
    | st :: post => matchSs ⟨f.names, r.scope, fns⟩ f.pre (r.body.take f.n) && matchAll ⟨f.names, r.scope, fns⟩ f.gi st && matchSs ⟨f.names, r.scope, fns⟩ f.post post
    | [] => false)

/-- the law's call gives True -/
theorem law_call2 (T : Top q loose mean mg mb h₀) (fds : List FD) (L : LD) (hb : checkBi q loose = true) (hc : checkAll q fds [] = true) (hlaw : (recsOf q).any (checkLaw ((sems fds []).map (·.1)) L) = true) (hlen : fds.length < 100) {s : Shared} (hs : s.heap = h₀) (hgens : s.gens = #[]) {fa a : Addr} {vs : List Value} {ns : List Int}
    (hmg : mg L.name = some (.ref fa)) (hl : s.heap.PlainList a vs.toArray) (hi : IntsAre vs ns) {ρ₁ ρ₂ : Rho} {μ₁ μ₂ : Mu} {xs : List PyData}
    (hpre : evSs ((sems fds []).map (·.2)) L.pre (some (.d (.list (ns.map .int))) :: List.replicate L.nl none) [] = some (.next, ρ₁, μ₁)) (hgot : ρ₁[L.gi]?.join = some (.d (.list xs))) (hxs : ∀ x ∈ xs, ∃ y n, x = .tuple [y, .int n])
    (hpost : evSs ((sems fds []).map (·.2)) L.post ρ₁ μ₁ = some (.ret (.d (.bool true)), ρ₂, μ₂))
    {Q E : Value → Shared → Prop} (k : ∀ s', OldK s.heap s'.heap → s'.os = s.os → AllBare s'.gens → Q (.bool true) s') :
    wpAny (model prog w) callerA (call (.ref fa) [.ref a]) Q E s := by
  subst hs
  obtain ⟨r, hr, hc2⟩ := List.any_eq_true.mp hlaw
  unfold checkLaw at hc2
  simp only [Bool.and_eq_true, Bool.or_eq_true, decide_eq_true_eq, Bool.not_eq_true', List.all_eq_true] at hc2
  obtain ⟨⟨⟨⟨⟨⟨⟨⟨hname, hargs⟩, hlen2⟩, hnd⟩, hk⟩, hco⟩, hgen⟩, hloc⟩, hbody⟩ := hc2
  split at hbody
  rotate_left
  · cases hbody
  rename_i st post hdrop
  simp only [Bool.and_eq_true] at hbody
  obtain ⟨⟨hm1, hm2⟩, hm3⟩ := hbody
  obtain ⟨a₁, o, pm, code, doc, h1, h2, h3, h4⟩ := T.fn r hr
  obtain ⟨a₂, o₂, fd, c, P, t1, t2, t3, t4, t5, t6⟩ := T.tab r hr
  rw [hname] at h1 t1
  rw [hmg] at h1 t1
  cases h1
  cases t1
  rw [h2] at t2
  cases t2
  rw [h3] at t3
  cases t3
  obtain ⟨bm, ob, m1, m2, m3, m4, m5, m6⟩ := T.bmain
  have hP := t6.2
  have hPs : P ≠ cStatics := fun e => by
    obtain ⟨mc, x, _⟩ := T.nolimit
    exact (ns_hide hP x).1 e.symm
  have TL := (topL T).hide hP
  have G := gf_all (prog := prog) (w := w) TL fds [] 0 (gf_start TL hb) hc
  let X : Cx prog w := ⟨s.heap.hide P, mg, mb, sems fds [], 0 + fds.length, ⟨L.names, r.scope, (sems fds []).map (·.1)⟩, G, rfl, hk, hnd⟩
  have B : Based s.heap s.heap c P #[] := Based.start t5 t6 hPs
  have haP : a ≠ P := fun e => by
    obtain ⟨n, ho⟩ := hl
    rw [e, hP] at ho
    cases ho
  have S : St X.h₀ [P] [] [] s.heap := ⟨fun _ _ e => Heap.of_hide e, fun b m => by rw [List.mem_singleton.mp m]; exact Heap.hide_self _ _, fun b m => by rw [List.mem_singleton.mp m]; exact ⟨_, hP⟩, fun _ m => (nomatch m), List.nodup_nil, rfl, fun i a xs e => by cases e⟩
  have hv : MVRs [P] [] s.heap [.d (.list (ns.map .int))] [.ref a] := ⟨_, [], rfl, ⟨a, vs.toArray, rfl, hl, fun m => haP (List.mem_singleton.mp m), by simpa using (ints_vr hi : VRs [P] s.heap _ _)⟩, rfl⟩
  have hsplit : r.body = r.body.take L.n ++ st :: post := by rw [← hdrop, List.take_append_drop]
  have hR : Room (X.n + 1) callerA := ⟨rfl, by
      show 1 + claimMargin + (0 + fds.length + 1) < recursionLimit
      have : claimMargin ≤ 300 := by decide
      have : recursionLimit = 1000 := rfl
      omega, by
      show 4 + 4 * (0 + fds.length + 1) + 70 < cLine
      have : cLine = 9900 := rfl
      omega⟩
  refine wpAny_call (law_enter (X := X) (np := 1) (nl := L.nl) (Pf := fun s' => OldK s.heap s'.heap ∧ s'.os = s.os ∧ AllBare s'.gens) (v := .bool true) hlen2 hloc hco hgen
    (fun vs hv => bind_plain hargs (hnd.sublist (List.take_sublist _ _)) (by rw [hv, List.length_take, hlen2]; omega)) h2 h3 h4 rfl hR S hv (fun s' hs' => k s' hs'.1 hs'.2.1 hs'.2.2) ?_)
  intro env' own h₁ tk Q' E' hcode hloc' hdead hkeep S₁ hL₁ hR₁ hfin
  rw [hsplit]
  have hPo : P ∉ own := fun m => by rw [hdead P m] at hP; cases hP
  refine soundSs_app X L.pre (r.body.take L.n) (st :: post) hm1 _ [] ρ₁ μ₁ hpre (callerA.deeper env') _ (own ++ [P]) [] ⟨env', own⟩ E' Q' hR₁ S₁ hL₁ fun ψ₂ φ₂ h₂ tk₂ x₂ S₂ hL₂ k₂ => ?_
  have hP₁ : h₁.get? P = some { cls := .none, data := .fields #[] } := hkeep _ _ hP
  have hP₂ : h₂.get? P = some { cls := .none, data := .fields #[] } := k₂ _ _ hP₁ (by simpa using hPo)
  have hPψ : P ∈ ψ₂ := x₂.sub P (List.mem_append_right _ (List.mem_singleton.mpr rfl))
  have hPφ : P ∉ φ₂ := mem_ext x₂ (List.not_mem_nil) ⟨_, hP₁⟩
  refine wpAny_execs_cons (all_sound (X := X) hm2 (h₁ := s.heap) (c := c) (P := P) (bm := bm) (ob := ob) (fun b hb => Heap.hide_ne _ hb) (Heap.hide_self _ _) B ⟨T.g, m1, m2, m3, m4, m5, m6⟩ hgot hxs hR₁ (by have := hR₁.depth; omega) S₂ hL₂ (hcode.trans t4) (by rw [hloc']; exact Nat.le_refl _) hPψ hPφ hPo
    (fun o e => by rw [hP] at e; cases e; exact hP₂) (AllBare.of_eq hgens) fun s₃ ps hos G₃ S₃ hL₃ k₃ B₃ kb₃ => ?_)
  refine soundSs X L.post post hm3 ρ₁ μ₁ _ hpost (callerA.deeper env') s₃ ψ₂ φ₂ ⟨env', own⟩ E' Q' hR₁ S₃ hL₃ fun fl ψ₄ φ₄ h₄ tk₄ hfl x₄ S₄ hL₄ k₄ => ?_
  obtain ⟨v, rfl, hv⟩ := hfl
  cases hv
  refine hfin _ ⟨B₃.old.step_keeps fun b o e => k₄ b o (kb₃ b o e) fun m => ?_, hos, G₃⟩
  rcases List.mem_append.mp m with m | m
  · have e1 := hdead b m
    have e2 := B₃.fresh e1
    rw [e2] at e; cases e
  · have e1 := S₂.off b (S₂.sub b m)
    by_cases hbP : b = P
    · exact hPφ (hbP ▸ m)
    · rw [show X.h₀.get? b = s.heap.get? b from Heap.hide_ne _ hbP] at e1
      rw [B₃.fresh e1] at e; cases e
end top
end Mini

namespace Mini
open PySem PySem.W PyProof.Rows
theorem good_true {c : ClaimW} {cl : Str → Option Addr} {mean : ExcName → Option Value} {args : List WData} {s₁ : Shared} {h' : Heap} {tk : Nat} (hg : s₁.gens = #[]) (hn : ∀ cls, c.raises args cls = false) (hp : c.post args (.bool true) args = true)
    (hk : ∀ b o, s₁.heap.get? b = some o → h'.get? b = some o) : GoodWG c cl mean args s₁ (.ok (.ret (.bool true))) { s₁ with heap := h', toks := tk } :=
  GoodW.toG ⟨.inl ⟨.bool true, .bool true, [], rfl, hn, .bool true, hp, fun _ => ⟨List.nodup_nil, fun _ m => nomatch m⟩⟩, hk, rfl, hg⟩
theorem post_true {l : OpenLaw} {args : List WData} : l.row.post.value l.row.records { args := args, res := some (.bool true), after := args } = some (.bool true) := by
  show WTm.value [] (.eq .res (.lit (.bool true))) _ = _
  simp [WTm.value, same]
theorem law_good {l : OpenLaw} {cl : Str → Option Addr} {mean : ExcName → Option Value} {args : List WData} {s₁ : Shared} {h' : Heap} {tk : Nat} (hg : s₁.gens = #[])
    (hk : ∀ b o, s₁.heap.get? b = some o → h'.get? b = some o) : GoodWG l.row.claim cl mean args s₁ (.ok (.ret (.bool true))) { s₁ with heap := h', toks := tk } :=
  good_true hg (raisesW_false allW_false_nil) (postW_of (X := true) rfl post_true rfl) hk
end Mini
namespace Mini
open PySem PySem.W PyProof.Rows
/-- the law's end where a generator was made on the way -/
theorem law_good2 {l : OpenLaw} {cl : Str → Option Addr} {mean : ExcName → Option Value} {args : List WData} {s₁ s' : Shared} (hK : OldK s₁.heap s'.heap) (hos : s'.os = s₁.os) (hg : AllBare s'.gens) :
    GoodWG l.row.claim cl mean args s₁ (.ok (.ret (.bool true))) s' :=
  ⟨.inl ⟨.bool true, .bool true, [], rfl, raisesW_false allW_false_nil, .bool true, postW_of (X := true) rfl post_true rfl, fun _ => ⟨List.nodup_nil, fun _ m => nomatch m⟩⟩, hK, hos, hg⟩
/-- the list that is given has no dict of its own -/
theorem plain_of {P : Params} {h : Heap} {a : Addr} {vs : Array Value} {xs : List WData} {as : List Value} {ys : List WData} (hL : h.IsList a vs) (hw : WellAll P h (.ref a :: as) (.list xs :: ys)) : h.PlainList a vs := by
  have hw := (wellAll_head hw).1
  cases hw with
  | list hg _ =>
    obtain ⟨o, ho, hc, n, hd⟩ := hL
    rw [hg] at ho
    cases ho
    cases hd
    exact ⟨_, hg⟩
end Mini

namespace Mini
open PySem

section
variable {F : List Fn} {ρ ρ₁ : Rho} {μ μ₁ μ₂ μ₃ : Mu} {a b c e : ME} {es : MEs} {op : Operator} {x y z u : MV} {dx dy dz du : PyData} {p q : MV × Mu}

theorem e_var {i : Nat} (h : ρ[i]?.join = some x) : evE F (.var i) ρ μ = some (x, μ) := by simp only [evE, h]; rfl
theorem e_bool {v : Bool} : evE F (.bool v) ρ μ = some (.d (.bool v), μ) := by simp only [evE]
theorem e_int {v : Int} : evE F (.int v) ρ μ = some (.d (.int v), μ) := by simp only [evE]
theorem e_str {v : Str} : evE F (.str v) ρ μ = some (.d (.str v), μ) := by simp only [evE]
theorem e_bin (ha : evE F a ρ μ = some (x, μ₁)) (hb : evE F b ρ μ₁ = some (y, μ₂)) (hx : rd μ₂ x = some dx) (hy : rd μ₂ y = some dy) (hz : binD op dx dy = some dz) : evE F (.bin op a b) ρ μ = some (.d dz, μ₂) := by
  simp only [evE, ha, hb, hx, hy, hz, Option.bind_some, Option.map_some]
theorem e_cmp {op : CmpOp} {r : Bool} (ha : evE F a ρ μ = some (x, μ₁)) (hb : evE F b ρ μ₁ = some (y, μ₂)) (hx : rd μ₂ x = some dx) (hy : rd μ₂ y = some dy) (hz : cmpD op dx dy = some r) : evE F (.cmp op a b) ρ μ = some (.d (.bool r), μ₂) := by
  simp only [evE, ha, hb, hx, hy, hz, Option.bind_some, Option.map_some]
theorem e_idx (ha : evE F a ρ μ = some (x, μ₁)) (hb : evE F b ρ μ₁ = some (y, μ₂)) (hx : rd μ₂ x = some dx) (hy : rd μ₂ y = some dy) (hz : idxD dx dy = some dz) : evE F (.idx a b) ρ μ = some (.d dz, μ₂) := by
  simp only [evE, ha, hb, hx, hy, hz, Option.bind_some, Option.map_some]
theorem e_bin' (ha : evE F a ρ μ = some (.d dx, μ₁)) (hb : evE F b ρ μ₁ = some (.d dy, μ₂)) (hz : binD op dx dy = some dz) : evE F (.bin op a b) ρ μ = some (.d dz, μ₂) := e_bin ha hb rfl rfl hz
theorem e_cmp' {op : CmpOp} {r : Bool} (ha : evE F a ρ μ = some (.d dx, μ₁)) (hb : evE F b ρ μ₁ = some (.d dy, μ₂)) (hz : cmpD op dx dy = some r) : evE F (.cmp op a b) ρ μ = some (.d (.bool r), μ₂) := e_cmp ha hb rfl rfl hz
theorem e_idx' (ha : evE F a ρ μ = some (.d dx, μ₁)) (hb : evE F b ρ μ₁ = some (.d dy, μ₂)) (hz : idxD dx dy = some dz) : evE F (.idx a b) ρ μ = some (.d dz, μ₂) := e_idx ha hb rfl rfl hz
theorem e_tup {vs : List MV} {xs : List PyData} (h : evL F es ρ μ = some (vs, μ₁)) (hx : allD vs = some xs) (hl : xs.length ≤ 16777216) : evE F (.tup es) ρ μ = some (.d (.tuple xs), μ₁) := by
  simp only [evE, h, hx, Option.bind_some, if_pos hl]
theorem e_call {g : Nat} {vs : List MV} {f : Fn} (h : evL F es ρ μ = some (vs, μ₁)) (hf : F[g]? = some f) (hr : f vs μ₁ = some (dx, μ₂)) : evE F (.call g es) ρ μ = some (.d dx, μ₂) := by
  simp only [evE, h, hf, hr, Option.bind_some, Option.map_some]
theorem e_prim {k : Prim} {vs : List MV} {xs : List PyData} (h : evL F es ρ μ = some (vs, μ₁)) (hx : rdAll μ₁ vs = some xs) (hz : primD k xs = some dz) : evE F (.prim k es) ρ μ = some (.d dz, μ₁) := by
  simp only [evE, h, hx, hz, Option.bind_some, Option.map_some]
theorem e_prim1 {k : Prim} (h : evE F a ρ μ = some (.d dx, μ₁)) (hz : primD k [dx] = some dz) : evE F (.prim k (.cons a .nil)) ρ μ = some (.d dz, μ₁) := by
  simp only [evE, evL, h, rdAll, rd, hz, Option.bind_some, Option.map_some, Option.bind_eq_bind]
theorem e_prim2 {k : Prim} (h : evE F a ρ μ = some (.d dx, μ₁)) (hb : evE F b ρ μ₁ = some (.d dy, μ₂)) (hz : primD k [dx, dy] = some dz) : evE F (.prim k (.cons a (.cons b .nil))) ρ μ = some (.d dz, μ₂) := by
  simp only [evE, evL, h, hb, rdAll, rd, hz, Option.bind_some, Option.map_some, Option.bind_eq_bind]
theorem l_nil : evL F .nil ρ μ = some ([], μ) := by simp only [evL]
theorem l_cons {vs : List MV} (h : evE F e ρ μ = some (x, μ₁)) (hs : evL F es ρ μ₁ = some (vs, μ₂)) : evL F (.cons e es) ρ μ = some (x :: vs, μ₂) := by
  simp only [evL, h, hs, Option.bind_some, Option.map_some]
theorem b_val {r : Bool} (h : evE F e ρ μ = some (.d (.bool r), μ₁)) : evB F (.val e) ρ μ = some (r, μ₁) := by
  simp only [evB, h, rd, truth, Option.bind_some, Option.map_some]
theorem b_bop {op : BoolOp} {ts : MTs} {r : Option (Bool × Mu)} (h : evBs F op ts ρ μ = r) : evB F (.bop op ts) ρ μ = r := by simp only [evB, h]
theorem bs_and_nil : evBs F .And .nil ρ μ = some (true, μ) := by simp only [evBs]; rfl
theorem bs_or_nil : evBs F .Or .nil ρ μ = some (false, μ) := by simp only [evBs]; rfl
theorem bs_and_f {t : MT} {ts : MTs} (h : evB F t ρ μ = some (false, μ₁)) : evBs F .And (.cons t ts) ρ μ = some (false, μ₁) := by simp only [evBs, h, Option.bind_some]; rfl
theorem bs_and_t {t : MT} {ts : MTs} {r : Option (Bool × Mu)} (h : evB F t ρ μ = some (true, μ₁)) (hs : evBs F .And ts ρ μ₁ = r) : evBs F .And (.cons t ts) ρ μ = r := by simp only [evBs, h, Option.bind_some]; exact hs
theorem bs_or_t {t : MT} {ts : MTs} (h : evB F t ρ μ = some (true, μ₁)) : evBs F .Or (.cons t ts) ρ μ = some (true, μ₁) := by simp only [evBs, h, Option.bind_some]; rfl
theorem bs_or_f {t : MT} {ts : MTs} {r : Option (Bool × Mu)} (h : evB F t ρ μ = some (false, μ₁)) (hs : evBs F .Or ts ρ μ₁ = r) : evBs F .Or (.cons t ts) ρ μ = r := by simp only [evBs, h, Option.bind_some]; exact hs

/-- go on behind a statement -/
def thenS (F : List Fn) (ss : MSs) : Out × Rho × Mu → Option (Out × Rho × Mu)
  | (.next, ρ, μ) => evSs F ss ρ μ
  | (.ret v, ρ, μ) => some (.ret v, ρ, μ)
variable {s : MS} {ss sa sb : MSs} {r : Option (Out × Rho × Mu)} {o : Out × Rho × Mu}
theorem ss_nil : evSs F .nil ρ μ = some (.next, ρ, μ) := by simp only [evSs]
theorem ss_cons (h : evS F s ρ μ = some o) (hr : thenS F ss o = r) : evSs F (.cons s ss) ρ μ = r := by
  obtain ⟨k, ρ', μ'⟩ := o
  simp only [evSs, h, Option.bind_some]
  cases k <;> exact hr
theorem ss_ret (h : evE F e ρ μ = some (x, μ₁)) : evSs F (.cons (.ret e) ss) ρ μ = some (.ret x, ρ, μ₁) := by
  simp only [evSs, evS, h, Option.bind_some, Option.map_some]
theorem ss_assign {i : Nat} (h : evE F e ρ μ = some (x, μ₁)) (hr : evSs F ss (ρ.set i (some x)) μ₁ = r) : evSs F (.cons (.assign i e) ss) ρ μ = r := by
  simp only [evSs, evS, h, Option.bind_some, Option.map_some]; exact hr
theorem ss_newlist {i : Nat} {vs : List MV} {xs : List PyData} (h : evL F es ρ μ = some (vs, μ₁)) (hx : allD vs = some xs) (hl : xs.length ≤ 16777216) (hr : evSs F ss (ρ.set i (some (.r μ₁.length))) (μ₁ ++ [.l xs]) = r) : evSs F (.cons (.newlist i es) ss) ρ μ = r := by
  simp only [evSs, evS, h, hx, if_pos hl, Option.bind_some]; exact hr
theorem ss_append {i j : Nat} {xs : List PyData} (hj : ρ[i]?.join = some (.r j)) (hil : isL μ j = true) (h : evE F e ρ μ = some (.d dx, μ₁)) (hx : μ₁[j]? = some (.l xs)) (hl : xs.length ≤ 16777216) (hr : evSs F ss ρ (μ₁.set j (.l (xs ++ [dx]))) = r) : evSs F (.cons (.append i e) ss) ρ μ = r := by
  simp only [evSs, evS, hj, hil, h, hx, if_pos hl, Option.bind_some, if_true]; exact hr
theorem ss_ite_t {t : MT} (hc : evB F t ρ μ = some (true, μ₁)) (ha : evSs F sa ρ μ₁ = some o) (hr : thenS F ss o = r) : evSs F (.cons (.ite t sa sb) ss) ρ μ = r :=
  ss_cons (by simp only [evS, hc, Option.bind_some, if_true]; exact ha) hr
theorem ss_ite_f {t : MT} (hc : evB F t ρ μ = some (false, μ₁)) (ha : evSs F sb ρ μ₁ = some o) (hr : thenS F ss o = r) : evSs F (.cons (.ite t sa sb) ss) ρ μ = r :=
  ss_cons (by simp only [evS, hc, Option.bind_some]; exact ha) hr
theorem then_next (h : evSs F ss ρ μ = r) : thenS F ss (.next, ρ, μ) = r := h
theorem then_ret {v : MV} : thenS F ss (.ret v, ρ, μ) = some (.ret v, ρ, μ) := rfl
theorem e_comp {rng : Bool} {caps : List Nat} {ts : MTs} {elt : ME} {items xs : List PyData} (h : evE F e ρ μ = some (x, μ₁)) (hi : itemsD rng x = some items) (hc : compF (fun ρ μ => evBs F .And ts ρ μ) (fun ρ μ => evE F elt ρ μ) (caps.map fun j => ρ[j]?.join) items μ₁ = some (xs, μ₂)) : evE F (.comp rng caps e ts elt) ρ μ = some (.d (.list xs), μ₂) := by
  simp only [evE, h, hi, hc, Option.bind_some, Option.map_some]
theorem ss_compr {i : Nat} {caps : List Nat} {ts : MTs} {elt : ME} {items xs : List PyData} (h : evE F e ρ μ = some (x, μ₁)) (hi : itemsD true x = some items) (hc : compF (evBs F .And ts) (evE F elt) (caps.map fun j => ρ[j]?.join) items μ₁ = some (xs, μ₂)) (hr : evSs F ss (ρ.set i (some (.d (.list xs)))) μ₂ = r) :
    evSs F (.cons (.compr i caps e ts elt) ss) ρ μ = r := by
  simp only [evSs, evS, h, hi, hc, Option.bind_some, Option.map_some]; exact hr
theorem ss_comprn {i : Nat} {caps : List Nat} {ts : MTs} {elt : ME} {items xs : List PyData} (h : evE F e ρ μ = some (x, μ₁)) (hi : itemsD false x = some items) (hc : compF (evBs F .And ts) (evE F elt) (caps.map fun j => ρ[j]?.join) items μ₁ = some (xs, μ₂)) (hr : evSs F ss (ρ.set i (some (.r μ₂.length))) (μ₂ ++ [.l xs]) = r) :
    evSs F (.cons (.comprn i caps e ts elt) ss) ρ μ = r := by
  simp only [evSs, evS, h, hi, hc, Option.bind_some, Option.map_some]; exact hr
theorem e_index {i n : Nat} {v : MV} {xs₀ xs : List PyData} (hv : ρ[i]?.join = some v) (h0 : rd μ v = some (.list xs₀)) (h : evE F e ρ μ = some (x, μ₁)) (hx : rd μ₁ x = some dx) (h1 : rd μ₁ v = some (.list xs)) (hl : xs.length ≤ 16777216) (hn : indexD dx xs = some n) : evE F (.index i e) ρ μ = some (.d (.int (n : Int)), μ₁) := by
  simp only [evE, hv, h0, h, hx, h1, hn, if_pos hl, Option.bind_some, Option.map_some]
theorem e_dlen {i j : Nat} {kvs : List (Int × Int)} (hj : ρ[i]?.join = some (.r j)) (hk : μ[j]? = some (.m kvs)) (hl : kvs.length ≤ 16777216) : evE F (.dlen i) ρ μ = some (.d (.int (kvs.length : Int)), μ) := by
  simp only [evE, hj, hk, if_pos hl]
theorem e_dget {i j : Nat} {k n : Int} {kvs : List (Int × Int)} (hj : ρ[i]?.join = some (.r j)) (h : evE F e ρ μ = some (.d (.int k), μ₁)) (hk : μ₁[j]? = some (.m kvs)) (hn : kvs.lookup k = some n) : evE F (.dget i e) ρ μ = some (.d (.int n), μ₁) := by
  simp only [evE, hj, h, hk, hn, Option.bind_some, Option.map_some]
theorem e_dnot {i j : Nat} {k : Int} {kvs : List (Int × Int)} (hj : ρ[i]?.join = some (.r j)) (h : evE F e ρ μ = some (.d (.int k), μ₁)) (hk : μ₁[j]? = some (.m kvs)) : evE F (.dnot e i) ρ μ = some (.d (.bool (!(kvs.lookup k).isSome)), μ₁) := by
  simp only [evE, hj, h, hk, Option.bind_some]
theorem ss_dnew {i : Nat} (hr : evSs F ss (ρ.set i (some (.r μ.length))) (μ ++ [.m []]) = r) : evSs F (.cons (.dnew i) ss) ρ μ = r := by
  simp only [evSs, evS, Option.bind_some]; exact hr
theorem ss_dset {i j : Nat} {ek ev : ME} {k n : Int} {kvs : List (Int × Int)} (hj : ρ[i]?.join = some (.r j)) (hv : evE F ev ρ μ = some (.d (.int n), μ₁)) (hk : evE F ek ρ μ₁ = some (.d (.int k), μ₂)) (hkv : μ₂[j]? = some (.m kvs)) (hl : kvs.length ≤ 16777216) (hn : (kvs.lookup k).isSome = false) (hr : evSs F ss ρ (μ₂.set j (.m (kvs ++ [(k, n)]))) = r) : evSs F (.cons (.dset i ek ev) ss) ρ μ = r := by
  simp only [evSs, evS, hj, hv, hk, hkv, if_pos (And.intro hl hn), Option.bind_some]; exact hr
theorem ss_fore {i : Nat} {b : MSs} (h : evE F e ρ μ = some (x, μ₁)) (hf : foreF i (evSs F b) x (lenOf μ₁ x) 0 ρ μ₁ = some o) (hr : thenS F ss o = r) : evSs F (.cons (.fore i e b) ss) ρ μ = r :=
  ss_cons (by simp only [evS, h, Option.bind_some]; exact hf) hr
theorem ss_forr {i : Nat} {b : MSs} {k : Int} (h : evE F e ρ μ = some (.d (.int k), μ₁)) (hk : 0 ≤ k ∧ k < 4611686018427387904) (hf : forF i (evSs F b) k.toNat 0 ρ μ₁ = some o) (hr : thenS F ss o = r) : evSs F (.cons (.forr i e b) ss) ρ μ = r :=
  ss_cons (by simp only [evS, h, if_pos hk, Option.bind_some]; exact hf) hr
end
end Mini

namespace Mini
open PySem
def n_canonical : List Str := ["t", "names", "out", "item"]
/-- 1 parameters, 3 further names -/
def b_canonical : MSs :=
 (.cons (.dnew 1)
 (.cons (.newlist 2 .nil)
 (.cons (.fore 3 (.var 0)
 (.cons (.ite (.val (.cmp .Eq (.idx (.var 3) (.int 0)) (.str ⟨#[118, 97, 114]⟩)))
 (.cons (.ite (.val (.dnot (.idx (.var 3) (.int 1)) 1))
 (.cons (.dset 1 (.idx (.var 3) (.int 1)) (.dlen 1))
 .nil)
 .nil)
 (.cons (.append 2 (.tup (.cons (.str ⟨#[118, 97, 114]⟩) (.cons (.dget 1 (.idx (.var 3) (.int 1))) .nil))))
 .nil))
 (.cons (.append 2 (.var 3))
 .nil))
 .nil))
 (.cons (.ret (.var 2))
 .nil))))

def n_law_cell : List Str := ["script", "i"]
/-- 2 parameters, 0 further names -/
def b_law_cell : MSs :=
 (.cons (.ite (.val (.cmp .Lt (.var 1) (.prim .len (.cons (.var 0) .nil))))
 (.cons (.ret (.idx (.var 0) (.var 1)))
 .nil)
 .nil)
 (.cons (.ret (.int 0))
 .nil))

def n_law_leaf : List Str := ["c", "big", "k"]
/-- 2 parameters, 1 further names -/
def b_law_leaf : MSs :=
 (.cons (.assign 2 (.bin .Mod (.var 0) (.int 8)))
 (.cons (.ite (.val (.cmp .Eq (.var 2) (.int 0)))
 (.cons (.ret (.tup (.cons (.str ⟨#[105, 110, 116]⟩) (.cons (.int 0) .nil))))
 .nil)
 .nil)
 (.cons (.ite (.val (.cmp .Eq (.var 2) (.int 1)))
 (.cons (.ret (.tup (.cons (.str ⟨#[98, 111, 111, 108]⟩) (.cons (.int 0) .nil))))
 .nil)
 .nil)
 (.cons (.ite (.val (.cmp .Lt (.var 2) (.int 6)))
 (.cons (.ret (.tup (.cons (.str ⟨#[118, 97, 114]⟩) (.cons (.bin .Sub (.var 2) (.int 2)) .nil))))
 .nil)
 .nil)
 (.cons (.ret (.tup (.cons (.str ⟨#[118, 97, 114]⟩) (.cons (.bin .Sub (.bin .Add (.var 1) (.var 2)) (.int 6)) .nil))))
 .nil)))))

def n_law_maker : List Str := ["k"]
/-- 1 parameters, 0 further names -/
def b_law_maker : MSs :=
 (.cons (.ite (.val (.cmp .Eq (.bin .Mod (.var 0) (.int 2)) (.int 0)))
 (.cons (.ret (.tup (.cons (.str ⟨#[102, 117, 110]⟩) (.cons (.int 0) .nil))))
 .nil)
 .nil)
 (.cons (.ret (.tup (.cons (.str ⟨#[112, 97, 105, 114]⟩) (.cons (.int 0) .nil))))
 .nil))

def n_law_type : List Str := ["script", "big", "shape", "t", "waiting", "i"]
/-- 2 parameters, 4 further names -/
def b_law_type : MSs :=
 (.cons (.assign 2 (.bin .Mod (.call 1 (.cons (.var 0) (.cons (.int 2) .nil))) (.int 64)))
 (.cons (.newlist 3 .nil)
 (.cons (.assign 4 (.int 0))
 (.cons (.forr 5 (.bin .Add (.int 1) (.bin .Mod (.call 1 (.cons (.var 0) (.cons (.int 0) .nil))) (.int 6)))
 (.cons (.append 3 (.call 2 (.cons (.call 1 (.cons (.var 0) (.cons (.bin .Add (.int 3) (.var 5)) .nil))) (.cons (.var 1) .nil))))
 (.cons (.ite (.val (.cmp .Gt (.var 5) (.int 0)))
 (.cons (.ite (.val (.cmp .Eq (.bin .Mod (.bin .RShift (.var 2) (.var 5)) (.int 2)) (.int 1)))
 (.cons (.append 3 (.call 3 (.cons (.bin .Add (.var 2) (.var 5)) .nil)))
 .nil)
 (.cons (.assign 4 (.bin .Add (.var 4) (.int 1)))
 .nil))
 .nil)
 .nil)
 .nil)))
 (.cons (.ret (.bin .Add (.var 3) (.comp true [2] (.var 4) .nil (.call 3 (.cons (.bin .Add (.var 1) (.var 0)) .nil)))))
 .nil)))))

def n_law_due : List Str := ["t", "firsts", "due", "item", "place"]
/-- 1 parameters, 4 further names -/
def b_law_due : MSs :=
 (.cons (.compr 1 [0] (.prim .len (.cons (.var 0) .nil)) (.cons (.bop .And (.cons (.val (.cmp .Eq (.idx (.idx (.var 1) (.var 0)) (.int 0)) (.str ⟨#[118, 97, 114]⟩))) (.cons (.val (.cmp .Eq (.index 1 (.idx (.var 1) (.var 0))) (.var 0))) .nil))) .nil) (.var 0))
 (.cons (.newlist 2 .nil)
 (.cons (.fore 3 (.var 0)
 (.cons (.ite (.val (.cmp .Eq (.idx (.var 3) (.int 0)) (.str ⟨#[118, 97, 114]⟩)))
 (.cons (.assign 4 (.index 0 (.var 3)))
 (.cons (.append 2 (.tup (.cons (.str ⟨#[118, 97, 114]⟩) (.cons (.prim .len (.cons (.comp false [4] (.var 1) (.cons (.val (.cmp .Lt (.var 0) (.var 1))) .nil) (.var 0)) .nil)) .nil))))
 .nil))
 (.cons (.append 2 (.var 3))
 .nil))
 .nil))
 (.cons (.ret (.var 2))
 .nil))))

def n_law : List Str := ["script", "big", "before", "t", "due", "got"]
/-- 1 parameters, 5 further names -/
def b_law_pre : MSs :=
 (.cons (.assign 1 (.prim .abs (.cons (.call 1 (.cons (.var 0) (.cons (.int 1) .nil))) .nil)))
 (.cons (.assign 2 (.call 4 (.cons (.var 0) (.cons (.var 1) .nil))))
 (.cons (.comprn 3 [] (.var 2) .nil (.var 0))
 (.cons (.assign 4 (.call 5 (.cons (.var 2) .nil)))
 (.cons (.assign 5 (.call 0 (.cons (.var 3) .nil)))
 (.cons (.ite (.val (.cmp .NotEq (.var 5) (.var 4)))
 (.cons (.ret (.bool false))
 .nil)
 .nil)
 .nil))))))

/-- 1 parameters, 5 further names -/
def b_law_post : MSs :=
 (.cons (.ite (.val (.cmp .NotEq (.var 3) (.var 2)))
 (.cons (.ret (.bool false))
 .nil)
 .nil)
 (.cons (.append 3 (.tup (.cons (.str ⟨#[118, 97, 114]⟩) (.cons (.var 1) .nil))))
 (.cons (.append 3 (.tup (.cons (.str ⟨#[102, 117, 110]⟩) (.cons (.int 0) .nil))))
 (.cons (.ite (.val (.cmp .NotEq (.var 5) (.var 4)))
 (.cons (.ret (.bool false))
 .nil)
 .nil)
 (.cons (.ite (.val (.cmp .NotEq (.call 0 (.cons (.var 3) .nil)) (.call 5 (.cons (.var 3) .nil))))
 (.cons (.ret (.bool false))
 .nil)
 .nil)
 (.cons (.ret (.bool true))
 .nil))))))


def f_canon : Fn := fun args μ => if args.length = 1 then fnOf [] 3 b_canonical args μ else none
def f_cell : Fn := fun args μ => if args.length = 2 then fnOf [f_canon] 0 b_law_cell args μ else none
def f_leaf : Fn := fun args μ => if args.length = 2 then fnOf [f_canon, f_cell] 1 b_law_leaf args μ else none
def f_maker : Fn := fun args μ => if args.length = 1 then fnOf [f_canon, f_cell, f_leaf] 0 b_law_maker args μ else none
def f_type : Fn := fun args μ => if args.length = 2 then fnOf [f_canon, f_cell, f_leaf, f_maker] 4 b_law_type args μ else none
def f_due : Fn := fun args μ => if args.length = 1 then fnOf [f_canon, f_cell, f_leaf, f_maker, f_type] 4 b_law_due args μ else none
theorem f_canon_at {args : List MV} {μ : Mu} (h : args.length = 1) : f_canon args μ = fnOf [] 3 b_canonical args μ := by unfold f_canon; exact if_pos h
theorem f_cell_at {args : List MV} {μ : Mu} (h : args.length = 2) : f_cell args μ = fnOf [f_canon] 0 b_law_cell args μ := by unfold f_cell; exact if_pos h
theorem f_leaf_at {args : List MV} {μ : Mu} (h : args.length = 2) : f_leaf args μ = fnOf [f_canon, f_cell] 1 b_law_leaf args μ := by unfold f_leaf; exact if_pos h
theorem f_maker_at {args : List MV} {μ : Mu} (h : args.length = 1) : f_maker args μ = fnOf [f_canon, f_cell, f_leaf] 0 b_law_maker args μ := by unfold f_maker; exact if_pos h
theorem f_type_at {args : List MV} {μ : Mu} (h : args.length = 2) : f_type args μ = fnOf [f_canon, f_cell, f_leaf, f_maker] 4 b_law_type args μ := by unfold f_type; exact if_pos h
theorem f_due_at {args : List MV} {μ : Mu} (h : args.length = 1) : f_due args μ = fnOf [f_canon, f_cell, f_leaf, f_maker, f_type] 4 b_law_due args μ := by unfold f_due; exact if_pos h

theorem fn_d {F : List Fn} {nl : Nat} {body : MSs} {args : List MV} {μ μ' : Mu} {ρ' : Rho} {x : PyData} {r : PyData × Mu} (h : evSs F body (args.map some ++ List.replicate nl none) μ = some (.ret (.d x), ρ', μ')) (e : (x, μ'.take μ.length) = r) : fnOf F nl body args μ = some r := by
  subst e
  simp only [fnOf, h, Option.bind_some]
theorem fn_r {F : List Fn} {nl : Nat} {body : MSs} {args : List MV} {μ μ' : Mu} {ρ' : Rho} {i : Nat} {xs : List PyData} {r : PyData × Mu} (h : evSs F body (args.map some ++ List.replicate nl none) μ = some (.ret (.r i), ρ', μ')) (hi : μ.length ≤ i) (hx : μ'[i]? = some (.l xs)) (e : (.list xs, μ'.take μ.length) = r) : fnOf F nl body args μ = some r := by
  subst e
  simp only [fnOf, h, Option.bind_some, if_pos hi, hx]
theorem idx_list {xs : List PyData} {k : Int} {x : PyData} (h0 : 0 ≤ k ∧ k < 9223372036854775808) (h : xs[k.toNat]? = some x) : idxD (.list xs) (.int k) = some x := by
  simp only [idxD, if_pos h0, h]
theorem len_list {xs : List PyData} (h : xs.length ≤ 16777216) : primD .len [.list xs] = some (.int (xs.length : Int)) := by
  simp only [primD, if_pos h]

/-! items of a type -/
inductive It where
  | v (k : Int)
  | i | b | f | p
def sVar : Str := ⟨#[118, 97, 114]⟩
def tag : It → Str
  | .v _ => ⟨#[118, 97, 114]⟩
  | .i => ⟨#[105, 110, 116]⟩
  | .b => ⟨#[98, 111, 111, 108]⟩
  | .f => ⟨#[102, 117, 110]⟩
  | .p => ⟨#[112, 97, 105, 114]⟩
def num : It → Int
  | .v k => k
  | _ => 0
def item (x : It) : PyData := .tuple [.str (tag x), .int (num x)]
def isV : It → Bool
  | .v _ => true
  | _ => false
def eqI : It → It → Bool
  | .v a, .v b => a == b
  | .i, .i => true
  | .b, .b => true
  | .f, .f => true
  | .p, .p => true
  | _, _ => false
theorem eqI_self (x : It) : eqI x x = true := by cases x <;> simp [eqI]
theorem eqI_eq {x y : It} (h : eqI x y = true) : x = y := by cases x <;> cases y <;> simp_all [eqI]
theorem tag_var (x : It) : (tag x == (⟨#[118, 97, 114]⟩ : Str)) = isV x := by cases x <;> rfl
theorem item_eqv (x y : It) : PyData.eqv (item x) (item y) = eqI x y := by
  cases x <;> cases y <;> simp [item, tag, num, eqI, PyData.eqv, PyData.eqvAll]
theorem item_lay (x : It) : (item x).canLay0 = true := by
  cases x <;> (simp only [item, tag, num, PyData.canLay0, PyData.canLayAll0]; decide +kernel)
theorem item_depth (x : It) : (item x).depth ≤ 1 := by cases x <;> simp [item, PyData.depth, PyData.depthAll]
theorem item_ok (x y : It) : eqOk (item x) (item y) = true := by
  unfold eqOk
  rw [item_lay, item_lay, Bool.and_self, Bool.true_and]
  have := item_depth x
  exact decide_eq_true (by omega)
def place (T : List It) (x : It) : Nat := T.findIdx fun y => eqI y x
theorem place_le {T : List It} {n : Nat} {x : It} (h : T[n]? = some x) : place T x ≤ n := by
  obtain ⟨hn, e⟩ := List.getElem?_eq_some_iff.mp h
  apply Nat.le_of_not_lt
  intro hlt
  have := List.not_of_lt_findIdx hlt
  rw [e, eqI_self] at this
  cases this
theorem place_at {T : List It} {n : Nat} {x : It} (hn : n < T.length) (h : place T x = n) : T[n]? = some x := by
  subst h
  have := List.findIdx_getElem (xs := T) (p := fun y => eqI y x) (w := hn)
  rw [List.getElem?_eq_getElem hn]
  exact congrArg some (eqI_eq this)
theorem index_item {T : List It} {n : Nat} {x : It} (h : T[n]? = some x) : indexD (item x) (T.map item) = some (place T x) := by
  have hlt : place T x < T.length := Nat.lt_of_le_of_lt (place_le h) (List.getElem?_eq_some_iff.mp h).1
  unfold indexD
  rw [if_pos]
  · rw [List.findIdx?_map]
    have e : ((fun y => y.eqv (item x)) ∘ item) = fun y => eqI y x := by funext y; exact item_eqv y x
    rw [e]
    rw [List.findIdx?_eq_some_iff_findIdx_eq]
    exact ⟨hlt, rfl⟩
  · rw [List.all_eq_true]
    intro y hy
    obtain ⟨z, _, rfl⟩ := List.mem_map.mp hy
    exact item_ok z x

def first (T : List It) (n : Nat) : Bool := match T[n]? with
  | some x => isV x && (place T x == n)
  | none => false
def cnt (T : List It) (n : Nat) : Nat := ((List.range n).filter (first T)).length
def dueI (T : List It) (x : It) : It := if isV x then .v (cnt T (place T x)) else x
def due (T : List It) : List It := T.map (dueI T)
def step (kvs : List (Int × Int)) (k : Int) : List (Int × Int) := if (kvs.lookup k).isSome then kvs else kvs ++ [(k, (kvs.length : Int))]
def canonF (kvs : List (Int × Int)) : List It → List It
  | [] => []
  | .v k :: r => .v (((step kvs k).lookup k).getD 0) :: canonF (step kvs k) r
  | x :: r => x :: canonF kvs r
theorem cnt_succ (T : List It) (n : Nat) : cnt T (n + 1) = cnt T n + (if first T n then 1 else 0) := by
  unfold cnt
  rw [List.range_succ, List.filter_append, List.length_append]
  congr 1
  cases h : first T n <;> simp [h]
def Inv (T : List It) (n : Nat) (kvs : List (Int × Int)) : Prop := kvs.length = cnt T n ∧ ∀ k, kvs.lookup k = if place T (.v k) < n then some (cnt T (place T (.v k)) : Int) else none
theorem lookup_add {kvs : List (Int × Int)} {k n k' : Int} (h : kvs.lookup k = none) : (kvs ++ [(k, n)]).lookup k' = if k' = k then some n else kvs.lookup k' := by
  induction kvs with
  | nil =>
    simp only [List.nil_append, List.lookup_cons, List.lookup_nil]
    by_cases e : k' = k
    · subst e; simp
    · rw [if_neg e, show (k' == k) = false from by simpa using e]
  | cons p r ih =>
    obtain ⟨a, b⟩ := p
    rw [List.lookup_cons] at h
    cases hb : k == a with
    | true => rw [hb] at h; cases h
    | false =>
      rw [hb] at h
      rw [List.cons_append, List.lookup_cons, List.lookup_cons, ih h]
      cases hc : k' == a with
      | false => rfl
      | true =>
        have : k' ≠ k := fun e => by subst e; rw [hb] at hc; cases hc
        exact (if_neg this).symm
theorem inv_skip {T : List It} {n : Nat} {kvs : List (Int × Int)} {x : It} (h : Inv T n kvs) (hx : T[n]? = some x) (hv : isV x = false) : Inv T (n + 1) kvs := by
  have hn := (List.getElem?_eq_some_iff.mp hx).1
  have hf : first T n = false := by unfold first; rw [hx]; simp [hv]
  refine ⟨by rw [cnt_succ, hf]; exact h.1, fun k => ?_⟩
  rw [h.2 k]
  have hne : place T (.v k) ≠ n := fun e => by
    have := place_at hn e
    rw [hx] at this; cases this; cases hv
  by_cases hlt : place T (.v k) < n
  · rw [if_pos hlt, if_pos (by omega)]
  · rw [if_neg hlt, if_neg (by omega)]
theorem inv_step {T : List It} {n : Nat} {kvs : List (Int × Int)} {k : Int} (h : Inv T n kvs) (hx : T[n]? = some (.v k)) : Inv T (n + 1) (step kvs k) ∧ (step kvs k).lookup k = some (cnt T (place T (.v k)) : Int) := by
  have hn := (List.getElem?_eq_some_iff.mp hx).1
  have hle := place_le hx
  have hne : ∀ k', k' ≠ k → place T (.v k') ≠ n := fun k' hk e => by
    have := place_at hn e
    rw [hx] at this; cases this; exact hk rfl
  unfold step
  by_cases hlt : place T (.v k) < n
  · have hl : kvs.lookup k = some (cnt T (place T (.v k)) : Int) := by rw [h.2 k, if_pos hlt]
    rw [hl]
    simp only [Option.isSome_some, if_true]
    have hf : first T n = false := by
      unfold first; rw [hx]
      have : (place T (.v k) == n) = false := by simp; omega
      simp [this]
    refine ⟨⟨by rw [cnt_succ, hf]; exact h.1, fun k' => ?_⟩, hl⟩
    rw [h.2 k']
    by_cases hk : k' = k
    · subst hk; rw [if_pos hlt, if_pos (by omega)]
    · have := hne k' hk
      by_cases h3 : place T (.v k') < n
      · rw [if_pos h3, if_pos (by omega)]
      · rw [if_neg h3, if_neg (by omega)]
  · have he : place T (.v k) = n := by omega
    have hl : kvs.lookup k = none := by rw [h.2 k, if_neg hlt]
    rw [hl]
    simp only [Option.isSome_none, Bool.false_eq_true, if_false]
    have hf : first T n = true := by
      unfold first; rw [hx]
      simp [he, isV]
    refine ⟨⟨by rw [cnt_succ, hf, List.length_append, h.1]; rfl, fun k' => ?_⟩, ?_⟩
    · rw [lookup_add hl]
      by_cases hk : k' = k
      · subst hk; rw [if_pos rfl, if_pos (by omega), he, h.1]
      · rw [if_neg hk, h.2 k']
        have := hne k' hk
        by_cases h3 : place T (.v k') < n
        · rw [if_pos h3, if_pos (by omega)]
        · rw [if_neg h3, if_neg (by omega)]
    · rw [lookup_add hl, if_pos rfl, he, h.1]
theorem canon_gen (T : List It) : ∀ (r pre : List It) (kvs : List (Int × Int)), T = pre ++ r → Inv T pre.length kvs → canonF kvs r = r.map (dueI T)
  | [], _, _, _, _ => rfl
  | x :: r, pre, kvs, hT, h => by
    have hx : T[pre.length]? = some x := by rw [hT]; simp
    have hT' : T = (pre ++ [x]) ++ r := by rw [hT]; simp
    have hl : (pre ++ [x]).length = pre.length + 1 := by simp
    cases x with
    | v k =>
      obtain ⟨h1, h2⟩ := inv_step h hx
      simp only [canonF, List.map_cons]
      rw [canon_gen T r (pre ++ [.v k]) (step kvs k) hT' (by rw [hl]; exact h1), h2]
      rfl
    | i => simp only [canonF, List.map_cons]; rw [canon_gen T r (pre ++ [.i]) kvs hT' (by rw [hl]; exact inv_skip h hx rfl)]; rfl
    | b => simp only [canonF, List.map_cons]; rw [canon_gen T r (pre ++ [.b]) kvs hT' (by rw [hl]; exact inv_skip h hx rfl)]; rfl
    | f => simp only [canonF, List.map_cons]; rw [canon_gen T r (pre ++ [.f]) kvs hT' (by rw [hl]; exact inv_skip h hx rfl)]; rfl
    | p => simp only [canonF, List.map_cons]; rw [canon_gen T r (pre ++ [.p]) kvs hT' (by rw [hl]; exact inv_skip h hx rfl)]; rfl
theorem canon_due (T : List It) : canonF [] T = due T := canon_gen T T [] [] rfl ⟨rfl, fun k => (if_neg (Nat.not_lt_zero _)).symm⟩
theorem items_lay : ∀ T : List It, PyData.canLayAll0 (T.map item) = true
  | [] => rfl
  | x :: r => by simp only [List.map_cons, PyData.canLayAll0, item_lay, items_lay r, Bool.and_self]
theorem items_depth : ∀ T : List It, PyData.depthAll (T.map item) ≤ 1
  | [] => by simp [PyData.depthAll]
  | x :: r => by
    have h1 := item_depth x
    have h2 := items_depth r
    simp only [List.map_cons, PyData.depthAll]; omega
theorem items_same (T : List It) : cmpD .NotEq (.list (T.map item)) (.list (T.map item)) = some false := by
  have hl : (PyData.list (T.map item)).canLay0 = true := by simp only [PyData.canLay0]; exact items_lay T
  have h1 : eqOk (.list (T.map item)) (.list (T.map item)) = true := by
    have := items_depth T
    unfold eqOk
    rw [hl, Bool.and_self, Bool.true_and]
    refine decide_eq_true ?_
    simp only [PyData.depth]
    omega
  show (if eqOk (.list (T.map item)) (.list (T.map item)) then some (!PyData.eqv (.list (T.map item)) (.list (T.map item))) else none) = _
  rw [if_pos h1, SeqAt.eqv_refl _ hl]; rfl
end Mini

namespace Mini
open PySem

section mu
variable {μ : Mu} {a b c : MO}
theorem at0 : (μ ++ [a, b])[μ.length]? = some a := by simp
theorem at1 : (μ ++ [a, b])[μ.length + 1]? = some b := by simp
theorem set0 : (μ ++ [a, b]).set μ.length c = μ ++ [c, b] := by simp [List.set_append_right]
theorem set1 : (μ ++ [a, b]).set (μ.length + 1) c = μ ++ [a, c] := by simp [List.set_append_right]
theorem atL : (μ ++ [a])[μ.length]? = some a := by simp
theorem setL : (μ ++ [a]).set μ.length c = μ ++ [c] := by simp [List.set_append_right]
theorem isL1 {xs : List PyData} : isL (μ ++ [a, .l xs]) (μ.length + 1) = true := by unfold isL; rw [at1]
theorem isLL {xs : List PyData} : isL (μ ++ [.l xs]) μ.length = true := by unfold isL; rw [atL]
theorem take2 : (μ ++ [a, b]).take μ.length = μ := by simp
theorem take1 : (μ ++ [a]).take μ.length = μ := by simp
end mu
theorem rd_app {μ ext : Mu} {v : MV} {x : PyData} (h : rd μ v = some x) : rd (μ ++ ext) v = some x := by
  cases v with
  | d y => exact h
  | r i =>
    simp only [rd] at h ⊢
    cases hi : μ[i]? with
    | none => rw [hi] at h; cases h
    | some o =>
      rw [hi] at h
      rw [List.getElem?_append_left (List.getElem?_eq_some_iff.mp hi).1, hi]
      exact h
theorem it_item {μ : Mu} {src : MV} {T : List It} {n : Nat} (h : rd μ src = some (.list (T.map item))) : itAt μ src n = some (T[n]?.map item) := by
  simp only [itAt, h, List.getElem?_map]
theorem lenOf_item {μ : Mu} {src : MV} {T : List It} (h : rd μ src = some (.list (T.map item))) : lenOf μ src = T.length + 1 := by
  simp only [lenOf, h, List.length_map]

def bodyC : MSs := (.cons (.ite (.val (.cmp .Eq (.idx (.var 3) (.int 0)) (.str ⟨#[118, 97, 114]⟩)))
 (.cons (.ite (.val (.dnot (.idx (.var 3) (.int 1)) 1))
 (.cons (.dset 1 (.idx (.var 3) (.int 1)) (.dlen 1))
 .nil)
 .nil)
 (.cons (.append 2 (.tup (.cons (.str ⟨#[118, 97, 114]⟩) (.cons (.dget 1 (.idx (.var 3) (.int 1))) .nil))))
 .nil))
 (.cons (.append 2 (.var 3))
 .nil))
 .nil)

section
variable {F : List Fn} {ρ : Rho} {μ : Mu} {i : Nat} {x : It}
theorem ix0 (h : ρ[i]?.join = some (.d (item x))) : evE F (.idx (.var i) (.int 0)) ρ μ = some (.d (.str (tag x)), μ) := e_idx' (e_var h) e_int rfl
theorem ix1 (h : ρ[i]?.join = some (.d (item x))) : evE F (.idx (.var i) (.int 1)) ρ μ = some (.d (.int (num x)), μ) := e_idx' (e_var h) e_int rfl
theorem isv (h : ρ[i]?.join = some (.d (item x))) : evB F (.val (.cmp .Eq (.idx (.var i) (.int 0)) (.str ⟨#[118, 97, 114]⟩))) ρ μ = some (isV x, μ) :=
  b_val (e_cmp' (ix0 h) e_str (by show some (tag x == (⟨#[118, 97, 114]⟩ : Str)) = _; rw [tag_var]))
end

theorem turnC_v {F : List Fn} {src : MV} {μ : Mu} {kvs : List (Int × Int)} {outs : List PyData} {k : Int} (hk : kvs.length ≤ 1000) (ho : outs.length ≤ 1000) (hs : ((step kvs k).lookup k).isSome = true) :
    evSs F bodyC [some src, some (.r μ.length), some (.r (μ.length + 1)), some (.d (item (.v k)))] (μ ++ [.m kvs, .l outs]) = some (.next, [some src, some (.r μ.length), some (.r (μ.length + 1)), some (.d (item (.v k)))], μ ++ [.m (step kvs k), .l (outs ++ [item (.v (((step kvs k).lookup k).getD 0))])]) := by
  obtain ⟨n, hn⟩ := Option.isSome_iff_exists.mp hs
  have app : evSs F (.cons (.append 2 (.tup (.cons (.str ⟨#[118, 97, 114]⟩) (.cons (.dget 1 (.idx (.var 3) (.int 1))) .nil)))) .nil) [some src, some (.r μ.length), some (.r (μ.length + 1)), some (.d (item (.v k)))] (μ ++ [.m (step kvs k), .l outs]) = some (.next, [some src, some (.r μ.length), some (.r (μ.length + 1)), some (.d (item (.v k)))], μ ++ [.m (step kvs k), .l (outs ++ [item (.v (((step kvs k).lookup k).getD 0))])]) := by
    rw [hn]
    refine ss_append (j := μ.length + 1) (xs := outs) rfl isL1 (e_tup (l_cons e_str (l_cons (e_dget (j := μ.length) rfl (ix1 rfl) at0 hn) l_nil)) rfl (by show 2 ≤ 16777216; decide)) at1 (by omega) ?_
    rw [set1]
    exact ss_nil
  refine ss_ite_t (isv (x := .v k) rfl) (o := (.next, [some src, some (.r μ.length), some (.r (μ.length + 1)), some (.d (item (.v k)))], μ ++ [.m (step kvs k), .l (outs ++ [item (.v (((step kvs k).lookup k).getD 0))])])) ?_ (then_next ss_nil)
  cases hl : (kvs.lookup k).isSome with
  | true =>
    have e : step kvs k = kvs := by unfold step; rw [if_pos hl]
    rw [e] at app ⊢
    refine ss_ite_f (b_val (r := false) ?_) ss_nil (then_next app)
    have := e_dnot (F := F) (i := 1) (j := μ.length) (ρ := [some src, some (.r μ.length), some (.r (μ.length + 1)), some (.d (item (.v k)))]) (k := k) rfl (ix1 (i := 3) (x := .v k) rfl) (at0 (μ := μ) (a := .m kvs) (b := .l outs))
    rw [hl] at this
    exact this
  | false =>
    have e : step kvs k = kvs ++ [(k, (kvs.length : Int))] := by unfold step; rw [if_neg (by rw [hl]; decide)]
    refine ss_ite_t (μ₁ := μ ++ [.m kvs, .l outs]) (b_val (r := true) ?_) (o := (.next, [some src, some (.r μ.length), some (.r (μ.length + 1)), some (.d (item (.v k)))], μ ++ [.m (step kvs k), .l outs])) ?_ (then_next app)
    · have := e_dnot (F := F) (i := 1) (j := μ.length) (ρ := [some src, some (.r μ.length), some (.r (μ.length + 1)), some (.d (item (.v k)))]) (k := k) rfl (ix1 (i := 3) (x := .v k) rfl) (at0 (μ := μ) (a := .m kvs) (b := .l outs))
      rw [hl] at this
      exact this
    · refine ss_dset (j := μ.length) (kvs := kvs) (n := (kvs.length : Int)) (k := k) rfl (e_dlen (j := μ.length) rfl at0 (by omega)) (ix1 (x := .v k) rfl) at0 (by omega) hl ?_
      rw [set0, e]
      exact ss_nil
theorem turnC_o {F : List Fn} {src : MV} {μ : Mu} {kvs : List (Int × Int)} {outs : List PyData} {x : It} (hx : isV x = false) (ho : outs.length ≤ 1000) :
    evSs F bodyC [some src, some (.r μ.length), some (.r (μ.length + 1)), some (.d (item x))] (μ ++ [.m kvs, .l outs]) = some (.next, [some src, some (.r μ.length), some (.r (μ.length + 1)), some (.d (item x))], μ ++ [.m kvs, .l (outs ++ [item x])]) := by
  refine ss_ite_f (by rw [← hx]; exact isv rfl) (o := (.next, [some src, some (.r μ.length), some (.r (μ.length + 1)), some (.d (item x))], μ ++ [.m kvs, .l (outs ++ [item x])])) ?_ (then_next ss_nil)
  refine ss_append (j := μ.length + 1) (xs := outs) rfl isL1 (e_var rfl) at1 (by omega) ?_
  rw [set1]
  exact ss_nil
theorem step_len (kvs : List (Int × Int)) (k : Int) : (step kvs k).length ≤ kvs.length + 1 := by unfold step; split <;> simp
theorem step_some (kvs : List (Int × Int)) (k : Int) : ((step kvs k).lookup k).isSome = true := by
  unfold step
  split
  · assumption
  · rename_i h
    have h' : kvs.lookup k = none := Option.not_isSome_iff_eq_none.mp h
    rw [lookup_add h', if_pos rfl]; rfl
theorem fore_some {i : Nat} {b : Rho → Mu → Option (Out × Rho × Mu)} {src : MV} {n k : Nat} {ρ ρ' : Rho} {μ μ' : Mu} {x : PyData} (h : itAt μ src k = some (some x)) (hb : b (ρ.set i (some (.d x))) μ = some (.next, ρ', μ')) : foreF i b src (n + 1) k ρ μ = foreF i b src n (k + 1) ρ' μ' := by
  rw [foreF, h]
  simp only [Option.bind_some, hb]
theorem fore_none {i : Nat} {b : Rho → Mu → Option (Out × Rho × Mu)} {src : MV} {n k : Nat} {ρ : Rho} {μ : Mu} (h : itAt μ src k = some none) : foreF i b src (n + 1) k ρ μ = some (.next, ρ, μ) := by
  rw [foreF, h]
  rfl
theorem loopC {F : List Fn} {src : MV} {μ : Mu} {T : List It} (hsrc : rd μ src = some (.list (T.map item))) : ∀ (r pre out : List It) (kvs : List (Int × Int)) (i0 : Option MV), T = pre ++ r → kvs.length + r.length ≤ 1000 → out.length + r.length ≤ 1000 →
    ∃ kvs' i', foreF 3 (evSs F bodyC) src (r.length + 1) pre.length [some src, some (.r μ.length), some (.r (μ.length + 1)), i0] (μ ++ [.m kvs, .l (out.map item)]) = some (.next, [some src, some (.r μ.length), some (.r (μ.length + 1)), i'], μ ++ [.m kvs', .l ((out ++ canonF kvs r).map item)])
  | [], pre, out, kvs, i0, hT, _, _ => by
    refine ⟨kvs, i0, ?_⟩
    rw [canonF, List.append_nil]
    refine fore_none ?_
    rw [it_item (rd_app hsrc), hT]
    simp
  | x :: r, pre, out, kvs, i0, hT, hk, ho => by
    have hit : ∀ ext, itAt (μ ++ ext) src pre.length = some (some (item x)) := fun ext => by
      rw [it_item (rd_app hsrc), hT]
      simp
    have hT' : T = (pre ++ [x]) ++ r := by rw [hT]; simp
    have hl : (pre ++ [x]).length = pre.length + 1 := by simp
    rw [List.length_cons] at hk ho
    by_cases hv : isV x = true
    · obtain ⟨k, rfl⟩ : ∃ k, x = .v k := by cases x <;> first | exact ⟨_, rfl⟩ | cases hv
      have h1 := step_len kvs k
      obtain ⟨kvs', i', e⟩ := loopC hsrc r (pre ++ [.v k]) (out ++ [.v (((step kvs k).lookup k).getD 0)]) (step kvs k) (some (.d (item (.v k)))) hT' (by omega) (by simp; omega)
      refine ⟨kvs', i', ?_⟩
      rw [hl] at e
      rw [List.length_cons, fore_some (hit _) (turnC_v (μ := μ) (kvs := kvs) (outs := out.map item) (by omega) (by simp; omega) (step_some kvs k))]
      rw [List.map_append] at e
      rw [show ([It.v (((step kvs k).lookup k).getD 0)].map item) = [item (.v (((step kvs k).lookup k).getD 0))] from rfl] at e
      rw [e, canonF]
      simp
    · have hv' : isV x = false := by simpa using hv
      obtain ⟨kvs', i', e⟩ := loopC hsrc r (pre ++ [x]) (out ++ [x]) kvs (some (.d (item x))) hT' (by omega) (by simp; omega)
      refine ⟨kvs', i', ?_⟩
      rw [hl] at e
      rw [List.length_cons, fore_some (hit _) (turnC_o (μ := μ) (kvs := kvs) (outs := out.map item) hv' (by simp; omega))]
      rw [List.map_append] at e
      rw [show ([x].map item) = [item x] from rfl] at e
      have ec : canonF kvs (x :: r) = x :: canonF kvs r := by cases x <;> first | rfl | cases hv'
      rw [e, ec]
      simp
theorem canon_ok {src : MV} {μ : Mu} {T : List It} (hsrc : rd μ src = some (.list (T.map item))) (hT : T.length ≤ 100) : f_canon [src] μ = some (.list ((due T).map item), μ) := by
  rw [f_canon_at rfl, ← canon_due]
  obtain ⟨kvs', i', e⟩ := loopC (F := []) hsrc T [] [] [] none rfl (by simp; omega) (by simp; omega)
  refine fn_r (i := μ.length + 1) (xs := (canonF [] T).map item) (μ' := μ ++ [.m kvs', .l ((canonF [] T).map item)]) (ρ' := [some src, some (.r μ.length), some (.r (μ.length + 1)), i']) ?_ (Nat.le_succ _) at1 (by rw [take2])
  refine ss_dnew ?_
  refine ss_newlist (vs := []) (xs := []) l_nil rfl (by decide) ?_
  show evSs [] (.cons (.fore 3 (.var 0) bodyC) (.cons (.ret (.var 2)) .nil)) [some src, some (.r μ.length), some (.r (μ ++ [MO.m []]).length), none] (μ ++ [.m []] ++ [.l []]) = _
  have e1 : (μ ++ [MO.m []]).length = μ.length + 1 := by simp
  have e2 : μ ++ [MO.m []] ++ [MO.l []] = μ ++ [.m [], .l []] := by simp
  rw [e1, e2]
  refine ss_fore (e_var rfl) (o := (.next, [some src, some (.r μ.length), some (.r (μ.length + 1)), i'], μ ++ [.m kvs', .l ((canonF [] T).map item)])) ?_ (then_next (ss_ret (e_var rfl)))
  rw [lenOf_item (rd_app hsrc)]
  exact e
end Mini

namespace Mini
open PySem

theorem compF_map {α : Type} {tst : Rho → Mu → Option (Bool × Mu)} {sem : Rho → Mu → Option (MV × Mu)} {cap : Rho} {μ : Mu} {f g : α → PyData} {p : α → Bool} : ∀ (L : List α), (∀ a ∈ L, tst (some (.d (f a)) :: cap) μ = some (p a, μ)) → (∀ a ∈ L, p a = true → sem (some (.d (f a)) :: cap) μ = some (.d (g a), μ)) →
    compF tst sem cap (L.map f) μ = some ((L.filter p).map g, μ)
  | [], _, _ => rfl
  | a :: L, h1, h2 => by
    have ih := compF_map (f := f) (g := g) (p := p) L (fun a m => h1 a (.tail _ m)) (fun a m => h2 a (.tail _ m))
    rw [List.map_cons, compF, h1 a (.head _), Option.bind_some, List.filter_cons]
    cases hp : p a with
    | true =>
      simp only [if_true]
      rw [h2 a (.head _) hp, Option.bind_some]
      simp only [ih, Option.map_some, List.map_cons]
    | false =>
      simp only [Bool.false_eq_true, if_false]
      exact ih
theorem range_below (q : Nat → Bool) (pl : Nat) : ∀ d : Nat, (List.range (pl + d)).filter (fun a => decide (a < pl) && q a) = (List.range pl).filter q
  | 0 => by
    refine List.filter_congr fun a m => ?_
    rw [show decide (a < pl) = true from decide_eq_true (List.mem_range.mp m), Bool.true_and]
  | d + 1 => by
    rw [← Nat.add_assoc, List.range_succ, List.filter_append, range_below q pl d]
    simp
    omega
theorem firsts_cnt {T : List It} {pl : Nat} (h : pl ≤ T.length) : (((List.range T.length).filter (first T)).filter fun j => decide (j < pl)).length = cnt T pl := by
  rw [List.filter_filter]
  have := range_below (first T) pl (T.length - pl)
  rw [show pl + (T.length - pl) = T.length from by omega] at this
  rw [this]
  rfl

def natsD (L : List Nat) : List PyData := L.map fun (n : Nat) => PyData.int n
def tF : MT := (.bop .And (.cons (.val (.cmp .Eq (.idx (.idx (.var 1) (.var 0)) (.int 0)) (.str ⟨#[118, 97, 114]⟩))) (.cons (.val (.cmp .Eq (.index 1 (.idx (.var 1) (.var 0))) (.var 0))) .nil)))
def bodyD : MSs := (.cons (.ite (.val (.cmp .Eq (.idx (.var 3) (.int 0)) (.str ⟨#[118, 97, 114]⟩)))
 (.cons (.assign 4 (.index 0 (.var 3)))
 (.cons (.append 2 (.tup (.cons (.str ⟨#[118, 97, 114]⟩) (.cons (.prim .len (.cons (.comp false [4] (.var 1) (.cons (.val (.cmp .Lt (.var 0) (.var 1))) .nil) (.var 0)) .nil)) .nil))))
 .nil))
 (.cons (.append 2 (.var 3))
 .nil))
 .nil)

section
variable {F : List Fn} {src : MV} {μ : Mu} {T : List It}
theorem test_first (hsrc : rd μ src = some (.list (T.map item))) (hT : T.length ≤ 100) {n : Nat} (hn : n < T.length) : evBs F .And (.cons tF .nil) [some (.d (.int (n : Int))), some src] μ = some (first T n, μ) := by
  obtain ⟨x, hx⟩ : ∃ x, T[n]? = some x := ⟨T[n], List.getElem?_eq_getElem hn⟩
  have e1 : evE F (.idx (.var 1) (.var 0)) [some (.d (.int (n : Int))), some src] μ = some (.d (item x), μ) := e_idx (x := src) (y := .d (.int (n : Int))) (e_var rfl) (e_var rfl) hsrc rfl (idx_list (by omega) (by rw [Int.toNat_natCast, List.getElem?_map, hx]; rfl))
  have e3 : evB F (.val (.cmp .Eq (.idx (.idx (.var 1) (.var 0)) (.int 0)) (.str ⟨#[118, 97, 114]⟩))) [some (.d (.int (n : Int))), some src] μ = some (isV x, μ) :=
    b_val (e_cmp' (e_idx' e1 e_int (show idxD (item x) (.int 0) = some (.str (tag x)) from rfl)) e_str (by show some (tag x == (⟨#[118, 97, 114]⟩ : Str)) = _; rw [tag_var]))
  have e4 : evB F (.val (.cmp .Eq (.index 1 (.idx (.var 1) (.var 0))) (.var 0))) [some (.d (.int (n : Int))), some src] μ = some (place T x == n, μ) := by
    refine b_val (e_cmp' (e_index (v := src) rfl hsrc e1 rfl hsrc (by simp; omega) (index_item hx)) (e_var rfl) ?_)
    show some ((place T x : Int) == (n : Int)) = _
    rw [show ((place T x : Int) == (n : Int)) = (place T x == n) from by
      rw [Bool.eq_iff_iff, beq_iff_eq, beq_iff_eq]; omega]
  have ef : first T n = (isV x && (place T x == n)) := by unfold first; rw [hx]
  rw [ef]
  cases hv : isV x with
  | false =>
    rw [hv] at e3
    exact bs_and_f (b_bop (bs_and_f e3))
  | true =>
    rw [hv] at e3
    cases hp : (place T x == n) with
    | false =>
      rw [hp] at e4
      exact bs_and_f (b_bop (bs_and_t e3 (bs_and_f e4)))
    | true =>
      rw [hp] at e4
      exact bs_and_t (b_bop (bs_and_t e3 (bs_and_t e4 bs_and_nil))) bs_and_nil
theorem firsts_ok (hsrc : rd μ src = some (.list (T.map item))) (hT : T.length ≤ 100) : compF (evBs F .And (.cons tF .nil)) (evE F (.var 0)) [some src] (natsD (List.range T.length)) μ = some (natsD ((List.range T.length).filter (first T)), μ) :=
  compF_map (f := fun (n : Nat) => PyData.int n) (List.range T.length) (fun a m => test_first hsrc hT (List.mem_range.mp m)) (fun a m _ => e_var rfl)
theorem count_ok {pl : Nat} {ρ : Rho} (h1 : ρ[1]?.join = some (.d (.list (natsD ((List.range T.length).filter (first T)))))) (h4 : ρ[4]?.join = some (.d (.int (pl : Int)))) (hT : T.length ≤ 100) (hpl : pl ≤ T.length) :
    evE F (.prim .len (.cons (.comp false [4] (.var 1) (.cons (.val (.cmp .Lt (.var 0) (.var 1))) .nil) (.var 0)) .nil)) ρ μ = some (.d (.int (cnt T pl : Int)), μ) := by
  have hle : ((List.range T.length).filter (first T)).length ≤ T.length := by
    have := List.length_filter_le (first T) (List.range T.length)
    rw [List.length_range] at this
    exact this
  have hc : compF (fun ρ μ => evBs F .And (.cons (.val (.cmp .Lt (.var 0) (.var 1))) .nil) ρ μ) (fun ρ μ => evE F (.var 0) ρ μ) ([4].map fun j => ρ[j]?.join) (natsD ((List.range T.length).filter (first T))) μ = some (natsD (((List.range T.length).filter (first T)).filter fun j => decide (j < pl)), μ) := by
    refine compF_map (f := fun (n : Nat) => PyData.int n) ((List.range T.length).filter (first T)) (fun a m => ?_) (fun a m _ => e_var rfl)
    have hcap : ([4].map fun j => ρ[j]?.join) = [some (.d (.int (pl : Int)))] := by
      show [ρ[4]?.join] = _
      rw [h4]
    rw [hcap]
    have e : evB F (.val (.cmp .Lt (.var 0) (.var 1))) [some (.d (.int (a : Int))), some (.d (.int (pl : Int)))] μ = some (decide (a < pl), μ) := by
      refine b_val (e_cmp' (e_var rfl) (e_var rfl) ?_)
      show some (decide ((a : Int) < (pl : Int))) = _
      rw [show decide ((a : Int) < (pl : Int)) = decide (a < pl) from decide_eq_decide.mpr (by omega)]
    cases hb : decide (a < pl) with
    | true => rw [hb] at e; exact bs_and_t e bs_and_nil
    | false => rw [hb] at e; exact bs_and_f e
  refine e_prim1 (e_comp (e_var h1) (items := natsD ((List.range T.length).filter (first T))) ?_ hc) ?_
  · show (if (natsD ((List.range T.length).filter (first T))).length ≤ 16777216 then some _ else none) = _
    rw [if_pos]
    unfold natsD
    rw [List.length_map]
    omega
  · rw [len_list]
    · unfold natsD
      rw [List.length_map, firsts_cnt hpl]
    · unfold natsD
      rw [List.length_map, firsts_cnt hpl]
      unfold cnt
      have := List.length_filter_le (first T) (List.range pl)
      rw [List.length_range] at this
      omega

theorem turnD {x : It} {n : Nat} {outs : List PyData} {p0 : Option MV} (hsrc : rd μ src = some (.list (T.map item))) (hT : T.length ≤ 100) (hx : T[n]? = some x) (ho : outs.length ≤ 1000) :
    ∃ p', evSs F bodyD [some src, some (.d (.list (natsD ((List.range T.length).filter (first T))))), some (.r μ.length), some (.d (item x)), p0] (μ ++ [.l outs]) = some (.next, [some src, some (.d (.list (natsD ((List.range T.length).filter (first T))))), some (.r μ.length), some (.d (item x)), p'], μ ++ [.l (outs ++ [item (dueI T x)])]) := by
  have hpl : place T x ≤ T.length := Nat.le_trans (place_le hx) (Nat.le_of_lt (List.getElem?_eq_some_iff.mp hx).1)
  have hrd : rd (μ ++ [.l outs]) src = some (.list (T.map item)) := rd_app hsrc
  cases hv : isV x with
  | true =>
    refine ⟨some (.d (.int (place T x : Int))), ?_⟩
    have ed : dueI T x = .v (cnt T (place T x)) := by unfold dueI; rw [if_pos hv]
    rw [ed]
    refine ss_ite_t (μ₁ := μ ++ [.l outs]) (by rw [← hv]; exact isv rfl) (o := (.next, [some src, some (.d (.list (natsD ((List.range T.length).filter (first T))))), some (.r μ.length), some (.d (item x)), some (.d (.int (place T x : Int)))], μ ++ [.l (outs ++ [item (.v (cnt T (place T x)))])])) ?_ (then_next ss_nil)
    refine ss_assign (x := .d (.int (place T x : Int))) (μ₁ := μ ++ [.l outs]) (e_index (v := src) rfl hrd (e_var rfl) (dx := item x) rfl hrd (by simp; omega) (index_item hx)) ?_
    refine ss_append (j := μ.length) (xs := outs) rfl isLL (e_tup (l_cons e_str (l_cons (count_ok (T := T) (pl := place T x) rfl rfl hT hpl) l_nil)) rfl (by show 2 ≤ 16777216; decide)) atL (by omega) ?_
    rw [setL]
    exact ss_nil
  | false =>
    refine ⟨p0, ?_⟩
    have ed : dueI T x = x := by unfold dueI; rw [if_neg (by rw [hv]; decide)]
    rw [ed]
    refine ss_ite_f (μ₁ := μ ++ [.l outs]) (by rw [← hv]; exact isv rfl) (o := (.next, [some src, some (.d (.list (natsD ((List.range T.length).filter (first T))))), some (.r μ.length), some (.d (item x)), p0], μ ++ [.l (outs ++ [item x])])) ?_ (then_next ss_nil)
    refine ss_append (j := μ.length) (xs := outs) rfl isLL (e_var rfl) atL (by omega) ?_
    rw [setL]
    exact ss_nil
theorem loopD (hsrc : rd μ src = some (.list (T.map item))) (hlen : T.length ≤ 100) : ∀ (r pre out : List It) (i0 p0 : Option MV), T = pre ++ r → out.length + r.length ≤ 1000 →
    ∃ i' p', foreF 3 (evSs F bodyD) src (r.length + 1) pre.length [some src, some (.d (.list (natsD ((List.range T.length).filter (first T))))), some (.r μ.length), i0, p0] (μ ++ [.l (out.map item)]) = some (.next, [some src, some (.d (.list (natsD ((List.range T.length).filter (first T))))), some (.r μ.length), i', p'], μ ++ [.l ((out ++ r.map (dueI T)).map item)])
  | [], pre, out, i0, p0, hT, _ => by
    refine ⟨i0, p0, ?_⟩
    rw [List.map_nil, List.append_nil]
    refine fore_none ?_
    rw [it_item (rd_app hsrc), hT]
    simp
  | x :: r, pre, out, i0, p0, hT, ho => by
    have hit : ∀ ext, itAt (μ ++ ext) src pre.length = some (some (item x)) := fun ext => by
      rw [it_item (rd_app hsrc), hT]
      simp
    have hx : T[pre.length]? = some x := by rw [hT]; simp
    have hT' : T = (pre ++ [x]) ++ r := by rw [hT]; simp
    have hl : (pre ++ [x]).length = pre.length + 1 := by simp
    rw [List.length_cons] at ho
    obtain ⟨p1, e1⟩ := turnD (F := F) (outs := out.map item) (p0 := p0) hsrc hlen hx (by simp; omega)
    obtain ⟨i', p', e⟩ := loopD hsrc hlen r (pre ++ [x]) (out ++ [dueI T x]) (some (.d (item x))) p1 hT' (by simp; omega)
    refine ⟨i', p', ?_⟩
    rw [hl] at e
    rw [List.length_cons, fore_some (hit _) e1]
    rw [List.map_append] at e
    rw [show ([dueI T x].map item) = [item (dueI T x)] from rfl] at e
    rw [e]
    simp
theorem due_ok (hsrc : rd μ src = some (.list (T.map item))) (hT : T.length ≤ 100) : f_due [src] μ = some (.list ((due T).map item), μ) := by
  rw [f_due_at rfl]
  obtain ⟨i', p', e⟩ := loopD (F := [f_canon, f_cell, f_leaf, f_maker, f_type]) hsrc hT T [] [] none none rfl (by simp; omega)
  refine fn_r (i := μ.length) (xs := (due T).map item) (μ' := μ ++ [.l ((due T).map item)]) (ρ' := [some src, some (.d (.list (natsD ((List.range T.length).filter (first T))))), some (.r μ.length), i', p']) ?_ (Nat.le_refl _) atL (by rw [take1])
  refine ss_compr (x := .d (.int (T.length : Int))) (μ₁ := μ) (items := natsD (List.range T.length)) (xs := natsD ((List.range T.length).filter (first T))) (μ₂ := μ) ?_ ?_ (firsts_ok hsrc hT) ?_
  · refine e_prim (l_cons (e_var rfl) l_nil) (xs := [.list (T.map item)]) ?_ ?_
    · simp only [rdAll, hsrc, Option.bind_eq_bind, Option.bind_some]
    · rw [len_list (by simp; omega), List.length_map]
  · simp only [itemsD, Int.toNat_natCast]
    rw [if_pos (by omega)]
    rfl
  refine ss_newlist (vs := []) (xs := []) l_nil rfl (by decide) ?_
  refine ss_fore (e_var rfl) (o := (.next, [some src, some (.d (.list (natsD ((List.range T.length).filter (first T))))), some (.r μ.length), i', p'], μ ++ [.l ((due T).map item)])) ?_ (then_next (ss_ret (e_var rfl)))
  rw [lenOf_item (rd_app hsrc)]
  exact e
end
end Mini

namespace Mini
open PySem

theorem fmod_nat (c : Int) (m : Nat) (h : 0 < m) : ∃ k : Nat, k < m ∧ c.fmod (m : Int) = (k : Int) := by
  have h1 := Int.fmod_nonneg_of_pos c (by omega : (0 : Int) < (m : Int))
  have h2 := Int.fmod_lt_of_pos c (by omega : (0 : Int) < (m : Int))
  exact ⟨(c.fmod m).toNat, by omega, by omega⟩
theorem mod_ok (c : Int) (m : Nat) (h : 0 < m) : ∃ k : Nat, k < m ∧ binD .Mod (.int c) (.int (m : Int)) = some (.int (k : Int)) := by
  obtain ⟨k, hk, e⟩ := fmod_nat c m h
  exact ⟨k, hk, by simp only [binD, if_neg (by omega : ¬ (m : Int) = 0), e]⟩
theorem cell_ok {xs : List Int} {i : Int} {μ : Mu} (hl : xs.length ≤ 63) (h0 : 0 ≤ i) : ∃ c, f_cell [.d (.list (xs.map .int)), .d (.int i)] μ = some (.int c, μ) := by
  rw [f_cell_at rfl]
  have hlen := len_list (xs := xs.map PyData.int) (by simp; omega)
  rw [List.length_map] at hlen
  have t : ∀ {b : Bool}, cmpD .Lt (.int i) (.int (xs.length : Int)) = some b → evB [f_canon] (.val (.cmp .Lt (.var 1) (.prim .len (.cons (.var 0) .nil)))) [some (.d (.list (xs.map .int))), some (.d (.int i))] μ = some (b, μ) := fun hc => b_val (e_cmp' (e_var rfl) (e_prim1 (e_var rfl) hlen) hc)
  by_cases hi : i < xs.length
  · have hc : cmpD .Lt (.int i) (.int (xs.length : Int)) = some true := by simp [cmpD, hi]
    have hx : idxD (.list (xs.map .int)) (.int i) = some (.int (xs.getD i.toNat 0)) := idx_list (by omega) (by
      rw [List.getElem?_map, List.getElem?_eq_getElem (by omega), List.getD_eq_getElem?_getD, List.getElem?_eq_getElem (by omega)]; rfl)
    refine ⟨xs.getD i.toNat 0, fn_d (μ' := μ) (ρ' := [some (.d (.list (xs.map .int))), some (.d (.int i))]) ?_ (by rw [List.take_length])⟩
    exact ss_ite_t (t hc) (ss_ret (e_idx' (e_var rfl) (e_var rfl) hx)) then_ret
  · have hc : cmpD .Lt (.int i) (.int (xs.length : Int)) = some false := by simp [cmpD]; omega
    refine ⟨0, fn_d (μ' := μ) (ρ' := [some (.d (.list (xs.map .int))), some (.d (.int i))]) ?_ (by rw [List.take_length])⟩
    exact ss_ite_f (t hc) ss_nil (then_next (ss_ret e_int))
theorem leaf_ok (c big : Int) (μ : Mu) : ∃ x, f_leaf [.d (.int c), .d (.int big)] μ = some (item x, μ) := by
  rw [f_leaf_at rfl]
  obtain ⟨k, hk, e⟩ := mod_ok c 8 (by decide)
  replace e : binD .Mod (.int c) (.int 8) = some (.int (k : Int)) := e
  have go : ∀ {x : It}, evSs [f_canon, f_cell] b_law_leaf [some (.d (.int c)), some (.d (.int big)), none] μ = some (.ret (.d (item x)), [some (.d (.int c)), some (.d (.int big)), some (.d (.int (k : Int)))], μ) → ∃ x, fnOf [f_canon, f_cell] 1 b_law_leaf [.d (.int c), .d (.int big)] μ = some (item x, μ) := fun {x} h => ⟨x, fn_d h (by rw [List.take_length])⟩
  have eq : ∀ {n : Int} {b : Bool}, ((k : Int) == n) = b → evB [f_canon, f_cell] (.val (.cmp .Eq (.var 2) (.int n))) [some (.d (.int c)), some (.d (.int big)), some (.d (.int (k : Int)))] μ = some (b, μ) := fun h => b_val (e_cmp' (e_var rfl) e_int (by rw [← h]; rfl))
  by_cases h0 : k = 0
  · refine go (x := .i) (ss_assign (x := .d (.int (k : Int))) (μ₁ := μ) (e_bin' (e_var rfl) e_int e) ?_)
    exact ss_ite_t (eq (by simp [h0])) (ss_ret (e_tup (l_cons e_str (l_cons e_int l_nil)) rfl (by show 2 ≤ 16777216; decide))) then_ret
  by_cases h1 : k = 1
  · refine go (x := .b) (ss_assign (x := .d (.int (k : Int))) (μ₁ := μ) (e_bin' (e_var rfl) e_int e) ?_)
    refine ss_ite_f (eq (by simp [h1])) ss_nil (then_next ?_)
    exact ss_ite_t (eq (by simp [h1])) (ss_ret (e_tup (l_cons e_str (l_cons e_int l_nil)) rfl (by show 2 ≤ 16777216; decide))) then_ret
  have lt : ∀ {b : Bool}, decide ((k : Int) < 6) = b → evB [f_canon, f_cell] (.val (.cmp .Lt (.var 2) (.int 6))) [some (.d (.int c)), some (.d (.int big)), some (.d (.int (k : Int)))] μ = some (b, μ) := fun h => b_val (e_cmp' (e_var rfl) e_int (by rw [← h]; rfl))
  by_cases h6 : k < 6
  · refine go (x := .v ((k : Int) - 2)) (ss_assign (x := .d (.int (k : Int))) (μ₁ := μ) (e_bin' (e_var rfl) e_int e) ?_)
    refine ss_ite_f (eq (by simp; omega)) ss_nil (then_next ?_)
    refine ss_ite_f (eq (by simp; omega)) ss_nil (then_next ?_)
    exact ss_ite_t (lt (decide_eq_true (by omega))) (ss_ret (e_tup (l_cons e_str (l_cons (e_bin' (e_var rfl) e_int rfl) l_nil)) rfl (by show 2 ≤ 16777216; decide))) then_ret
  · refine go (x := .v (big + (k : Int) - 6)) (ss_assign (x := .d (.int (k : Int))) (μ₁ := μ) (e_bin' (e_var rfl) e_int e) ?_)
    refine ss_ite_f (eq (by simp; omega)) ss_nil (then_next ?_)
    refine ss_ite_f (eq (by simp; omega)) ss_nil (then_next ?_)
    refine ss_ite_f (lt (decide_eq_false (by omega))) ss_nil (then_next ?_)
    exact ss_ret (e_tup (l_cons e_str (l_cons (e_bin' (e_bin' (e_var rfl) (e_var rfl) rfl) e_int rfl) l_nil)) rfl (by show 2 ≤ 16777216; decide))
def mkI (k : Int) : It := if k.fmod 2 = 0 then .f else .p
theorem maker_ok (k : Int) (μ : Mu) : f_maker [.d (.int k)] μ = some (item (mkI k), μ) := by
  rw [f_maker_at rfl]
  have e : binD .Mod (.int k) (.int 2) = some (.int (k.fmod 2)) := rfl
  have t : ∀ {b : Bool}, (k.fmod 2 == 0) = b → evB [f_canon, f_cell, f_leaf] (.val (.cmp .Eq (.bin .Mod (.var 0) (.int 2)) (.int 0))) [some (.d (.int k))] μ = some (b, μ) := fun h => b_val (e_cmp' (e_bin' (e_var rfl) e_int e) e_int (by rw [← h]; rfl))
  by_cases h : k.fmod 2 = 0
  · refine fn_d (x := item (mkI k)) (μ' := μ) (ρ' := [some (.d (.int k))]) ?_ (by rw [List.take_length])
    rw [show mkI k = .f from if_pos h]
    exact ss_ite_t (t (by simpa using h)) (ss_ret (e_tup (l_cons e_str (l_cons e_int l_nil)) rfl (by show 2 ≤ 16777216; decide))) then_ret
  · refine fn_d (x := item (mkI k)) (μ' := μ) (ρ' := [some (.d (.int k))]) ?_ (by rw [List.take_length])
    rw [show mkI k = .p from if_neg h]
    exact ss_ite_f (t (by simpa using h)) ss_nil (then_next (ss_ret (e_tup (l_cons e_str (l_cons e_int l_nil)) rfl (by show 2 ≤ 16777216; decide))))

def bodyT : MSs := (.cons (.append 3 (.call 2 (.cons (.call 1 (.cons (.var 0) (.cons (.bin .Add (.int 3) (.var 5)) .nil))) (.cons (.var 1) .nil))))
 (.cons (.ite (.val (.cmp .Gt (.var 5) (.int 0)))
 (.cons (.ite (.val (.cmp .Eq (.bin .Mod (.bin .RShift (.var 2) (.var 5)) (.int 2)) (.int 1)))
 (.cons (.append 3 (.call 3 (.cons (.bin .Add (.var 2) (.var 5)) .nil)))
 .nil)
 (.cons (.assign 4 (.bin .Add (.var 4) (.int 1)))
 .nil))
 .nil)
 .nil)
 .nil))
def rT (xs : List Int) (big sh w : Int) (i : Option MV) : Rho := [some (.d (.list (xs.map .int))), some (.d (.int big)), some (.d (.int sh)), some (.r 0), some (.d (.int w)), i]
theorem turnT {xs : List Int} {big sh w i : Int} {T : List It} (hl : xs.length ≤ 63) (hi : 0 ≤ i) (hT : T.length ≤ 100) :
    ∃ (T' : List It) (w' : Int), evSs [f_canon, f_cell, f_leaf, f_maker] bodyT (rT xs big sh w (some (.d (.int i)))) [.l (T.map item)] = some (.next, rT xs big sh w' (some (.d (.int i))), [.l (T'.map item)]) ∧ T'.length ≤ T.length + 2 ∧ w ≤ w' ∧ w' ≤ w + 1 := by
  obtain ⟨c, hc⟩ := cell_ok (xs := xs) (i := 3 + i) (μ := [.l (T.map item)]) hl (by omega)
  obtain ⟨x, hx⟩ := leaf_ok c big [.l (T.map item)]
  have e1 : evE [f_canon, f_cell, f_leaf, f_maker] (.call 2 (.cons (.call 1 (.cons (.var 0) (.cons (.bin .Add (.int 3) (.var 5)) .nil))) (.cons (.var 1) .nil))) (rT xs big sh w (some (.d (.int i)))) [.l (T.map item)] = some (.d (item x), [.l (T.map item)]) :=
    e_call (l_cons (e_call (l_cons (e_var rfl) (l_cons (e_bin' e_int (e_var rfl) rfl) l_nil)) rfl hc) (l_cons (e_var rfl) l_nil)) rfl hx
  have app : ∀ {r : Option (Out × Rho × Mu)} {ss : MSs}, evSs [f_canon, f_cell, f_leaf, f_maker] ss (rT xs big sh w (some (.d (.int i)))) [.l ((T ++ [x]).map item)] = r → evSs [f_canon, f_cell, f_leaf, f_maker] (.cons (.append 3 (.call 2 (.cons (.call 1 (.cons (.var 0) (.cons (.bin .Add (.int 3) (.var 5)) .nil))) (.cons (.var 1) .nil)))) ss) (rT xs big sh w (some (.d (.int i)))) [.l (T.map item)] = r := fun {r ss} h => by
    refine ss_append (j := 0) (xs := T.map item) rfl rfl e1 rfl (by simp; omega) ?_
    rw [List.map_append] at h
    exact h
  by_cases h0 : 0 < i
  · have hg : evB [f_canon, f_cell, f_leaf, f_maker] (.val (.cmp .Gt (.var 5) (.int 0))) (rT xs big sh w (some (.d (.int i)))) [.l ((T ++ [x]).map item)] = some (true, [.l ((T ++ [x]).map item)]) := b_val (e_cmp' (e_var rfl) e_int (by show some (decide ((0 : Int) < i)) = _; rw [decide_eq_true h0]))
    have hb : ∀ {b : Bool}, ((sh.fdiv (2 ^ i.toNat)).fmod 2 == 1) = b → evB [f_canon, f_cell, f_leaf, f_maker] (.val (.cmp .Eq (.bin .Mod (.bin .RShift (.var 2) (.var 5)) (.int 2)) (.int 1))) (rT xs big sh w (some (.d (.int i)))) [.l ((T ++ [x]).map item)] = some (b, [.l ((T ++ [x]).map item)]) := fun h =>
      b_val (e_cmp' (e_bin' (dx := .int (sh.fdiv (2 ^ i.toNat))) (e_bin' (e_var rfl) (e_var rfl) (by simp only [binD, if_pos hi])) e_int rfl) e_int (by rw [← h]; rfl))
    cases hbit : ((sh.fdiv (2 ^ i.toNat)).fmod 2 == 1) with
    | true =>
      refine ⟨T ++ [x] ++ [mkI (sh + i)], w, app ?_, by simp only [List.length_append, List.length_singleton]; omega, by omega, by omega⟩
      refine ss_ite_t hg (o := (.next, rT xs big sh w (some (.d (.int i))), [.l ((T ++ [x] ++ [mkI (sh + i)]).map item)])) ?_ (then_next ss_nil)
      refine ss_ite_t (hb hbit) (o := (.next, rT xs big sh w (some (.d (.int i))), [.l ((T ++ [x] ++ [mkI (sh + i)]).map item)])) ?_ (then_next ss_nil)
      refine ss_append (j := 0) (xs := (T ++ [x]).map item) rfl rfl (e_call (l_cons (e_bin' (e_var rfl) (e_var rfl) rfl) l_nil) rfl (maker_ok (sh + i) _)) rfl (by simp; omega) ?_
      rw [List.map_append (l₁ := T ++ [x])]
      exact ss_nil
    | false =>
      refine ⟨T ++ [x], w + 1, app ?_, by simp only [List.length_append, List.length_singleton]; omega, by omega, by omega⟩
      refine ss_ite_t hg (o := (.next, rT xs big sh (w + 1) (some (.d (.int i))), [.l ((T ++ [x]).map item)])) ?_ (then_next ss_nil)
      refine ss_ite_f (hb hbit) (o := (.next, rT xs big sh (w + 1) (some (.d (.int i))), [.l ((T ++ [x]).map item)])) ?_ (then_next ss_nil)
      exact ss_assign (x := .d (.int (w + 1))) (μ₁ := [.l ((T ++ [x]).map item)]) (e_bin' (e_var rfl) e_int rfl) ss_nil
  · have hg : evB [f_canon, f_cell, f_leaf, f_maker] (.val (.cmp .Gt (.var 5) (.int 0))) (rT xs big sh w (some (.d (.int i)))) [.l ((T ++ [x]).map item)] = some (false, [.l ((T ++ [x]).map item)]) := b_val (e_cmp' (e_var rfl) e_int (by show some (decide ((0 : Int) < i)) = _; rw [decide_eq_false h0]))
    refine ⟨T ++ [x], w, app ?_, by simp only [List.length_append, List.length_singleton]; omega, by omega, by omega⟩
    exact ss_ite_f hg ss_nil (then_next ss_nil)
theorem loopT {xs : List Int} {big sh : Int} (hl : xs.length ≤ 63) : ∀ (n : Nat) (i w : Int) (T : List It) (i0 : Option MV), 0 ≤ i → T.length + 2 * n ≤ 60 →
    ∃ (T' : List It) (w' : Int) (i' : Option MV), forF 5 (evSs [f_canon, f_cell, f_leaf, f_maker] bodyT) n i (rT xs big sh w i0) [.l (T.map item)] = some (.next, rT xs big sh w' i', [.l (T'.map item)]) ∧ T'.length ≤ T.length + 2 * n ∧ w ≤ w' ∧ w' ≤ w + n
  | 0, i, w, T, i0, _, _ => ⟨T, w, i0, rfl, by omega, by omega, by omega⟩
  | n + 1, i, w, T, i0, hi, hn => by
    obtain ⟨T', w', e, h1, h2, h3⟩ := turnT (xs := xs) (big := big) (sh := sh) (w := w) (i := i) (T := T) hl hi (by omega)
    obtain ⟨T'', w'', i'', e', h4, h5, h6⟩ := loopT hl n (i + 1) w' T' (some (.d (.int i))) (by omega) (by omega)
    refine ⟨T'', w'', i'', ?_, by omega, by omega, by omega⟩
    rw [← e']
    rw [forF, show (rT xs big sh w i0).set 5 (some (.d (.int i))) = rT xs big sh w (some (.d (.int i))) from rfl, e]
    rfl
theorem type_ok {xs : List Int} (big : Int) (hl : xs.length ≤ 63) : ∃ T : List It, T.length ≤ 40 ∧ f_type [.d (.list (xs.map .int)), .d (.int big)] [] = some (.list (T.map item), []) := by
  rw [f_type_at rfl]
  obtain ⟨c2, hc2⟩ := cell_ok (xs := xs) (i := 2) (μ := []) hl (by omega)
  obtain ⟨sh, _, hsh⟩ := mod_ok c2 64 (by decide)
  replace hsh : binD .Mod (.int c2) (.int 64) = some (.int (sh : Int)) := hsh
  obtain ⟨c0, hc0⟩ := cell_ok (xs := xs) (i := 0) (μ := [.l []]) hl (by omega)
  obtain ⟨n, hn, hm⟩ := mod_ok c0 6 (by decide)
  replace hm : binD .Mod (.int c0) (.int 6) = some (.int (n : Int)) := hm
  obtain ⟨T, w, i', e, h1, h2, h3⟩ := loopT (xs := xs) (big := big) (sh := (sh : Int)) hl (1 + n) 0 0 [] none (by omega) (by simp; omega)
  rw [List.length_nil] at h1
  have hw : ∃ m : Nat, w = (m : Int) ∧ m ≤ 6 := ⟨w.toNat, by omega, by omega⟩
  obtain ⟨m, rfl, hm6⟩ := hw
  refine ⟨T ++ (List.range m).map fun (j : Nat) => mkI ((sh : Int) + (j : Int)), by simp; omega, ?_⟩
  refine fn_d (x := .list ((T ++ (List.range m).map fun (j : Nat) => mkI ((sh : Int) + (j : Int))).map item)) (μ' := [.l (T.map item)]) (ρ' := rT xs big sh (m : Int) i') ?_ rfl
  refine ss_assign (x := .d (.int (sh : Int))) (μ₁ := []) (e_bin' (e_call (l_cons (e_var rfl) (l_cons e_int l_nil)) rfl hc2) e_int hsh) ?_
  refine ss_newlist (vs := []) (xs := []) l_nil rfl (by decide) ?_
  refine ss_assign (x := .d (.int 0)) (μ₁ := [.l []]) e_int ?_
  refine ss_forr (k := 1 + (n : Int)) (μ₁ := [.l []]) (e_bin' e_int (e_bin' (e_call (l_cons (e_var rfl) (l_cons e_int l_nil)) rfl hc0) e_int hm) rfl) (by omega) (o := (.next, rT xs big sh (m : Int) i', [.l (T.map item)])) ?_ (then_next ?_)
  · rw [show (1 + (n : Int)).toNat = 1 + n from by omega]
    exact e
  · refine ss_ret (e_bin (x := .r 0) (y := .d (.list (((List.range m).map fun (j : Nat) => mkI ((sh : Int) + (j : Int))).map item))) (μ₁ := [.l (T.map item)]) (μ₂ := [.l (T.map item)]) (dx := .list (T.map item)) (e_var rfl) (e_comp (x := .d (.int (m : Int))) (μ₁ := [.l (T.map item)]) (items := natsD (List.range m)) (e_var rfl) ?_ ?_) rfl rfl ?_)
    · simp only [itemsD, Int.toNat_natCast]
      rw [if_pos (by omega)]
      rfl
    · have := compF_map (tst := fun ρ μ => evBs [f_canon, f_cell, f_leaf, f_maker] .And .nil ρ μ) (sem := fun ρ μ => evE [f_canon, f_cell, f_leaf, f_maker] (.call 3 (.cons (.bin .Add (.var 1) (.var 0)) .nil)) ρ μ) (cap := [some (.d (.int (sh : Int)))]) (μ := [.l (T.map item)]) (f := fun (n : Nat) => PyData.int n) (g := fun (j : Nat) => item (mkI ((sh : Int) + (j : Int)))) (p := fun _ => true)
        (List.range m) (fun a _ => bs_and_nil) (fun a _ _ => e_call (l_cons (e_bin' (e_var rfl) (e_var rfl) rfl) l_nil) rfl (maker_ok _ _))
      rw [List.filter_eq_self.mpr (fun _ _ => rfl)] at this
      rw [List.map_map]
      exact this
    · simp only [binD]
      rw [if_pos (by simp; omega), List.map_append]
end Mini

namespace Mini
open PySem
def F7 : List Fn := [f_canon, f_cell, f_leaf, f_maker, f_type, f_due]
theorem due_len (T : List It) : (due T).length = T.length := by unfold due; rw [List.length_map]
theorem copy_ok {F : List Fn} {μ : Mu} (T : List It) : compF (evBs F .And .nil) (evE F (.var 0)) [] (T.map item) μ = some (T.map item, μ) := by
  have := compF_map (tst := evBs F .And .nil) (sem := evE F (.var 0)) (cap := []) (μ := μ) (f := item) (g := item) (p := fun _ => true) T (fun _ _ => bs_and_nil) (fun _ _ _ => e_var rfl)
  rw [List.filter_eq_self.mpr (fun _ _ => rfl)] at this
  exact this
/-- the law's run: up to the test of all(..), and behind it -/
theorem law_run (xs : List Int) (hl : xs.length ≤ 63) : ∃ (ρ₁ ρ₂ : Rho) (μ₁ μ₂ : Mu) (ys : List It),
    evSs F7 b_law_pre (some (.d (.list (xs.map .int))) :: List.replicate 5 none) [] = some (.next, ρ₁, μ₁) ∧ ρ₁[5]?.join = some (.d (.list (ys.map item))) ∧ evSs F7 b_law_post ρ₁ μ₁ = some (.ret (.d (.bool true)), ρ₂, μ₂) := by
  obtain ⟨c, hc⟩ := cell_ok (xs := xs) (i := 1) (μ := []) hl (by omega)
  obtain ⟨big, hbig⟩ : ∃ b, primD .abs [.int c] = some (.int b) := ⟨_, rfl⟩
  obtain ⟨T, hT, hty⟩ := type_ok big hl
  have hT' : (T ++ [It.v big] ++ [It.f]).length ≤ 100 := by simp; omega
  refine ⟨[some (.d (.list (xs.map .int))), some (.d (.int big)), some (.d (.list (T.map item))), some (.r 0), some (.d (.list ((due T).map item))), some (.d (.list ((due T).map item)))],
    [some (.d (.list (xs.map .int))), some (.d (.int big)), some (.d (.list (T.map item))), some (.r 0), some (.d (.list ((due T).map item))), some (.d (.list ((due T).map item)))], [.l (T.map item)], [.l ((T ++ [It.v big] ++ [It.f]).map item)], due T, ?_, rfl, ?_⟩
  · refine ss_assign (x := .d (.int big)) (μ₁ := []) (e_prim1 (e_call (l_cons (e_var rfl) (l_cons e_int l_nil)) rfl hc) hbig) ?_
    refine ss_assign (x := .d (.list (T.map item))) (μ₁ := []) (e_call (l_cons (e_var rfl) (l_cons (e_var rfl) l_nil)) rfl hty) ?_
    refine ss_comprn (x := .d (.list (T.map item))) (μ₁ := []) (items := T.map item) (xs := T.map item) (μ₂ := []) (e_var rfl) ?_ (copy_ok T) ?_
    · simp only [itemsD]
      rw [if_pos (by simp; omega)]
    refine ss_assign (x := .d (.list ((due T).map item))) (μ₁ := [.l (T.map item)]) (e_call (l_cons (e_var rfl) l_nil) rfl (due_ok rfl (by omega))) ?_
    refine ss_assign (x := .d (.list ((due T).map item))) (μ₁ := [.l (T.map item)]) (e_call (l_cons (e_var rfl) l_nil) rfl (canon_ok rfl (by omega))) ?_
    exact ss_ite_f (b_val (e_cmp' (e_var rfl) (e_var rfl) (items_same _))) ss_nil (then_next ss_nil)
  · refine ss_ite_f (b_val (e_cmp (x := .r 0) (y := .d (.list (T.map item))) (μ₁ := [.l (T.map item)]) (μ₂ := [.l (T.map item)]) (e_var rfl) (e_var rfl) rfl rfl (items_same T))) ss_nil (then_next ?_)
    refine ss_append (j := 0) (xs := T.map item) rfl rfl (e_tup (l_cons e_str (l_cons (e_var rfl) l_nil)) rfl (by show 2 ≤ 16777216; decide)) rfl (by simp; omega) ?_
    refine ss_append (j := 0) (xs := T.map item ++ [item (.v big)]) rfl rfl (e_tup (l_cons e_str (l_cons e_int l_nil)) rfl (by show 2 ≤ 16777216; decide)) rfl (by simp; omega) ?_
    have e0 : (T.map item ++ [item (.v big)]) ++ [item .f] = (T ++ [It.v big] ++ [It.f]).map item := by simp
    show evSs F7 _ _ [.l ((T.map item ++ [item (.v big)]) ++ [item .f])] = _
    rw [e0]
    refine ss_ite_f (b_val (e_cmp' (e_var rfl) (e_var rfl) (items_same _))) ss_nil (then_next ?_)
    refine ss_ite_f (b_val (e_cmp' (e_call (l_cons (e_var rfl) l_nil) rfl (canon_ok rfl hT')) (e_call (l_cons (e_var rfl) l_nil) rfl (due_ok rfl hT')) (items_same _))) ss_nil (then_next ?_)
    exact ss_ret e_bool
theorem items_int (T : List It) : ∀ x ∈ T.map item, ∃ y n, x = .tuple [y, .int n] := fun x m => by
  obtain ⟨z, _, rfl⟩ := List.mem_map.mp m
  exact ⟨_, _, rfl⟩
end Mini

namespace Mini
open PySem PySem.W PyProof.Rows
def fds07 : List FD := [⟨"canonical", 1, 3, n_canonical, b_canonical⟩, ⟨"_law_cell", 2, 0, n_law_cell, b_law_cell⟩, ⟨"_law_leaf", 2, 1, n_law_leaf, b_law_leaf⟩, ⟨"_law_maker", 1, 0, n_law_maker, b_law_maker⟩, ⟨"_law_type", 2, 4, n_law_type, b_law_type⟩, ⟨"_law_due", 1, 4, n_law_due, b_law_due⟩]
def law07 : LD := ⟨"law", 5, n_law, 5, 6, b_law_pre, b_law_post⟩
theorem sem07 : (sems fds07 []).map (·.2) = F7 := rfl
end Mini
open PySem PySem.W PyProof.Rows
set_option maxRecDepth 100000 in
set_option maxHeartbeats 8000000 in
theorem PySem.Challenge.cw_k13_0007_holds : PySem.Challenge.rw_k13_0007.Holds := by
  w_on; o_law; k_head; (case hw => w_witness2)
  k_fill
  intro w s₀ s₁ mg mb G Y fa o pm cd doc dV kV ho hd hcd hD hmg hg args vals as hpre hlay hrd hwl hlo
  refine Ground.open G ?_
  intro T B D TE TW
  have hwl2 := hwl
  wrow_args hpre hlay hrd hwl hlo
  rename_i ns _ _ _ _ _ _ _ a vs _ hL _ _ _ hI _ hc _
  have hl : ns.length ≤ 63 := by omega
  obtain ⟨ρ₁, ρ₂, μ₁, μ₂, ys, h1, h2, h3⟩ := Mini.law_run ns hl
  refine Mini.law_call2 T Mini.fds07 Mini.law07 ?_ ?_ ?_ ?_ rfl hg hmg (Mini.plain_of hL hwl2) hI h1 h2 (Mini.items_int ys) h3 ?_
  · decide +kernel
  · decide +kernel
  · decide +kernel
  · decide
  · intro s' hK hos hb
    exact Mini.law_good2 hK hos hb
