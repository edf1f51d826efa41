import PyProof.Rows.All
import Wide.All
import OpenK.AllK
import Wide.FinOn
import PyProof.Lay0
import PyProof.EqLayable
import PyProof.StrBlockI
import PyProof.Rows.Tup
import PyProof.Rows.News
import PyProof.PlainList
import PyProof.Rows.StrTemp
import PyProof.Rows.StrRules
import PyProof.Rows.RuleB_mod
import PyProof.Rows.RuleC_int
import PyProof.Rows.RuleN_abs
import PyProof.Rows.SeqMore
import PyProof.Rows.IntRules
import PyProof.DefCall
import PyProof.WalkInts
import PyProof.LetGo
import PyProof.RulesDel
import PyProof.RulesDelMore
import PyProof.SliceMore
import PyProof.SliceSyntax
import PyProof.IsiPairs
import PyProof.MakeMany
import PyProof.IsRules
import PyProof.StrBlockH
import PyProof.ForRange
import PyProof.Rows.TupAssign
import PyProof.RulesMatch
import PyProof.ForAppend
import PyProof.Raises
import PyProof.TupleIter
import PyProof.RangeIter
import PyProof.DelItemList
import Open.Row
import PyProof.Rows.Walk
import PyProof.P3Eq
import PySem.Challenge.RW_k13_0030
set_option Elab.async false

namespace Mini
open PySem

/-- the lists that a run may change, by number -/
abbrev Mu := List (List PyData)
/-- a value: plain data, or a numbered list -/
inductive MV where
  | d (x : PyData)
  | r (i : Nat)
abbrev Rho := List (Option MV)
abbrev Fn := List MV → Mu → Option (PyData × Mu)

inductive Prim where
  | len | abs | max

def Prim.id : Prim → String
  | .len => "len" | .abs => "abs" | .max => "max"
def Prim.name : Prim → Str
  | .len => "len" | .abs => "abs" | .max => "max"

mutual
inductive ME where
  | var (i : Nat)
  | none
  | bool (b : Bool)
  | int (n : Int)
  | str (x : Str)
  | bin (op : Operator) (a b : ME)
  | cmp (op : CmpOp) (a b : ME)
  | bop (op : BoolOp) (e : ME) (es : MEs)
  | ite (c : MT) (a b : ME)
  | tup (es : MEs)
  | lst (es : MEs)
  | idx (a b : ME)
  | slc (a lo hi : ME)
  | call (f : Nat) (args : MEs)
  | prim (p : Prim) (args : MEs)
  | isBool (a : ME)
inductive MEs where
  | nil
  | cons (e : ME) (es : MEs)
/-- tests -/
inductive MT where
  | val (e : ME)
  | not (t : MT)
  | bop (op : BoolOp) (ts : MTs)
inductive MTs where
  | nil
  | cons (t : MT) (ts : MTs)
end

mutual
inductive MS where
  | assign (i : Nat) (e : ME)
  | newlist (i : Nat) (es : MEs)
  | unpack (is : List Nat) (e : ME)
  | append (i : Nat) (e : ME)
  | delat (i : Nat) (e : ME)
  | ite (c : MT) (a b : MSs)
  | whl (bound : Rho → Mu → Nat) (c : MT) (body : MSs)
  | forr (i : Nat) (e : ME) (body : MSs)
  | ret (e : ME)
inductive MSs where
  | nil
  | cons (s : MS) (ss : MSs)
end

def rd (μ : Mu) : MV → Option PyData
  | .d x => some x
  | .r i => (μ[i]?).map .list

def binD : Operator → PyData → PyData → Option PyData
  | .Add, .int a, .int b => some (.int (a + b))
  | .Add, .str x, .str y => if x.length + y.length ≤ 16777216 then some (.str (x ++ y)) else none
  | .Add, .list xs, .list ys => if xs.length + ys.length ≤ 16777216 then some (.list (xs ++ ys)) else none
  | .Sub, .int a, .int b => some (.int (a - b))
  | .Mod, .int a, .int b => if b = 0 then none else some (.int (a.fmod b))
  | _, _, _ => none

def isD : PyData → PyData → Option Bool
  | .none, .none => some true
  | .bool a, .bool b => some (a == b)
  | .none, .bool _ => some false
  | .bool _, .none => some false
  | .none, .tuple _ => some false
  | .tuple _, .none => some false
  | .none, .list _ => some false
  | .list _, .none => some false
  | _, _ => none

/-- what == may be asked of: the lesser depth counts -/
def eqOk (a b : PyData) : Bool := a.canLay0 && b.canLay0 && decide (min a.depth b.depth ≤ 64)

def cmpD : CmpOp → PyData → PyData → Option Bool
  | .Eq, .int a, .int b => some (a == b)
  | .Eq, .str a, .str b => some (a == b)
  | .NotEq, .int a, .int b => some (a != b)
  | .NotEq, .str a, .str b => some (a != b)
  | .Eq, a, b => if eqOk a b then some (PyData.eqv a b) else none
  | .NotEq, a, b => if eqOk a b then some (!PyData.eqv a b) else none
  | .Lt, .int a, .int b => some (decide (a < b))
  | .Gt, .int a, .int b => some (decide (b < a))
  | .LtE, .int a, .int b => some (decide (a ≤ b))
  | .GtE, .int a, .int b => some (decide (b ≤ a))
  | .Is, a, b => isD a b
  | .IsNot, a, b => (isD a b).map (!·)
  | .In, .str y, .str x => some (!(Builtin.Str.occurrences x y 0 x.length 1).isEmpty)
  | _, _, _ => none

def idxD : PyData → PyData → Option PyData
  | .list xs, .int k => if 0 ≤ k ∧ k < 9223372036854775808 then xs[k.toNat]? else none
  | .tuple xs, .int k => if 0 ≤ k ∧ k < 9223372036854775808 then xs[k.toNat]? else none
  | .str x, .int k => if 0 ≤ k ∧ k < 9223372036854775808 then (x.cps[k.toNat]?).map fun c => .str ⟨#[c]⟩ else none
  | _, _ => none

/-- a bound of a slice: none, or an int that is not negative -/
def loD : PyData → Option Nat
  | .none => some 0
  | .int k => if 0 ≤ k then some k.toNat else none
  | _ => none
def hiD (n : Nat) : PyData → Option Nat
  | .none => some n
  | .int k => if 0 ≤ k then some k.toNat else none
  | _ => none
def slcD : PyData → PyData → PyData → Option PyData
  | .list xs, lo, hi => do
    let a ← loD lo
    let b ← hiD xs.length hi
    if xs.length ≤ 16777216 then some (.list ((xs.take b).drop a)) else none
  | .str x, .int i, .none => if x.length ≤ 16777216 then some (.str (Txt.slice x (some i) none)) else none
  | _, _, _ => none

def primD : Prim → List PyData → Option PyData
  | .len, [.list xs] => if xs.length ≤ 16777216 then some (.int xs.length) else none
  | .abs, [.int a] => some (.int (if a < 0 then -a else a))
  | .max, [.int a, .int b] => some (.int (if b > a then b else a))
  | _, _ => none

def allD : List MV → Option (List PyData)
  | [] => some []
  | .d x :: r => (allD r).map (x :: ·)
  | .r _ :: _ => none

def rdAll (μ : Mu) : List MV → Option (List PyData)
  | [] => some []
  | v :: r => do
    let x ← rd μ v
    let xs ← rdAll μ r
    some (x :: xs)

def truth : PyData → Option Bool
  | .bool b => some b
  | _ => none

mutual
def evE (F : List Fn) : ME → Rho → Mu → Option (MV × Mu)
  | .var i, ρ, μ => (ρ[i]?.join).map (·, μ)
  | .none, _, μ => some (.d .none, μ)
  | .bool b, _, μ => some (.d (.bool b), μ)
  | .int n, _, μ => some (.d (.int n), μ)
  | .str x, _, μ => some (.d (.str x), μ)
  | .bin op a b, ρ, μ =>
    (evE F a ρ μ).bind fun p => (evE F b ρ p.2).bind fun q => (rd q.2 p.1).bind fun x => (rd q.2 q.1).bind fun y => (binD op x y).map fun z => (.d z, q.2)
  | .cmp op a b, ρ, μ =>
    (evE F a ρ μ).bind fun p => (evE F b ρ p.2).bind fun q => (rd q.2 p.1).bind fun x => (rd q.2 q.1).bind fun y => (cmpD op x y).map fun z => (.d (.bool z), q.2)
  | .bop op e es, ρ, μ => (evE F e ρ μ).bind fun p => evV F op es p ρ
  | .ite c a b, ρ, μ => (evB F c ρ μ).bind fun p => if p.1 then evE F a ρ p.2 else evE F b ρ p.2
  | .tup es, ρ, μ => (evL F es ρ μ).bind fun p => (allD p.1).bind fun xs => if xs.length ≤ 16777216 then some (.d (.tuple xs), p.2) else none
  | .lst es, ρ, μ => (evL F es ρ μ).bind fun p => (allD p.1).bind fun xs => if xs.length ≤ 16777216 then some (.d (.list xs), p.2) else none
  | .idx a b, ρ, μ =>
    (evE F a ρ μ).bind fun p => (evE F b ρ p.2).bind fun q => (rd q.2 p.1).bind fun x => (rd q.2 q.1).bind fun y => (idxD x y).map fun z => (.d z, q.2)
  | .slc a lo hi, ρ, μ =>
    (evE F a ρ μ).bind fun p => (evE F lo ρ p.2).bind fun q => (evE F hi ρ q.2).bind fun r => (rd r.2 p.1).bind fun x => (rd r.2 q.1).bind fun y => (rd r.2 r.1).bind fun z => (slcD x y z).map fun u => (.d u, r.2)
  | .call f args, ρ, μ => (evL F args ρ μ).bind fun p => (F[f]?).bind fun fn => (fn p.1 p.2).map fun q => (.d q.1, q.2)
  | .prim k args, ρ, μ => (evL F args ρ μ).bind fun p => (rdAll p.2 p.1).bind fun xs => (primD k xs).map fun z => (.d z, p.2)
  | .isBool a, ρ, μ => (evE F a ρ μ).bind fun p => match p.1 with
    | .d (.bool _) => some (.d (.bool true), p.2)
    | _ => none
def evL (F : List Fn) : MEs → Rho → Mu → Option (List MV × Mu)
  | .nil, _, μ => some ([], μ)
  | .cons e es, ρ, μ => (evE F e ρ μ).bind fun p => (evL F es ρ p.2).map fun q => (p.1 :: q.1, q.2)
def evV (F : List Fn) (op : BoolOp) : MEs → MV × Mu → Rho → Option (MV × Mu)
  | .nil, p, _ => some p
  | .cons e es, p, ρ => (rd p.2 p.1).bind fun x => (truth x).bind fun b => if b == (op == .Or) then some p else (evE F e ρ p.2).bind fun q => evV F op es q ρ
def evB (F : List Fn) : MT → Rho → Mu → Option (Bool × Mu)
  | .val e, ρ, μ => (evE F e ρ μ).bind fun p => (rd p.2 p.1).bind fun x => (truth x).map (·, p.2)
  | .not a, ρ, μ => (evB F a ρ μ).map fun p => (!p.1, p.2)
  | .bop op ts, ρ, μ => evBs F op ts ρ μ
def evBs (F : List Fn) (op : BoolOp) : MTs → Rho → Mu → Option (Bool × Mu)
  | .nil, _, μ => some (op == .And, μ)
  | .cons e es, ρ, μ => (evB F e ρ μ).bind fun p => if p.1 == (op == .Or) then some p else evBs F op es ρ p.2
end

inductive Out where
  | next
  | ret (v : MV)

def whileF (t : Rho → Mu → Option (Bool × Mu)) (b : Rho → Mu → Option (Out × Rho × Mu)) : Nat → Rho → Mu → Option (Out × Rho × Mu)
  | 0, _, _ => none
  | n + 1, ρ, μ => (t ρ μ).bind fun p => if p.1 then (b ρ p.2).bind fun q => match q.1 with
      | .next => whileF t b n q.2.1 q.2.2
      | .ret v => some (.ret v, q.2.1, q.2.2)
    else some (.next, ρ, p.2)

/-- for x in the ints from k on, n of them -/
def forF (i : Nat) (b : Rho → Mu → Option (Out × Rho × Mu)) : Nat → Int → Rho → Mu → Option (Out × Rho × Mu)
  | 0, _, ρ, μ => some (.next, ρ, μ)
  | n + 1, k, ρ, μ => (b (ρ.set i (some (.d (.int k)))) μ).bind fun q => match q.1 with
      | .next => forF i b n (k + 1) q.2.1 q.2.2
      | .ret v => some (.ret v, q.2.1, q.2.2)

def setAll : List Nat → List PyData → Rho → Option Rho
  | [], [], ρ => some ρ
  | i :: is, x :: xs, ρ => setAll is xs (ρ.set i (some (.d x)))
  | _, _, _ => none

mutual
def evS (F : List Fn) : MS → Rho → Mu → Option (Out × Rho × Mu)
  | .assign i e, ρ, μ => (evE F e ρ μ).map fun p => (.next, ρ.set i (some p.1), p.2)
  | .newlist i es, ρ, μ => (evL F es ρ μ).bind fun p => (allD p.1).bind fun xs => if xs.length ≤ 16777216 then some (.next, ρ.set i (some (.r p.2.length)), p.2 ++ [xs]) else none
  | .unpack is e, ρ, μ => (evE F e ρ μ).bind fun p => match p.1 with
    | .d (.tuple xs) => (setAll is xs ρ).map fun ρ' => (.next, ρ', p.2)
    | _ => none
  | .append i e, ρ, μ => match ρ[i]?.join with
    | some (.r j) => (evE F e ρ μ).bind fun p => match p.1, p.2[j]? with
      | .d x, some xs => if xs.length ≤ 16777216 then some (.next, ρ, p.2.set j (xs ++ [x])) else none
      | _, _ => none
    | _ => none
  | .delat i e, ρ, μ => match ρ[i]?.join with
    | some (.r j) => (evE F e ρ μ).bind fun p => match p.1, p.2[j]? with
      | .d (.int k), some xs => if 0 ≤ k ∧ k < xs.length ∧ xs.length ≤ 16777216 then some (.next, ρ, p.2.set j (xs.eraseIdx k.toNat)) else none
      | _, _ => none
    | _ => none
  | .ite c a b, ρ, μ => (evB F c ρ μ).bind fun p => if p.1 then evSs F a ρ p.2 else evSs F b ρ p.2
  | .whl n c b, ρ, μ => whileF (evB F c) (evSs F b) (n ρ μ) ρ μ
  | .forr i e b, ρ, μ => (evE F e ρ μ).bind fun p => match p.1 with
    | .d (.int k) => if 0 ≤ k ∧ k < 4611686018427387904 then forF i (evSs F b) k.toNat 0 ρ p.2 else none
    | _ => none
  | .ret e, ρ, μ => (evE F e ρ μ).map fun p => (.ret p.1, ρ, p.2)
def evSs (F : List Fn) : MSs → Rho → Mu → Option (Out × Rho × Mu)
  | .nil, ρ, μ => some (.next, ρ, μ)
  | .cons s ss, ρ, μ => (evS F s ρ μ).bind fun q => match q.1 with
    | .next => evSs F ss q.2.1 q.2.2
    | .ret _ => some q
end

/-- a while's turns at most: one more than an int slot says -/
def intAt (i : Nat) (ρ : Rho) (_ : Mu) : Nat := match ρ[i]?.join with
  | some (.d (.int k)) => k.toNat + 1
  | _ => 0

/-- what a call of a def gives: its slots are its parameters, then its other locals -/
def fnOf (F : List Fn) (n : Nat) (body : MSs) : Fn := fun args μ =>
  (evSs F body (args.map some ++ List.replicate n none) μ).bind fun q => match q.1 with
    | .next => some (.none, q.2.2.take μ.length)
    | .ret (.d x) => some (x, q.2.2.take μ.length)
    | .ret (.r i) => if μ.length ≤ i then (q.2.2[i]?).map fun xs => (.list xs, q.2.2.take μ.length) else none

end Mini

namespace Mini
open PySem PySem.Spec PyProof.Rows

mutual
/-- the value is that data in this heap; none of its objects is one of ψ -/
def VR (ψ : List Addr) (h : Heap) : PyData → Value → Prop
  | .none, v => v = .none
  | .bool b, v => v = .bool b
  | .int i, v => ∃ t, v = .int i t
  | .str x, v => ∃ t, v = .str x t
  | .list xs, v => ∃ a vs, v = .ref a ∧ h.IsList a vs ∧ a ∉ ψ ∧ VRs ψ h xs vs.toList
  | .tuple xs, v => ∃ a vs, v = .ref a ∧ IsTup h a vs ∧ a ∉ ψ ∧ VRs ψ h xs vs.toList
  | .dict _, _ => False
def VRs (ψ : List Addr) (h : Heap) : List PyData → List Value → Prop
  | [], vs => vs = []
  | x :: xs, vs => ∃ v ws, vs = v :: ws ∧ VR ψ h x v ∧ VRs ψ h xs ws
end

def Keep (κ : List Addr) (h h' : Heap) : Prop := ∀ b o, h.get? b = some o → b ∉ κ → h'.get? b = some o
theorem Keep.refl (κ : List Addr) (h : Heap) : Keep κ h h := fun _ _ e _ => e
theorem Keep.trans {κ : List Addr} {h₁ h₂ h₃ : Heap} (x : Keep κ h₁ h₂) (y : Keep κ h₂ h₃) : Keep κ h₁ h₃ := fun b o e n => y b o (x b o e n) n
theorem Keep.of {κ : List Addr} {h h' : Heap} (x : ∀ b o, h.get? b = some o → h'.get? b = some o) : Keep κ h h' := fun b o e _ => x b o e
theorem Keep.push {κ : List Addr} {h h' : Heap} (x : Keep κ h h') (o : Obj) : Keep κ h (h'.push o) := fun b o' e n => Heap.get?_push_of_some o (x b o' e n)
theorem Keep.more {κ κ' : List Addr} {h h' : Heap} (x : Keep κ h h') (s : ∀ a ∈ κ, a ∈ κ') : Keep κ' h h' := fun b o e n => x b o e fun m => n (s b m)
theorem Keep.isList {κ : List Addr} {h h' : Heap} {a : Addr} {vs : Array Value} (k : Keep κ h h') (x : h.IsList a vs) (n : a ∉ κ) : h'.IsList a vs := let ⟨o, e, r⟩ := x; ⟨o, k a o e n, r⟩
theorem Keep.isTup {κ : List Addr} {h h' : Heap} {a : Addr} {vs : Array Value} (k : Keep κ h h') (x : IsTup h a vs) (n : a ∉ κ) : IsTup h' a vs := let ⟨o, e, r⟩ := x; ⟨o, k a o e n, r⟩

mutual
theorem VR.keep {κ ψ ψ' : List Addr} {h h' : Heap} (k : Keep κ h h') (s : ∀ a, a ∉ ψ → (∃ o, h.get? a = some o) → a ∉ ψ' ∧ a ∉ κ) : ∀ {x : PyData} {v : Value}, VR ψ h x v → VR ψ' h' x v
  | .none, _, e => e
  | .bool _, _, e => e
  | .int _, _, e => e
  | .str _, _, e => e
  | .list _, _, ⟨a, vs, e, hl, n, r⟩ => by
    have q := s a n (by obtain ⟨o, ho, _⟩ := hl; exact ⟨o, ho⟩)
    exact ⟨a, vs, e, k.isList hl q.2, q.1, VRs.keep k s r⟩
  | .tuple _, _, ⟨a, vs, e, hl, n, r⟩ => by
    have q := s a n (by obtain ⟨o, ho, _⟩ := hl; exact ⟨o, ho⟩)
    exact ⟨a, vs, e, k.isTup hl q.2, q.1, VRs.keep k s r⟩
  | .dict _, _, e => e
theorem VRs.keep {κ ψ ψ' : List Addr} {h h' : Heap} (k : Keep κ h h') (s : ∀ a, a ∉ ψ → (∃ o, h.get? a = some o) → a ∉ ψ' ∧ a ∉ κ) : ∀ {xs : List PyData} {vs : List Value}, VRs ψ h xs vs → VRs ψ' h' xs vs
  | [], _, e => e
  | _ :: _, _, ⟨v, ws, e, hv, r⟩ => ⟨v, ws, e, VR.keep k s hv, VRs.keep k s r⟩
end
theorem VR.kept {κ ψ : List Addr} {h h' : Heap} (k : Keep κ h h') (s : ∀ a ∈ κ, a ∈ ψ) {x : PyData} {v : Value} (e : VR ψ h x v) : VR ψ h' x v := VR.keep k (fun a n _ => ⟨n, fun m => n (s a m)⟩) e
theorem VRs.kept {κ ψ : List Addr} {h h' : Heap} (k : Keep κ h h') (s : ∀ a ∈ κ, a ∈ ψ) {xs : List PyData} {vs : List Value} (e : VRs ψ h xs vs) : VRs ψ h' xs vs := VRs.keep k (fun a n _ => ⟨n, fun m => n (s a m)⟩) e

theorem VRs.length {ψ : List Addr} {h : Heap} : ∀ {xs : List PyData} {vs : List Value}, VRs ψ h xs vs → vs.length = xs.length
  | [], _, e => by cases e; rfl
  | _ :: _, _, ⟨v, ws, e, _, r⟩ => by subst e; rw [List.length_cons, List.length_cons, VRs.length r]
theorem VRs.get {ψ : List Addr} {h : Heap} : ∀ {xs : List PyData} {vs : List Value} {i : Nat} {x : PyData}, VRs ψ h xs vs → xs[i]? = some x → ∃ v, vs[i]? = some v ∧ VR ψ h x v
  | [], _, _, _, _, e => by cases e
  | _ :: _, _, 0, _, ⟨v, ws, e, hv, _⟩, q => by subst e; cases q; exact ⟨v, rfl, hv⟩
  | _ :: _, _, i + 1, _, ⟨v, ws, e, _, r⟩, q => by
    subst e
    obtain ⟨u, h1, h2⟩ := VRs.get (i := i) r (by simpa using q)
    exact ⟨u, by simpa using h1, h2⟩
theorem VRs.append {ψ : List Addr} {h : Heap} : ∀ {xs ys : List PyData} {vs ws : List Value}, VRs ψ h xs vs → VRs ψ h ys ws → VRs ψ h (xs ++ ys) (vs ++ ws)
  | [], _, _, _, e, r => by cases e; exact r
  | _ :: _, _, _, _, ⟨v, us, e, hv, q⟩, r => by subst e; exact ⟨v, us ++ _, rfl, hv, VRs.append q r⟩
theorem VRs.take {ψ : List Addr} {h : Heap} : ∀ {xs : List PyData} {vs : List Value} (n : Nat), VRs ψ h xs vs → VRs ψ h (xs.take n) (vs.take n)
  | [], _, n, e => by cases e; cases n <;> rfl
  | _ :: _, _, 0, _ => rfl
  | _ :: _, _, n + 1, ⟨v, ws, e, hv, r⟩ => by subst e; exact ⟨v, ws.take n, rfl, hv, VRs.take n r⟩
theorem VRs.drop {ψ : List Addr} {h : Heap} : ∀ {xs : List PyData} {vs : List Value} (n : Nat), VRs ψ h xs vs → VRs ψ h (xs.drop n) (vs.drop n)
  | [], _, n, e => by cases e; cases n <;> rfl
  | _ :: _, _, 0, e => e
  | _ :: _, _, n + 1, ⟨v, ws, e, hv, r⟩ => by subst e; exact VRs.drop n r
theorem VRs.erase {ψ : List Addr} {h : Heap} : ∀ {xs : List PyData} {vs : List Value} (n : Nat), VRs ψ h xs vs → VRs ψ h (xs.eraseIdx n) (vs.eraseIdx n)
  | [], _, n, e => by cases e; rfl
  | _ :: _, _, 0, ⟨v, ws, e, hv, r⟩ => by subst e; exact r
  | _ :: _, _, n + 1, ⟨v, ws, e, hv, r⟩ => by subst e; exact ⟨v, ws.eraseIdx n, rfl, hv, VRs.erase n r⟩
theorem VRs.one {ψ : List Addr} {h : Heap} {x : PyData} {v : Value} (e : VR ψ h x v) : VRs ψ h [x] [v] := ⟨v, [], rfl, e, rfl⟩

mutual
theorem VR.reads {ψ : List Addr} {h : Heap} : ∀ {x : PyData} {v : Value}, VR ψ h x v → ∃ as, Reads h v x as
  | .none, _, e => by rw [show _ = Value.none from e]; exact ⟨_, .none⟩
  | .bool b, _, e => by rw [show _ = Value.bool b from e]; exact ⟨_, .bool b⟩
  | .int i, _, ⟨t, e⟩ => by subst e; exact ⟨_, .int i t⟩
  | .str x, _, ⟨t, e⟩ => by subst e; exact ⟨_, .str x t⟩
  | .list _, _, ⟨a, vs, e, ⟨o, ho, hc, n, hd⟩, _, r⟩ => by subst e; obtain ⟨as, q⟩ := VRs.reads r; exact ⟨_, .list ho hc hd q⟩
  | .tuple _, _, ⟨a, vs, e, ⟨o, ho, hc, n, hd⟩, _, r⟩ => by subst e; obtain ⟨as, q⟩ := VRs.reads r; exact ⟨_, .tuple ho hc hd q⟩
  | .dict _, _, e => e.elim
theorem VRs.reads {ψ : List Addr} {h : Heap} : ∀ {xs : List PyData} {vs : List Value}, VRs ψ h xs vs → ∃ as, ReadsAll h vs xs as
  | [], _, e => by cases e; exact ⟨_, .nil⟩
  | _ :: _, _, ⟨v, ws, e, hv, r⟩ => by
    subst e
    obtain ⟨as, q⟩ := VR.reads hv
    obtain ⟨bs, p⟩ := VRs.reads r
    exact ⟨_, .cons q p⟩
end

def MVR (ψ φ : List Addr) (h : Heap) : MV → Value → Prop
  | .d x, v => VR ψ h x v
  | .r i, v => ∃ a, v = .ref a ∧ φ[i]? = some a
theorem MVR.kept {κ ψ φ : List Addr} {h h' : Heap} (k : Keep κ h h') (s : ∀ a ∈ κ, a ∈ ψ) : ∀ {x : MV} {v : Value}, MVR ψ φ h x v → MVR ψ φ h' x v
  | .d _, _, e => VR.kept k s e
  | .r _, _, e => e
def MVRs (ψ φ : List Addr) (h : Heap) : List MV → List Value → Prop
  | [], vs => vs = []
  | x :: xs, vs => ∃ v ws, vs = v :: ws ∧ MVR ψ φ h x v ∧ MVRs ψ φ h xs ws
theorem MVRs.length {ψ φ : List Addr} {h : Heap} : ∀ {xs : List MV} {vs : List Value}, MVRs ψ φ h xs vs → vs.length = xs.length
  | [], _, e => by cases e; rfl
  | _ :: _, _, ⟨v, ws, e, _, r⟩ => by subst e; rw [List.length_cons, List.length_cons, MVRs.length r]
theorem MVRs.get {ψ φ : List Addr} {h : Heap} : ∀ {xs : List MV} {vs : List Value} {i : Nat} {x : MV}, MVRs ψ φ h xs vs → xs[i]? = some x → ∃ v, vs[i]? = some v ∧ MVR ψ φ h x v
  | [], _, _, _, _, e => by cases e
  | _ :: _, _, 0, _, ⟨v, ws, e, hv, _⟩, q => by subst e; cases q; exact ⟨v, rfl, hv⟩
  | _ :: _, _, i + 1, _, ⟨v, ws, e, _, r⟩, q => by
    subst e
    obtain ⟨u, h1, h2⟩ := MVRs.get (i := i) r (by simpa using q)
    exact ⟨u, by simpa using h1, h2⟩
theorem MVRs.allD {ψ φ : List Addr} {h : Heap} : ∀ {ms : List MV} {vs : List Value} {xs : List PyData}, MVRs ψ φ h ms vs → allD ms = some xs → VRs ψ h xs vs
  | [], _, _, e, q => by cases e; cases q; rfl
  | .d x :: r, _, _, ⟨v, ws, e, hv, hr⟩, q => by
    subst e
    unfold Mini.allD at q
    cases hq : Mini.allD r with
    | none => rw [hq] at q; cases q
    | some ys => rw [hq] at q; cases q; exact ⟨v, ws, rfl, hv, MVRs.allD hr hq⟩
  | .r _ :: _, _, _, _, q => by cases q

/-- the numbered lists lie at φ; all that lay in h₀ lies there still -/
structure St (h₀ : Heap) (ψ φ : List Addr) (μ : Mu) (h : Heap) : Prop where
  base : ∀ b o, h₀.get? b = some o → h.get? b = some o
  off : ∀ a ∈ ψ, h₀.get? a = none
  live : ∀ a ∈ ψ, ∃ o, h.get? a = some o
  sub : ∀ a ∈ φ, a ∈ ψ
  nd : φ.Nodup
  len : φ.length = μ.length
  lst : ∀ (i : Nat) a xs, φ[i]? = some a → μ[i]? = some xs → ∃ vs, h.PlainList a vs ∧ VRs ψ h xs vs.toList
section
variable {h₀ h h' : Heap} {ψ φ : List Addr} {μ : Mu}
theorem St.fresh (S : St h₀ ψ φ μ h) : h.objs.size ∉ ψ := fun hm => by
  obtain ⟨o, ho⟩ := S.live _ hm
  exact absurd (Heap.lt_size ho) (Nat.lt_irrefl _)
theorem St.grow (S : St h₀ ψ φ μ h) (k : ∀ b o, h.get? b = some o → h'.get? b = some o) : St h₀ ψ φ μ h' :=
  ⟨fun b o e => k b o (S.base b o e), S.off, fun a m => let ⟨o, e⟩ := S.live a m; ⟨o, k a o e⟩, S.sub, S.nd, S.len, fun i a xs e q => let ⟨vs, hp, hv⟩ := S.lst i a xs e q; ⟨vs, hp.at (k a), hv.kept (κ := []) (.of k) (fun _ m => nomatch m)⟩⟩
theorem St.push (S : St h₀ ψ φ μ h) (o : Obj) : St h₀ ψ φ μ (h.push o) := S.grow fun _ _ e => Heap.get?_push_of_some o e
/-- one list is changed -/
theorem St.set (S : St h₀ ψ φ μ h) {j : Nat} {a : Addr} {xs : List PyData} {vs : Array Value} (hj : φ[j]? = some a) (hp : h'.PlainList a vs) (hs : Heap.SameBut a h h') (hv : VRs ψ h xs vs.toList) : St h₀ ψ φ (μ.set j xs) h' ∧ Keep φ h h' := by
  have ha : a ∈ φ := List.mem_of_getElem? hj
  have k : Keep φ h h' := fun b o e n => (hs.2 b (fun q => n (q ▸ ha))).trans e
  refine ⟨⟨fun b o e => ?_, S.off, fun b hb => ?_, S.sub, S.nd, by rw [List.length_set]; exact S.len, fun i b ys e q => ?_⟩, k⟩
  · exact k b o (S.base b o e) fun hb => by rw [S.off b (S.sub b hb)] at e; cases e
  · by_cases hba : b = a
    · subst hba; obtain ⟨n, e⟩ := hp; exact ⟨_, e⟩
    · obtain ⟨o, e⟩ := S.live b hb; exact ⟨o, (hs.2 b hba).trans e⟩
  · by_cases hij : j = i
    · subst hij
      rw [hj] at e; cases e
      rw [List.getElem?_set] at q
      split at q
      · split at q
        · cases q; exact ⟨vs, hp, hv.kept k S.sub⟩
        · cases q
      · exact absurd rfl ‹_›
    · rw [List.getElem?_set, if_neg hij] at q
      obtain ⟨us, hu, hr⟩ := S.lst i b ys e q
      refine ⟨us, ?_, hr.kept k S.sub⟩
      refine hu.at fun o ho => (hs.2 b fun z => hij ?_).trans ho
      subst z
      exact (List.getElem?_inj (List.getElem?_eq_some_iff.mp hj).1 S.nd).mp (hj.trans e.symm)
/-- an object of ψ that is no list of φ is changed (the frame's slots) -/
theorem St.other (S : St h₀ ψ φ μ h) {L : Addr} (hL : L ∈ ψ) (hn : L ∉ φ) (hl : ∃ o, h'.get? L = some o) (hs : Heap.SameBut L h h') : St h₀ ψ φ μ h' := by
  have k : Keep [L] h h' := fun b o e n => (hs.2 b (fun q => n (q ▸ List.mem_singleton.mpr rfl))).trans e
  have ks : ∀ a ∈ [L], a ∈ ψ := fun a m => List.mem_singleton.mp m ▸ hL
  refine ⟨fun b o e => ?_, S.off, fun b hb => ?_, S.sub, S.nd, S.len, fun i b ys e q => ?_⟩
  · exact k b o (S.base b o e) fun hb => by rw [List.mem_singleton.mp hb, S.off L hL] at e; cases e
  · by_cases hba : b = L
    · subst hba; exact hl
    · obtain ⟨o, e⟩ := S.live b hb; exact ⟨o, (hs.2 b hba).trans e⟩
  · obtain ⟨us, hu, hr⟩ := S.lst i b ys e q
    refine ⟨us, ?_, hr.kept k ks⟩
    exact hu.at fun o ho => (hs.2 b fun z => hn (z ▸ List.mem_of_getElem? e)).trans ho
/-- one list more -/
theorem St.more (S : St h₀ ψ φ μ h) {a : Addr} {xs : List PyData} {vs : Array Value} (hp : h.PlainList a vs) (ha : a ∉ ψ) (h0 : h₀.get? a = none) (hd : ∀ x v, VR ψ h x v → VR (a :: ψ) h x v) (hv : VRs (a :: ψ) h xs vs.toList)
    (hds : ∀ x v, VRs ψ h x v → VRs (a :: ψ) h x v) : St h₀ (a :: ψ) (φ ++ [a]) (μ ++ [xs]) h := by
  have _ := hd
  have ha' : a ∉ φ := fun m => ha (S.sub a m)
  refine ⟨S.base, fun b hb => ?_, fun b hb => ?_, fun b hb => ?_, ?_, by simp [S.len], fun i b ys e q => ?_⟩
  · rcases List.mem_cons.mp hb with rfl | hb
    · exact h0
    · exact S.off b hb
  · rcases List.mem_cons.mp hb with rfl | hb
    · obtain ⟨n, e⟩ := hp; exact ⟨_, e⟩
    · exact S.live b hb
  · rcases List.mem_append.mp hb with hb | hb
    · exact .tail _ (S.sub b hb)
    · rw [List.mem_singleton.mp hb]; exact .head _
  · exact List.nodup_append.mpr ⟨S.nd, by simp, fun x hx y hy => by rw [List.mem_singleton.mp hy]; exact fun z => ha' (z ▸ hx)⟩
  · by_cases hi : i < φ.length
    · rw [List.getElem?_append_left hi] at e
      rw [List.getElem?_append_left (S.len ▸ hi)] at q
      obtain ⟨us, hu, hr⟩ := S.lst i b ys e q
      exact ⟨us, hu, hds _ _ hr⟩
    · rw [List.getElem?_append_right (Nat.le_of_not_lt hi)] at e
      rw [List.getElem?_append_right (S.len ▸ Nat.le_of_not_lt hi)] at q
      have e0 : i - φ.length = 0 := by
        cases hq : i - φ.length with
        | zero => rfl
        | succ n => rw [hq] at e; cases e
      rw [e0] at e
      rw [← S.len, e0] at q
      cases e; cases q
      exact ⟨vs, hp, hv⟩
end

/-- the frame's slots -/
def Loc (names : List Str) (L : Addr) (ψ φ : List Addr) (ρ : Rho) (h : Heap) : Prop :=
  ∃ m, h.Ns L m ∧ L ∈ ψ ∧ L ∉ φ ∧ ∀ (i : Nat) mv, ρ[i]? = some (some mv) → ∃ x v, names[i]? = some x ∧ m x = some v ∧ MVR ψ φ h mv v
theorem Loc.kept {names : List Str} {L : Addr} {ψ φ : List Addr} {ρ : Rho} {h h' : Heap} (X : Loc names L ψ φ ρ h) (k : Keep φ h h') (s : ∀ a ∈ φ, a ∈ ψ) : Loc names L ψ φ ρ h' := by
  obtain ⟨m, hn, hp, hl, hm⟩ := X
  refine ⟨m, ?_, hp, hl, fun i mv e => ?_⟩
  · obtain ⟨o, es, ep, ho, r⟩ := hn
    exact ⟨o, es, ep, k _ _ ho hl, r⟩
  · obtain ⟨x, v, h1, h2, h3⟩ := hm i mv e
    exact ⟨x, v, h1, h2, h3.kept k s⟩
theorem Loc.keptBy {names : List Str} {L : Addr} {κ ψ φ : List Addr} {ρ : Rho} {h h' : Heap} (X : Loc names L ψ φ ρ h) (k : Keep κ h h') (s : ∀ a ∈ κ, a ∈ ψ) (hL : L ∉ κ) : Loc names L ψ φ ρ h' := by
  obtain ⟨m, hn, hp, hl, hm⟩ := X
  refine ⟨m, ?_, hp, hl, fun i mv e => ?_⟩
  · obtain ⟨o, es, ep, ho, r⟩ := hn
    exact ⟨o, es, ep, k _ _ ho hL, r⟩
  · obtain ⟨x, v, h1, h2, h3⟩ := hm i mv e
    exact ⟨x, v, h1, h2, h3.kept k s⟩
theorem Loc.get {names : List Str} {L : Addr} {ψ φ : List Addr} {ρ : Rho} {h : Heap} (X : Loc names L ψ φ ρ h) {i : Nat} {x : Str} {mv : MV} (hx : names[i]? = some x) (hv : ρ[i]?.join = some mv) :
    ∃ m v, h.Ns L m ∧ m x = some v ∧ MVR ψ φ h mv v := by
  obtain ⟨m, hn, _, _, hm⟩ := X
  have e : ρ[i]? = some (some mv) := by
    cases q : ρ[i]? with
    | none => rw [q] at hv; cases hv
    | some o => rw [q] at hv; cases o with
      | none => cases hv
      | some z => cases hv; rfl
  obtain ⟨y, v, h1, h2, h3⟩ := hm i mv e
  rw [hx] at h1; cases h1
  exact ⟨m, v, hn, h2, h3⟩
end Mini

namespace Mini
open PySem PySem.Spec PyProof.Rows

structure MC where
  names : List Str
  scope : Scope
  fns : List Str

def MC.loc (C : MC) (i : Nat) (x : Str) : Bool := decide (C.names[i]? = some x) && decide (C.scope.names.lookup x = some .local) && !(x == ("__debug__" : Str))
def MC.glob (C : MC) (x : Str) : Bool := decide (C.scope.names.lookup x = some .globalImplicit) && !(x == ("__debug__" : Str))

def notSlice : Expr → Bool
  | .Slice .. => false
  | _ => true
def notStar : Expr → Bool
  | .Starred .. => false
  | _ => true
def notComp : Expr → Bool
  | .ListComp .. | .SetComp .. | .DictComp .. => false
  | _ => true
/-- a test that is asked as a value or as one comparison -/
def plainTest : Expr → Bool
  | .UnaryOp .. | .BoolOp .. | .IfExp .. => false
  | _ => true

mutual
def matchE (C : MC) : ME → Expr → Bool
  | .var i, e => match e with | .Name x _ => C.loc i x | _ => false
  | .none, e => match e with | .Constant c _ _ => decide (c = .none) | _ => false
  | .bool b, e => match e with | .Constant c _ _ => decide (c = .bool b) | _ => false
  | .int n, e => match e with | .Constant c _ _ => decide (c = .int n) | _ => false
  | .str s, e => match e with | .Constant c _ _ => decide (c = .str s) | _ => false
  | .bin op a b, e => match e with | .BinOp l op' r _ => decide (op = op') && matchE C a l && matchE C b r | _ => false
  | .cmp op a b, e => match e with | .Compare l [op'] [r] _ => decide (op = op') && !behindInMarks op' r && matchE C a l && matchE C b r | _ => false
  | .bop op a es, e => match e with | .BoolOp op' (x :: xs) _ => decide (op = op') && matchE C a x && matchEs C es xs | _ => false
  | .ite c a b, e => match e with | .IfExp t x y _ => matchT C c t && matchE C a x && matchE C b y | _ => false
  | .tup es, e => match e with | .Tuple xs _ _ => matchEs C es xs | _ => false
  | .lst es, e => match e with | .List xs _ => matchEs C es xs | _ => false
  | .idx a b, e => match e with | .Subscript v i _ => notSlice i && matchE C a v && matchE C b i | _ => false
  | .slc a lo hi, e => match e with
    | .Subscript v (.Slice l u none _) _ => matchE C a v && (match l with | none => (match lo with | .none => true | _ => false) | some x => matchE C lo x) &&
        (match u with | none => (match hi with | .none => true | _ => false) | some x => matchE C hi x)
    | _ => false
  | .call f es, e => match e with | .Call (.Name x _) (y :: ys) [] _ => decide (C.fns[f]? = some x) && C.glob x && matchEs C es (y :: ys) | _ => false
  | .prim p es, e => match e with | .Call (.Name x _) (y :: ys) [] _ => decide (x = p.name) && C.glob x && matchEs C es (y :: ys) | _ => false
  | .isBool a, e => match e with | .Call (.Name x _) [y, .Name z _] [] _ => decide (x = ("isinstance" : Str)) && C.glob x && decide (z = ("bool" : Str)) && C.glob z && notStar y && matchE C a y | _ => false
def matchEs (C : MC) : MEs → List Expr → Bool
  | .nil, xs => match xs with | [] => true | _ => false
  | .cons e es, xs => match xs with | x :: xs => notStar x && matchE C e x && matchEs C es xs | _ => false
def matchT (C : MC) : MT → Expr → Bool
  | .val e, x => plainTest x && matchE C e x
  | .not t, x => match x with | .UnaryOp .Not y _ => matchT C t y | _ => false
  | .bop op ts, x => match x with | .BoolOp op' ys _ => decide (op = op') && matchTs C ts ys | _ => false
def matchTs (C : MC) : MTs → List Expr → Bool
  | .nil, xs => match xs with | [] => true | _ => false
  | .cons t ts, xs => match xs with | x :: xs => matchT C t x && matchTs C ts xs | _ => false
end

def namesOk (C : MC) : List Nat → List Expr → Bool
  | [], xs => match xs with | [] => true | _ => false
  | i :: is, xs => match xs with | .Name x _ :: xs => C.loc i x && namesOk C is xs | _ => false

mutual
def matchS (C : MC) : MS → Stmt → Bool
  | .assign i e, s => match s with | .Assign [.Name x _] v _ => C.loc i x && notComp v && matchE C e v | _ => false
  | .newlist i es, s => match s with | .Assign [.Name x _] (.List xs _) _ => C.loc i x && matchEs C es xs | _ => false
  | .unpack is e, s => match s with | .Assign [.Tuple ts _ _] v _ => namesOk C is ts && notComp v && (match v with | .Tuple .. => false | _ => true) && matchE C e v | _ => false
  | .append i e, s => match s with
    | .Expr (.Call (.Attribute (.Name x _) m apos) [y] [] pos) _ => C.loc i x && decide (m = ("append" : Str)) && decide (apos.endLine = pos.line) && notStar y && matchE C e y
    | _ => false
  | .delat i e, s => match s with | .Delete [.Subscript (.Name x _) k _] _ => C.loc i x && notSlice k && matchE C e k | _ => false
  | .ite c a b, s => match s with | .If t x y _ => matchT C c t && matchSs C a x && matchSs C b y | _ => false
  | .whl _ c b, s => match s with | .While t x [] _ => matchT C c t && matchSs C b x | _ => false
  | .forr i e b, s => match s with
    | .For (.Name x _) (.Call (.Name r _) [y] [] _) ys [] _ => C.loc i x && decide (r = ("range" : Str)) && C.glob r && notStar y && matchE C e y && matchSs C b ys
    | _ => false
  | .ret e, s => match s with | .Return (some x) _ => matchE C e x | _ => false
def matchSs (C : MC) : MSs → List Stmt → Bool
  | .nil, xs => match xs with | [] => true | _ => false
  | .cons s ss, xs => match xs with | x :: xs => matchS C s x && matchSs C ss xs | _ => false
end
end Mini

namespace Mini
open PySem PySem.Spec PySem.Calls PyProof.Rows

structure Room (n : Nat) (A : Around) : Prop where
  handled : A.handled = none
  depth : A.depth + n < recursionLimit
  units : A.units + 4 * n + 70 < cLine

def FnOK (prog : Program) (w : World) (h₀ : Heap) (mg : Str → Option Value) (n : Nat) (x : Str) (f : Fn) : Prop :=
  ∃ a o fd, mg x = some (.ref a) ∧ h₀.get? a = some o ∧ o.data = .func fd ∧
    ∀ (A : Around) (s : Shared) (ψ φ : List Addr) (μ : Mu) (mvs : List MV) (vs : List Value) (d : PyData) (μ' : Mu) (R : Result → Shared → Prop), Room n A → St h₀ ψ φ μ s.heap → MVRs ψ φ s.heap mvs vs → f mvs μ = some (d, μ') →
      (∀ v h' tk, VR ψ h' d v → St h₀ ψ φ μ' h' → Keep φ s.heap h' → R (.ok (.ret v)) { s with heap := h', toks := tk }) →
      codeAny (model prog w) A (.call (.ref a) ⟨vs, []⟩) R s

def builtinsUsed : List (Str × Value) := [("len", .builtin "len"), ("abs", .builtin "abs"), ("max", .builtin "max"), ("isinstance", .builtin "isinstance"), ("bool", .type "bool"), ("range", .type "range")]

structure GF (prog : Program) (w : World) (h₀ : Heap) (mg mb : Str → Option Value) (fs : List (Str × Fn)) (n : Nat) : Prop where
  g : h₀.Ns mainGlobals mg
  b : h₀.Ns builtinsNs mb
  nolimit : h₀.NoLimit
  bi : ∀ p ∈ builtinsUsed, mg p.1 = none ∧ mb p.1 = some p.2
  fn : ∀ (i : Nat) x f, fs[i]? = some (x, f) → FnOK prog w h₀ mg n x f

structure Cx (prog : Program) (w : World) where
  h₀ : Heap
  mg : Str → Option Value
  mb : Str → Option Value
  fs : List (Str × Fn)
  n : Nat
  C : MC
  G : GF prog w h₀ mg mb fs n
  hf : C.fns = fs.map (·.1)
  hk : C.scope.kind = .function
  nd : C.names.Nodup
def Cx.F {prog : Program} {w : World} (X : Cx prog w) : List Fn := X.fs.map (·.2)

variable {prog : Program} {w : World}

def SE (X : Cx prog w) (e : Expr) (sem : Rho → Mu → Option (MV × Mu)) : Prop :=
  ∀ ρ μ p, sem ρ μ = some p → ∀ (A : Around) (s : Shared) (ψ φ : List Addr) (L f : Addr) (cd : Value) (nm : Str) (E : Value → Shared → Prop) (Q : Value → Shared → Prop),
    Room X.n A → St X.h₀ ψ φ μ s.heap → Loc X.C.names L ψ φ ρ s.heap →
    (∀ v h' tk, MVR ψ φ h' p.1 v → St X.h₀ ψ φ p.2 h' → Keep φ s.heap h' → Q v { s with heap := h', toks := tk }) →
    wpAny (model prog w) A (eval e (envOf nm X.C.scope L f cd)) Q E s
def SB (X : Cx prog w) (e : Expr) (sem : Rho → Mu → Option (Bool × Mu)) : Prop :=
  ∀ ρ μ p, sem ρ μ = some p → ∀ (A : Around) (s : Shared) (ψ φ : List Addr) (L f : Addr) (cd : Value) (nm : Str) (E : Value → Shared → Prop) (Q : Bool → Shared → Prop),
    Room X.n A → St X.h₀ ψ φ μ s.heap → Loc X.C.names L ψ φ ρ s.heap →
    (∀ h' tk, St X.h₀ ψ φ p.2 h' → Keep φ s.heap h' → Q p.1 { s with heap := h', toks := tk }) →
    wpAny (model prog w) A (isTrue e (envOf nm X.C.scope L f cd) (eval e (envOf nm X.C.scope L f cd))) Q E s
def SL (X : Cx prog w) (es : List Expr) (sem : Rho → Mu → Option (List MV × Mu)) : Prop :=
  ∀ ρ μ p, sem ρ μ = some p → ∀ (A : Around) (s : Shared) (ψ φ : List Addr) (L f : Addr) (cd : Value) (nm : Str) (pos : Pos) (E : Value → Shared → Prop) (Q : List Value → Shared → Prop),
    Room X.n A → St X.h₀ ψ φ μ s.heap → Loc X.C.names L ψ φ ρ s.heap →
    (∀ vs h' tk, MVRs ψ φ h' p.1 vs → St X.h₀ ψ φ p.2 h' → Keep φ s.heap h' → Q vs { s with heap := h', toks := tk }) →
    wpAny (model prog w) A (spliced (backTo pos (starEach es (envOf nm X.C.scope L f cd)))) Q E s

/-- a value to be read: it may be one of the numbered lists itself -/
def RR (ψ : List Addr) (h : Heap) : PyData → Value → Prop
  | .list xs, v => ∃ a vs, v = .ref a ∧ h.IsList a vs ∧ VRs ψ h xs vs.toList
  | x, v => VR ψ h x v
theorem VR.rr {ψ : List Addr} {h : Heap} : ∀ {x : PyData} {v : Value}, VR ψ h x v → RR ψ h x v
  | .none, _, e => e
  | .bool _, _, e => e
  | .int _, _, e => e
  | .str _, _, e => e
  | .list _, _, ⟨a, vs, e, hl, _, r⟩ => ⟨a, vs, e, hl, r⟩
  | .tuple _, _, e => e
  | .dict _, _, e => e
theorem MVR.rr {h₀ : Heap} {ψ φ : List Addr} {μ : Mu} {h : Heap} (S : St h₀ ψ φ μ h) {mv : MV} {v : Value} {x : PyData} (e : MVR ψ φ h mv v) (hr : rd μ mv = some x) : RR ψ h x v := by
  cases mv with
  | d y => cases hr; exact VR.rr e
  | r i =>
    obtain ⟨a, rfl, ha⟩ := e
    obtain ⟨xs, hx, rfl⟩ := Option.map_eq_some_iff.mp hr
    obtain ⟨vs, hp, hv⟩ := S.lst i a xs ha hx
    exact ⟨a, vs, rfl, hp.isList, hv⟩
theorem RR.reads {ψ : List Addr} {h : Heap} : ∀ {x : PyData} {v : Value}, RR ψ h x v → ∃ as, Reads h v x as
  | .none, _, e => VR.reads (ψ := ψ) (x := .none) e
  | .bool _, _, e => VR.reads (ψ := ψ) (x := .bool _) e
  | .int _, _, e => VR.reads (ψ := ψ) (x := .int _) e
  | .str _, _, e => VR.reads (ψ := ψ) (x := .str _) e
  | .list _, _, ⟨a, vs, e, ⟨o, ho, hc, n, hd⟩, r⟩ => by subst e; obtain ⟨as, q⟩ := VRs.reads r; exact ⟨_, .list ho hc hd q⟩
  | .tuple _, _, e => VR.reads (ψ := ψ) (x := .tuple _) e
  | .dict _, _, e => VR.reads (ψ := ψ) (x := .dict _) e

section ops
variable {A : Around} {E : Value → Shared → Prop} {s : Shared} {ψ : List Addr} {x y z : PyData} {u v : Value}

theorem add_lists_any {l b : Addr} {vs ws : Array Value} {Q : Value → Shared → Prop} (hl : s.heap.IsList l vs) (hb : s.heap.IsList b ws)
    (h : Q (.ref s.heap.objs.size) { s with heap := s.heap.push { cls := .type "list", data := .seq (vs ++ ws) } })
    (hsz : vs.size + ws.size ≤ sizeLine) : wpAny (model prog w) A (binaryOp .Add (.ref l) (.ref b)) Q E s := by
  obtain ⟨⟨cls, dd, data, sl⟩, ho, hc, n, hd⟩ := id hl
  obtain ⟨⟨cls2, dd2, data2, sl2⟩, ho2, hc2, n2, hd2⟩ := id hb
  simp only at hc hd hc2 hd2
  subst hc hd hc2 hd2
  exact concat_meets ⟨_, ho, rfl⟩ ⟨_, ho2, rfl⟩ noFill_list_add seq_list_add PySem.F.slot_list_add PySem.F.entry_list_add (PySem.F.args_list_add_2 _ _) (list_addW l b vs ws n n2 dd dd2 sl sl2 hsz) ⟨ho, ho2, h⟩

theorem VRs.size {h : Heap} {xs : List PyData} {vs : Array Value} (e : VRs ψ h xs vs.toList) : vs.size = xs.length := by rw [← e.length, Array.length_toList]

theorem bin_sound {op : Operator} {Q : Value → Shared → Prop} (hz : binD op x y = some z) (ru : RR ψ s.heap x u) (rv : RR ψ s.heap y v) (hfr : s.heap.objs.size ∉ ψ)
    (hq : ∀ r h' tk, VR ψ h' z r → (∀ b o, s.heap.get? b = some o → h'.get? b = some o) → Q r { s with heap := h', toks := tk }) : wpAny (model prog w) A (binaryOp op u v) Q E s := by
  unfold binD at hz
  split at hz
  · obtain ⟨t, rfl⟩ := ru; obtain ⟨t', rfl⟩ := rv; cases hz
    exact PyProof.Rows.add_int (hq _ s.heap _ ⟨_, rfl⟩ fun _ _ e => e)
  · obtain ⟨t, rfl⟩ := ru; obtain ⟨t', rfl⟩ := rv
    split at hz
    · cases hz
      exact PyProof.Rows.add_str (fun t' tk => hq _ s.heap tk ⟨_, rfl⟩ fun _ _ e => e) (by rename_i hs; exact hs)
    · cases hz
  · obtain ⟨a, vs, rfl, hl, hv⟩ := ru; obtain ⟨b, ws, rfl, hb, hw⟩ := rv
    split at hz
    · cases hz
      rename_i hs
      refine add_lists_any hl hb (hq _ _ s.toks ⟨_, _, rfl, ⟨_, Heap.get?_push_size _ rfl, rfl, 0, rfl⟩, hfr, ?_⟩ fun _ _ e => Heap.get?_push_of_some _ e) (by rw [hv.size, hw.size]; exact hs)
      have k : Keep [] s.heap (s.heap.push { cls := .type "list", data := .seq (vs ++ ws) }) := .of fun _ _ e => Heap.get?_push_of_some _ e
      rw [Array.toList_append]
      exact (hv.kept k fun _ m => nomatch m).append (hw.kept k fun _ m => nomatch m)
    · cases hz
  · obtain ⟨t, rfl⟩ := ru; obtain ⟨t', rfl⟩ := rv; cases hz
    exact PyProof.Rows.sub_int (hq _ s.heap _ ⟨_, rfl⟩ fun _ _ e => e)
  · obtain ⟨t, rfl⟩ := ru; obtain ⟨t', rfl⟩ := rv
    split at hz
    · cases hz
    · cases hz
      rename_i hb
      exact PyProof.Rows.mod_int' hb (hq _ s.heap _ ⟨_, rfl⟩ fun _ _ e => e)
  · cases hz

theorem is_sound {b : Bool} (hz : isD x y = some b) (ru : RR ψ s.heap x u) (rv : RR ψ s.heap y v) : plainIs u v = true ∧ (u == v) = b := by
  unfold isD at hz
  split at hz
  · cases hz; cases ru; cases rv; exact ⟨rfl, rfl⟩
  · cases hz; cases ru; cases rv; refine ⟨rfl, ?_⟩; rename_i a b; cases a <;> cases b <;> rfl
  · cases hz; cases ru; cases rv; exact ⟨rfl, rfl⟩
  · cases hz; cases ru; cases rv; exact ⟨rfl, rfl⟩
  · cases hz; cases ru; obtain ⟨a, vs, rfl, _⟩ := rv; exact ⟨rfl, rfl⟩
  · cases hz; cases rv; obtain ⟨a, vs, rfl, _⟩ := ru; exact ⟨rfl, rfl⟩
  · cases hz; cases ru; obtain ⟨a, vs, rfl, _⟩ := rv; exact ⟨rfl, rfl⟩
  · cases hz; cases rv; obtain ⟨a, vs, rfl, _⟩ := ru; exact ⟨rfl, rfl⟩
  · cases hz

theorem eqOk_spec {a b : PyData} (h : eqOk a b = true) : a.canLay0 = true ∧ b.canLay0 = true ∧ min a.depth b.depth ≤ 64 := by
  unfold eqOk at h
  simp only [Bool.and_eq_true, decide_eq_true_eq] at h
  exact ⟨h.1.1, h.1.2, h.2⟩

theorem cmp_sound {op : CmpOp} {b : Bool} {Q : Value → Shared → Prop} (hz : cmpD op x y = some b) (ru : RR ψ s.heap x u) (rv : RR ψ s.heap y v) (hu : A.units + 64 < cLine)
    (hq : Q (.bool b) s) : wpAny (model prog w) A (compareOp op u v) Q E s := by
  unfold cmpD at hz
  split at hz
  · obtain ⟨t, rfl⟩ := ru; obtain ⟨t', rfl⟩ := rv; cases hz; exact PyProof.Rows.eq_int hq
  · obtain ⟨t, rfl⟩ := ru; obtain ⟨t', rfl⟩ := rv; cases hz; exact PyProof.Rows.eq_str hq
  · obtain ⟨t, rfl⟩ := ru; obtain ⟨t', rfl⟩ := rv; cases hz; exact PyProof.Rows.ne_int hq
  · obtain ⟨t, rfl⟩ := ru; obtain ⟨t', rfl⟩ := rv; cases hz; exact PyProof.Rows.ne_str hq
  · split at hz
    · cases hz
      rename_i hs
      obtain ⟨h1, h2, h3⟩ := eqOk_spec hs
      obtain ⟨as, ra⟩ := ru.reads
      obtain ⟨bs, rb⟩ := rv.reads
      exact SeqAt.compareEq_reads ra rb h1 h2 (by omega) hq
    · cases hz
  · split at hz
    · cases hz
      rename_i hs
      obtain ⟨h1, h2, h3⟩ := eqOk_spec hs
      obtain ⟨as, ra⟩ := ru.reads
      obtain ⟨bs, rb⟩ := rv.reads
      exact SeqAt.compareNe_reads ra rb h1 h2 (by omega) hq
    · cases hz
  · obtain ⟨t, rfl⟩ := ru; obtain ⟨t', rfl⟩ := rv; cases hz; exact PyProof.Rows.lt_int hq
  · obtain ⟨t, rfl⟩ := ru; obtain ⟨t', rfl⟩ := rv; cases hz; exact PyProof.Rows.gt_int hq
  · obtain ⟨t, rfl⟩ := ru; obtain ⟨t', rfl⟩ := rv; cases hz; exact PyProof.Rows.le_int hq
  · obtain ⟨t, rfl⟩ := ru; obtain ⟨t', rfl⟩ := rv; cases hz; exact PyProof.Rows.ge_int hq
  · obtain ⟨h1, h2⟩ := is_sound hz ru rv
    exact wpAny_is_plain h1 (by rw [h2]; exact hq)
  · obtain ⟨c, hc, rfl⟩ := Option.map_eq_some_iff.mp hz
    obtain ⟨h1, h2⟩ := is_sound hc ru rv
    exact wpAny_isNot_plain h1 (by rw [h2]; exact hq)
  · obtain ⟨t, rfl⟩ := ru; obtain ⟨t', rfl⟩ := rv; cases hz; exact PyProof.Rows.in_str hq
  · cases hz

theorem sub_plain {i : Expr} (hi : notSlice i = true) (o k : Value) : subscripted i false o k = operate [o, k] (getItem o k) := by
  cases i <;> first | rfl | cases hi

theorem seqIndex_nat {k : Int} {n : Nat} (h0 : 0 ≤ k) (h1 : k.toNat < n) : seqIndex? k n = some k.toNat := by
  unfold seqIndex?
  have h2 : ¬ k < 0 := by omega
  simp only [h2, if_false]
  first | rfl | (split <;> first | rfl | omega) | (simp; omega)

theorem idx_sound {value i : Expr} {Q : Value → Shared → Prop} (hz : idxD x y = some z) (ru : RR ψ s.heap x u) (rv : RR ψ s.heap y v) (hi : notSlice i = true)
    (hq : ∀ r tk, VR ψ s.heap z r → Q r { s with toks := tk }) : wpAny (model prog w) A (subscriptTail value i u v) Q E s := by
  unfold idxD at hz
  split at hz
  · obtain ⟨a, vs, rfl, hl, hv⟩ := ru; obtain ⟨t, rfl⟩ := rv
    split at hz
    · rename_i hb
      obtain ⟨r, hr, hvr⟩ := hv.get hz
      exact tail_any hl.typeIs slot_list_getitem.lookup (wpAny_getItem_list hl hb.1 hb.2 (by simpa using hr) (hq r s.toks hvr)) (sub_plain hi _ _)
    · cases hz
  · obtain ⟨a, vs, rfl, hl, _, hv⟩ := ru; obtain ⟨t, rfl⟩ := rv
    split at hz
    · rename_i hb
      obtain ⟨r, hr, hvr⟩ := hv.get hz
      have hlt := (List.getElem?_eq_some_iff.mp hr).1
      rw [Array.length_toList] at hlt
      exact tail_any hl.typeIs slot_tuple_getitem.lookup (PyProof.Rows.getItem_tuple hl (by omega) hb.2 (seqIndex_nat hb.1 hlt) (by simpa using hr) (hq r s.toks hvr)) (sub_plain hi _ _)
    · cases hz
  · obtain ⟨t, rfl⟩ := ru; obtain ⟨t', rfl⟩ := rv
    split at hz
    · rename_i x' k' hb
      obtain ⟨c, hc, rfl⟩ := Option.map_eq_some_iff.mp hz
      have hlt : k'.toNat < x'.cps.size := (Array.getElem?_eq_some_iff.mp hc).1
      refine tail_any (typeIs_str s x' t) slot_str_getitem.lookup (PyProof.Rows.getItem_str (c := c) (by simp; omega) ?_ (hq _ _ ⟨_, rfl⟩)) (sub_plain hi _ _)
      rw [seqIndex_nat hb.1 (by exact hlt)]
      exact hc
    · cases hz
  · cases hz

/-- a bound of a slice -/
theorem part_lo {a : Nat} (hz : loD x = some a) (r : VR ψ s.heap x v) : ∃ lo, IsPart v lo ∧ lo.elim 0 (fun k => k.toNat) = a ∧ ∀ k, lo = some k → 0 ≤ k := by
  unfold loD at hz
  split at hz
  · cases hz; cases r; exact ⟨none, .none, rfl, fun _ e => nomatch e⟩
  · obtain ⟨t, rfl⟩ := r
    split at hz
    · cases hz; rename_i k hk; exact ⟨some k, .int k t, rfl, fun _ e => by cases e; exact hk⟩
    · cases hz
  · cases hz
theorem part_hi {n a : Nat} (hz : hiD n x = some a) (r : VR ψ s.heap x v) : ∃ hi, IsPart v hi ∧ hi.elim n (fun k => k.toNat) = a ∧ ∀ k, hi = some k → 0 ≤ k := by
  unfold hiD at hz
  split at hz
  · cases hz; cases r; exact ⟨none, .none, rfl, fun _ e => nomatch e⟩
  · obtain ⟨t, rfl⟩ := r
    split at hz
    · cases hz; rename_i k hk; exact ⟨some k, .int k t, rfl, fun _ e => by cases e; exact hk⟩
    · cases hz
  · cases hz
theorem clip_pos {n : Nat} {k : Int} (h : 0 ≤ k) : clipAt n k = min k.toNat n := by
  have := clipAt_nat n k.toNat
  rw [Int.toNat_of_nonneg h] at this
  exact this
theorem pick_eq (items : Array Value) {lo hi : Option Int} (hl : ∀ k, lo = some k → 0 ≤ k) (hh : ∀ k, hi = some k → 0 ≤ k) :
    (slicePick items lo hi none).toList = (items.toList.take (hi.elim items.size (fun k => k.toNat))).drop (lo.elim 0 (fun k => k.toNat)) := by
  rw [slicePick_plain, List.toList_toArray, List.drop_take]
  have e1 : lo.elim 0 (clipAt items.size) = min (lo.elim 0 (fun k => k.toNat)) items.size := by
    cases lo with
    | none => simp
    | some k => exact clip_pos (hl k rfl)
  have e2 : hi.elim items.size (clipAt items.size) = min (hi.elim items.size (fun k => k.toNat)) items.size := by
    cases hi with
    | none => simp
    | some k => exact clip_pos (hh k rfl)
  rw [e1, e2]
  generalize lo.elim 0 (fun k => k.toNat) = a
  generalize hi.elim items.size (fun k => k.toNat) = b
  have hn : items.toList.length = items.size := Array.length_toList
  apply List.ext_getElem?
  intro i
  rw [List.getElem?_take, List.getElem?_take, List.getElem?_drop, List.getElem?_drop]
  by_cases ha : a ≤ items.size
  · rw [Nat.min_eq_left ha]
    by_cases hb : b ≤ items.size
    · rw [Nat.min_eq_left hb]
    · rw [Nat.min_eq_right (by omega)]
      by_cases h1 : i < items.size - a
      · rw [if_pos h1, if_pos (by omega)]
      · rw [if_neg h1, List.getElem?_eq_none (by omega)]; simp
  · have hm : min a items.size = items.size := Nat.min_eq_right (by omega)
    have hm2 : min b items.size ≤ items.size := Nat.min_le_right _ _
    rw [hm, if_neg (by omega), List.getElem?_eq_none (i := a + i) (by omega)]; simp

theorem slc_sound {value : Expr} {l r : Option Expr} {p : Pos} {vl vr : Value} {Q : Value → Shared → Prop} {d : PyData} (hz : slcD x y z = some d) (ru : RR ψ s.heap x u) (rl : VR ψ s.heap y vl) (rr : VR ψ s.heap z vr) (hfr : ∀ a ∈ ψ, a < s.heap.objs.size)
    (hq : ∀ r h' tk, VR ψ h' d r → (∀ b o, s.heap.get? b = some o → h'.get? b = some o) → Q r { s with heap := h', toks := tk }) :
    wpAny (model prog w) A (subscriptTail value (.Slice l r none p) u (.ref s.heap.objs.size)) Q E { s with heap := s.heap.push { cls := .type "slice", data := .fields #[vl, vr, .none] } } := by
  have kp : ∀ b o, s.heap.get? b = some o → (s.heap.push { cls := .type "slice", data := .fields #[vl, vr, .none] }).get? b = some o := fun _ _ e => Heap.get?_push_of_some _ e
  unfold slcD at hz
  split at hz
  · obtain ⟨a, vs, rfl, hl, hv⟩ := ru
    obtain ⟨i, hi, hz⟩ := Option.bind_eq_some_iff.mp hz
    obtain ⟨j, hj, hz⟩ := Option.bind_eq_some_iff.mp hz
    split at hz
    · cases hz
      rename_i hs
      obtain ⟨lo, pl, el, nl⟩ := part_lo hi rl
      obtain ⟨hi', pr, er, nr⟩ := part_hi hj rr
      have hl' : (s.heap.push { cls := .type "slice", data := .fields #[vl, vr, .none] }).IsList a vs := hl.push _
      have kk : ∀ b o, s.heap.get? b = some o → ((s.heap.push { cls := .type "slice", data := .fields #[vl, vr, .none] }).push { cls := .type "list", data := .seq (slicePick vs lo hi' none) }).get? b = some o := fun b o e => Heap.get?_push_of_some _ (kp b o e)
      refine tail_any (ops := [.ref s.heap.objs.size, .ref a]) hl'.typeIs slot_list_getitem.lookup (wpAny_getItem_list_slice hl' ⟨_, Heap.get?_push_size _ rfl, rfl, rfl⟩ pl pr .none (by intro e; cases e) ?_ ?_) rfl
      · refine hq _ _ s.toks ⟨_, _, rfl, ⟨_, Heap.get?_push_size _ rfl, rfl, 0, rfl⟩, ?_, ?_⟩ kk
        · intro hm
          have h1 : (s.heap.push { cls := .type "slice", data := .fields #[vl, vr, .none] }).objs.size < s.heap.objs.size := hfr _ hm
          rw [Heap.size_push] at h1
          exact absurd h1 (by omega)
        · rw [pick_eq vs nl nr, el, hv.size, er]
          exact ((hv.kept (κ := []) (.of kk) fun _ m => nomatch m).take _).drop _
      · show vs.size ≤ sizeLine
        rw [hv.size]; assumption
    · cases hz
  · obtain ⟨t, rfl⟩ := ru; obtain ⟨t', rfl⟩ := rl; cases rr
    split at hz
    · cases hz
      rename_i hs
      obtain ⟨T, id, h1, h2, h3⟩ := SBH.sliceItem_sn (prog := prog) (w := w) (A := A) (E := E) (s := s) (t := t) (P := fun h' => ∀ b o, s.heap.get? b = some o → h'.get? b = some o) (ui := t') (Q := Q)
        (fun h' o k b o' e => Heap.get?_push_of_some _ (k b o' e)) (fun _ _ e => e) (fun h' t'' k hk => hq _ h' k ⟨_, rfl⟩ hk) hs
      exact tail_any (ops := [.ref s.heap.objs.size, .str _ t]) h2 h1 h3 rfl
    · cases hz
  · cases hz

theorem prim_sound {k : Prim} {vs : List Value} {xs : List PyData} {Q : Value → Shared → Prop} (hA : A.handled = none) (hz : primD k xs = some z) (rs : vs.length = xs.length) (rr : ∀ (i : Nat) x v, xs[i]? = some x → vs[i]? = some v → RR ψ s.heap x v)
    (hq : ∀ r h' tk, VR ψ h' z r → (∀ b o, s.heap.get? b = some o → h'.get? b = some o) → Q r { s with heap := h', toks := tk }) :
    wpAny (model prog w) A (call (.builtin k.id) vs) Q E s := by
  unfold primD at hz
  split at hz
  · split at hz
    · cases hz
      rename_i hs
      match vs, rs with
      | [v], _ =>
        obtain ⟨a, us, rfl, hl, hv⟩ := rr 0 _ v rfl rfl
        exact PyProof.Rows.len_list hl (by rw [hv.size]; omega) (hq _ s.heap _ ⟨s.toks + 1, by rw [hv.size]⟩ fun _ _ e => e)
    · cases hz
  · cases hz
    match vs, rs with
    | [v], _ =>
      obtain ⟨t, rfl⟩ := rr 0 _ v rfl rfl
      exact PyProof.Rows.call_abs_int fun t' tk => hq _ s.heap tk ⟨_, rfl⟩ fun _ _ e => e
  · cases hz
    match vs, rs with
    | [v, v'], _ =>
      obtain ⟨t, rfl⟩ := rr 0 _ v rfl rfl
      obtain ⟨t', rfl⟩ := rr 1 _ v' rfl rfl
      refine max_two_ints hA fun h' tk hk => ?_
      split
      · rename_i hb; exact hq _ h' tk ⟨t', by rw [if_pos hb]⟩ hk
      · rename_i hb; exact hq _ h' tk ⟨t, by rw [if_neg hb]⟩ hk
  · cases hz
end ops
end Mini

namespace Mini
open PySem PySem.Spec PySem.Calls PyProof.Rows
variable {prog : Program} {w : World}

theorem MC.loc_spec {C : MC} {i : Nat} {x : Str} (h : C.loc i x = true) : C.names[i]? = some x ∧ C.scope.names.lookup x = some .local ∧ (x == ("__debug__" : Str)) = false := by
  unfold MC.loc at h
  simp only [Bool.and_eq_true, decide_eq_true_eq, Bool.not_eq_true'] at h
  exact ⟨h.1.1, h.1.2, h.2⟩
theorem MC.glob_spec {C : MC} {x : Str} (h : C.glob x = true) : C.scope.names.lookup x = some .globalImplicit ∧ (x == ("__debug__" : Str)) = false := by
  unfold MC.glob at h
  simp only [Bool.and_eq_true, decide_eq_true_eq, Bool.not_eq_true'] at h
  exact h
theorem star_cons {x : Expr} {xs : List Expr} {env : Env} (h : notStar x = true) : starEach (x :: xs) env = (false, eval x env) :: starEach xs env := by
  cases x <;> first | rfl | cases h
theorem back_cons {t : Sem Value} {r : List (Bool × Sem Value)} {pos : Pos} : backTo pos ((false, t) :: r) = (false, t) :: backTo pos r := rfl

theorem matchEs_star {C : MC} {es : MEs} {y : Expr} {ys : List Expr} (h : matchEs C es (y :: ys) = true) : notStar y = true := by
  cases es with
  | nil => cases h
  | cons e es =>
    have h' : (notStar y && matchE C e y && matchEs C es ys) = true := h
    simp only [Bool.and_eq_true] at h'
    exact h'.1.1
theorem prim_used (k : Prim) : (k.name, Value.builtin k.id) ∈ builtinsUsed := by cases k <;> simp [builtinsUsed, Prim.name, Prim.id]

theorem Room.units64 {n : Nat} {A : Around} (h : Room n A) : A.units + 64 < cLine := by have := h.units; omega

theorem wp_boolOp {M : Model} {A : Around} {pos : Pos} {op : BoolOp} {x y : Sem Value} {rest : List (Sem Value)} {Q : Value → Shared → Prop} {E : Value → Shared → Prop} {s : Shared}
    (h : wpAny M A x (fun v s₁ => wpAny M A (truthy v) (fun t s₂ => if t == (op == .Or) then Q v s₂ else wpAny M A (boolOp pos op (y :: rest)) Q E s₂) E s₁) E s) : wpAny M A (boolOp pos op (x :: y :: rest)) Q E s := by
  show wpAny M A (do let v ← x; standAt pos; let t ← holding [v] (truthy v); match op, t with | .And, false | .Or, true => pure v | _, _ => boolOp pos op (y :: rest)) Q E s
  refine wpAny_bind (wpAny_mono h (fun v s₁ h₁ => wpAny_bind (wpAny_standAt (wpAny_bind (wpAny_holding (wpAny_mono h₁ (fun t s₂ h₂ => ?_) fun _ _ e => e))))) fun _ _ e => e)
  cases op <;> cases t <;> first | exact wpAny_pure h₂ | exact h₂

theorem isTrue_plain' {x : Expr} {env : Env} {whole : Sem Value} (h : plainTest x = true) (hc : ∀ l o c p, x ≠ .Compare l o c p) : isTrue x env whole = (do let v ← whole; standAt x.pos; holding [v] (truthy v)) := by
  cases x <;> first | exact absurd rfl (hc _ _ _ _) | rfl | cases h

theorem plain_args {C : MC} {pos : Pos} {env : Env} : ∀ {es : MEs} {ys : List Expr}, matchEs C es ys = true → (backTo pos (starEach ys env)).any (·.1) = false
  | .nil, [], _ => rfl
  | .nil, _ :: _, h => by cases h
  | .cons _ _, [], h => by cases h
  | .cons e es, y :: ys, h => by
    have h' : (notStar y && matchE C e y && matchEs C es ys) = true := h
    simp only [Bool.and_eq_true] at h'
    rw [star_cons h'.1.1, back_cons, List.any_cons, plain_args h'.2]; rfl

section
variable {X : Cx prog w}

theorem SE.two {e₁ e₂ : Expr} {s₁ s₂ : Rho → Mu → Option (MV × Mu)} (h₁ : SE X e₁ s₁) (h₂ : SE X e₂ s₂) {ρ : Rho} {μ : Mu} {p q : MV × Mu} (hp : s₁ ρ μ = some p) (hq : s₂ ρ p.2 = some q)
    {A : Around} {s : Shared} {ψ φ : List Addr} {L f : Addr} {cd : Value} {nm : Str} {E : Value → Shared → Prop} {K : Value → Value → Shared → Prop}
    (hR : Room X.n A) (S : St X.h₀ ψ φ μ s.heap) (hL : Loc X.C.names L ψ φ ρ s.heap)
    (k : ∀ u v h' tk, MVR ψ φ h' p.1 u → MVR ψ φ h' q.1 v → St X.h₀ ψ φ q.2 h' → Keep φ s.heap h' → K u v { s with heap := h', toks := tk }) :
    wpAny (model prog w) A (eval e₁ (envOf nm X.C.scope L f cd)) (fun u s' => wpAny (model prog w) A (eval e₂ (envOf nm X.C.scope L f cd)) (fun v s'' => K u v s'') E s') E s :=
  h₁ ρ μ p hp A s ψ φ L f cd nm E _ hR S hL fun u h' tk hu S' k' =>
    h₂ ρ p.2 q hq A { s with heap := h', toks := tk } ψ φ L f cd nm E _ hR S' (hL.kept k' S'.sub) fun v h'' tk' hv S'' k'' => k u v h'' tk' (hu.kept k'' S'.sub) hv S'' (k'.trans k'')

theorem St.lts {h₀ h : Heap} {ψ φ : List Addr} {μ : Mu} (S : St h₀ ψ φ μ h) : ∀ a ∈ ψ, a < h.objs.size := fun a m => let ⟨_, e⟩ := S.live a m; Heap.lt_size e

theorem allD_length : ∀ {ms : List MV} {xs : List PyData}, allD ms = some xs → xs.length = ms.length
  | [], _, e => by cases e; rfl
  | .d x :: r, _, e => by
    obtain ⟨ys, hy, rfl⟩ := Option.map_eq_some_iff.mp e
    rw [List.length_cons, List.length_cons, allD_length hy]
  | .r _ :: _, _, e => by cases e
theorem rdAll_rr {h₀ h : Heap} {ψ φ : List Addr} {μ : Mu} (S : St h₀ ψ φ μ h) : ∀ {ms : List MV} {vs : List Value} {xs : List PyData}, MVRs ψ φ h ms vs → rdAll μ ms = some xs → vs.length = xs.length ∧ ∀ (i : Nat) x v, xs[i]? = some x → vs[i]? = some v → RR ψ h x v
  | [], _, _, e, q => by cases e; cases q; exact ⟨rfl, fun i x v e => by cases e⟩
  | m :: ms, _, _, ⟨v, ws, e, hv, r⟩, q => by
    subst e
    simp only [rdAll, Option.bind_eq_bind, Option.bind_eq_some_iff, Option.some.injEq] at q
    obtain ⟨x, hx, xs, hxs, rfl⟩ := q
    obtain ⟨h1, h2⟩ := rdAll_rr S r hxs
    refine ⟨by rw [List.length_cons, List.length_cons, h1], fun i y u e1 e2 => ?_⟩
    cases i with
    | zero => cases e1; cases e2; exact hv.rr S hx
    | succ i => exact h2 i y u (by simpa using e1) (by simpa using e2)

theorem ld_glob {x : Str} {p : Pos} {v : Value} {A : Around} {s : Shared} {L f : Addr} {cd : Value} {nm : Str} {E Q : Value → Shared → Prop} (base : ∀ b o, X.h₀.get? b = some o → s.heap.get? b = some o)
    (hx : X.C.glob x = true) (hv : X.mg x = some v) (h : Q v s) : wpAny (model prog w) A (eval (.Name x p) (envOf nm X.C.scope L f cd)) Q E s :=
  Name_function_global X.hk (MC.glob_spec hx).1 (loadGlobal_global (env := envOf nm X.C.scope L f cd) (X.G.g.keeps base) hv h) (MC.glob_spec hx).2
theorem ld_bi {x : Str} {p : Pos} {v : Value} {A : Around} {s : Shared} {L f : Addr} {cd : Value} {nm : Str} {E Q : Value → Shared → Prop} (base : ∀ b o, X.h₀.get? b = some o → s.heap.get? b = some o)
    (hx : X.C.glob x = true) (hv : (x, v) ∈ builtinsUsed) (h : Q v s) : wpAny (model prog w) A (eval (.Name x p) (envOf nm X.C.scope L f cd)) Q E s :=
  Name_function_global X.hk (MC.glob_spec hx).1 (loadGlobal_builtin (env := envOf nm X.C.scope L f cd) (X.G.g.keeps base) (X.G.bi _ hv).1 (X.G.b.keeps base) (X.G.bi _ hv).2 h) (MC.glob_spec hx).2
end

set_option maxHeartbeats 1000000 in
mutual
theorem soundE (X : Cx prog w) : ∀ (me : ME) (e : Expr), matchE X.C me e = true → SE X e (evE X.F me)
  | .var i, e, hm => by
    unfold matchE at hm
    split at hm
    · intro ρ μ q h A s ψ φ L f cd nm E Q hR S hL k
      obtain ⟨h1, h2, h3⟩ := MC.loc_spec hm
      simp only [evE] at h
      obtain ⟨mv, hv, rfl⟩ := Option.map_eq_some_iff.mp h
      obtain ⟨m, v, hn, hx, hr⟩ := hL.get h1 hv
      exact wpAny_Name (wpAny_loadName_local X.hk h2 hn hx (k v s.heap s.toks hr S (Keep.refl _ _))) h3
    · cases hm
  | .none, e, hm => by
    unfold matchE at hm
    split at hm
    · intro ρ μ q h A s ψ φ L f cd nm E Q hR S hL k
      cases of_decide_eq_true hm
      simp only [evE, Option.some.injEq] at h
      subst h
      exact wpAny_Constant_none (k _ s.heap s.toks rfl S (Keep.refl _ _))
    · cases hm
  | .bool b, e, hm => by
    unfold matchE at hm
    split at hm
    · intro ρ μ q h A s ψ φ L f cd nm E Q hR S hL k
      cases of_decide_eq_true hm
      simp only [evE, Option.some.injEq] at h
      subst h
      exact wpAny_Constant_bool (k _ s.heap s.toks rfl S (Keep.refl _ _))
    · cases hm
  | .int n, e, hm => by
    unfold matchE at hm
    split at hm
    · intro ρ μ q h A s ψ φ L f cd nm E Q hR S hL k
      cases of_decide_eq_true hm
      simp only [evE, Option.some.injEq] at h
      subst h
      exact wpAny_Constant_int (k _ s.heap _ ⟨_, rfl⟩ S (Keep.refl _ _))
    · cases hm
  | .str n, e, hm => by
    unfold matchE at hm
    split at hm
    · intro ρ μ q h A s ψ φ L f cd nm E Q hR S hL k
      cases of_decide_eq_true hm
      simp only [evE, Option.some.injEq] at h
      subst h
      exact wpAny_Constant_str (k _ s.heap _ ⟨_, rfl⟩ S (Keep.refl _ _))
    · cases hm
  | .bin op a b, e, hm => by
    unfold matchE at hm
    split at hm
    · intro ρ μ q h A s ψ φ L f cd nm E Q hR S hL k
      simp only [Bool.and_eq_true, decide_eq_true_eq] at hm
      obtain ⟨⟨rfl, ha⟩, hb⟩ := hm
      simp only [evE, Option.bind_eq_some_iff, Option.map_eq_some_iff] at h
      obtain ⟨p1, h1, p2, h2, x, hx, y, hy, z, hz, rfl⟩ := h
      refine wpAny_BinOp (SE.two (soundE X a _ ha) (soundE X b _ hb) h1 h2 hR S hL fun u v h' tk hu hv S' k' => ?_)
      exact bin_sound hz (hu.rr S' hx) (hv.rr S' hy) S'.fresh fun r h'' tk' hr kk => k r h'' tk' hr (S'.grow kk) (k'.trans (.of kk))
    · cases hm
  | .cmp op a b, e, hm => by
    unfold matchE at hm
    split at hm
    · intro ρ μ q h A s ψ φ L f cd nm E Q hR S hL k
      simp only [Bool.and_eq_true, decide_eq_true_eq, Bool.not_eq_true'] at hm
      obtain ⟨⟨⟨rfl, hbm⟩, ha⟩, hb⟩ := hm
      simp only [evE, Option.bind_eq_some_iff, Option.map_eq_some_iff] at h
      obtain ⟨p1, h1, p2, h2, x, hx, y, hy, z, hz, rfl⟩ := h
      refine wpAny_Compare1 (SE.two (soundE X a _ ha) (soundE X b _ hb) h1 h2 hR S hL fun u v h' tk hu hv S' k' => ?_) hbm
      exact cmp_sound hz (hu.rr S' hx) (hv.rr S' hy) hR.units64 (k _ h' tk rfl S' k')
    · cases hm
  | .bop op a es, e, hm => by
    unfold matchE at hm
    split at hm
    · intro ρ μ q h A s ψ φ L f cd nm E Q hR S hL k
      simp only [Bool.and_eq_true, decide_eq_true_eq] at hm
      obtain ⟨⟨rfl, ha⟩, hb⟩ := hm
      simp only [evE, Option.bind_eq_some_iff] at h
      obtain ⟨p, h1, h2⟩ := h
      exact soundV X es _ hb _ p ρ q h2 A s ψ φ L f cd nm E Q _ _ hR hL S.sub (fun K hK => soundE X a _ ha ρ μ p h1 A s ψ φ L f cd nm E K hR S hL hK) k
    · cases hm
  | .ite c a b, e, hm => by
    unfold matchE at hm
    split at hm
    · intro ρ μ q h A s ψ φ L f cd nm E Q hR S hL k
      simp only [Bool.and_eq_true] at hm
      obtain ⟨⟨hc, ha⟩, hb⟩ := hm
      simp only [evE, Option.bind_eq_some_iff] at h
      obtain ⟨p, h1, h2⟩ := h
      refine wpAny_IfExp (soundT X c _ hc ρ μ p h1 A s ψ φ L f cd nm E _ hR S hL fun h' tk S' k' => ?_)
      cases hp : p.1 with
      | true =>
        rw [hp] at h2
        simp only [if_true] at h2 ⊢
        exact soundE X a _ ha ρ p.2 q h2 A { s with heap := h', toks := tk } ψ φ L f cd nm E Q hR S' (hL.kept k' S.sub) fun v h'' tk' hv S'' k'' => k v h'' tk' hv S'' (k'.trans k'')
      | false =>
        rw [hp] at h2
        simp only [Bool.false_eq_true, if_false] at h2 ⊢
        exact soundE X b _ hb ρ p.2 q h2 A { s with heap := h', toks := tk } ψ φ L f cd nm E Q hR S' (hL.kept k' S.sub) fun v h'' tk' hv S'' k'' => k v h'' tk' hv S'' (k'.trans k'')
    · cases hm
  | .tup es, e, hm => by
    unfold matchE at hm
    split at hm
    · intro ρ μ q h A s ψ φ L f cd nm E Q hR S hL k
      simp only [evE, Option.bind_eq_some_iff] at h
      obtain ⟨p, h1, xs, hx, h2⟩ := h
      split at h2
      · cases h2
        rename_i hs
        refine wpAny_Tuple (soundL X es _ hm ρ μ p h1 A s ψ φ L f cd nm _ E _ hR S hL fun vs h' tk hv S' k' => ⟨?_, ?_⟩)
        · rw [hv.length, ← allD_length hx]; exact hs
        · refine k _ _ tk ⟨_, _, rfl, ⟨_, Heap.get?_push_size _ rfl, rfl, 0, rfl⟩, S'.fresh, ?_⟩ (S'.push _) (k'.push _)
          exact (hv.allD hx).kept (κ := []) (.of fun _ _ e => Heap.get?_push_of_some _ e) fun _ m => nomatch m
      · cases h2
    · cases hm
  | .lst es, e, hm => by
    unfold matchE at hm
    split at hm
    · intro ρ μ q h A s ψ φ L f cd nm E Q hR S hL k
      simp only [evE, Option.bind_eq_some_iff] at h
      obtain ⟨p, h1, xs, hx, h2⟩ := h
      split at h2
      · cases h2
        rename_i hs
        refine wpAny_List (soundL X es _ hm ρ μ p h1 A s ψ φ L f cd nm _ E _ hR S hL fun vs h' tk hv S' k' => ⟨?_, ?_⟩)
        · rw [hv.length, ← allD_length hx]; exact hs
        · refine k _ _ tk ⟨_, _, rfl, ⟨_, Heap.get?_push_size _ rfl, rfl, 0, rfl⟩, S'.fresh, ?_⟩ (S'.push _) (k'.push _)
          exact (hv.allD hx).kept (κ := []) (.of fun _ _ e => Heap.get?_push_of_some _ e) fun _ m => nomatch m
      · cases h2
    · cases hm
  | .idx a b, e, hm => by
    unfold matchE at hm
    split at hm
    · intro ρ μ q h A s ψ φ L f cd nm E Q hR S hL k
      simp only [Bool.and_eq_true] at hm
      obtain ⟨⟨hi, ha⟩, hb⟩ := hm
      simp only [evE, Option.bind_eq_some_iff, Option.map_eq_some_iff] at h
      obtain ⟨p1, h1, p2, h2, x, hx, y, hy, z, hz, rfl⟩ := h
      refine Subscript_ (SE.two (soundE X a _ ha) (soundE X b _ hb) h1 h2 hR S hL fun u v h' tk hu hv S' k' => ?_)
      exact idx_sound hz (hu.rr S' hx) (hv.rr S' hy) hi fun r tk' hr => k r h' tk' hr S' k'
    · cases hm
  | .slc a lo hi, e, hm => by
    unfold matchE at hm
    split at hm
    · rename_i v0 l0 u0 p0 p1
      intro ρ μ q h A s ψ φ L f cd nm E Q hR S hL k
      simp only [Bool.and_eq_true] at hm
      obtain ⟨⟨ha, hl⟩, hu⟩ := hm
      simp only [evE, Option.bind_eq_some_iff, Option.map_eq_some_iff] at h
      obtain ⟨p1, h1, p2, h2, p3, h3, x, hx, y, hy, z, hz, d, hd, rfl⟩ := h
      have part : ∀ (m : ME) (o : Option Expr), ((∃ x, o = some x ∧ matchE X.C m x = true ∧ SE X x (evE X.F m)) ∨ (o = none ∧ m = .none)) → ∀ μ p, evE X.F m ρ μ = some p →
          ∀ (s : Shared) (Q : Value → Shared → Prop), St X.h₀ ψ φ μ s.heap → Loc X.C.names L ψ φ ρ s.heap → (∀ v h' tk, MVR ψ φ h' p.1 v → St X.h₀ ψ φ p.2 h' → Keep φ s.heap h' → Q v { s with heap := h', toks := tk }) →
          wpAny (model prog w) A (evalPart o (envOf nm X.C.scope L f cd)) Q E s := by
        intro m o ho μ p hp s Q S hL k
        rcases ho with ⟨x, rfl, _, hs⟩ | ⟨rfl, rfl⟩
        · exact hs ρ μ p hp A s ψ φ L f cd nm E Q hR S hL k
        · simp only [evE, Option.some.injEq] at hp
          subst hp
          exact wpAny_pure (k _ s.heap s.toks rfl S (Keep.refl _ _))
      have hl' : (∃ x, l0 = some x ∧ matchE X.C lo x = true ∧ SE X x (evE X.F lo)) ∨ (l0 = none ∧ lo = .none) := by
        cases l0 with
        | none => refine .inr ⟨rfl, ?_⟩; cases lo <;> first | rfl | cases hl
        | some x => exact .inl ⟨x, rfl, hl, soundE X lo x hl⟩
      have hu' : (∃ x, u0 = some x ∧ matchE X.C hi x = true ∧ SE X x (evE X.F hi)) ∨ (u0 = none ∧ hi = .none) := by
        cases u0 with
        | none => refine .inr ⟨rfl, ?_⟩; cases hi <;> first | rfl | cases hu
        | some x => exact .inl ⟨x, rfl, hu, soundE X hi x hu⟩
      refine Subscript_ (soundE X a _ ha ρ μ p1 h1 A s ψ φ L f cd nm E _ hR S hL fun o h' tk ho S' k' => ?_)
      refine wpAny_Slice (part lo l0 hl' p1.2 p2 h2 { s with heap := h', toks := tk } _ S' (hL.kept k' S.sub) fun vl h'' tk' hvl S'' k'' => ?_)
      refine part hi u0 hu' p2.2 p3 h3 { s with heap := h'', toks := tk' } _ S'' (hL.kept (k'.trans k'') S.sub) fun vu h3' tk3 hvu S3 k3 => ?_
      refine wpAny_pure ?_
      have hy' : ∃ m, p2.1 = .d m := by
        cases hp : p2.1 with
        | d m => exact ⟨m, rfl⟩
        | r i =>
          rw [hp] at hy
          obtain ⟨xs, _, rfl⟩ := Option.map_eq_some_iff.mp hy
          exfalso
          unfold slcD at hd
          split at hd
          · simp [loD] at hd
          · rename_i e; cases e
          · cases hd
      have hz' : ∃ m, p3.1 = .d m := by
        cases hp : p3.1 with
        | d m => exact ⟨m, rfl⟩
        | r i =>
          rw [hp] at hz
          obtain ⟨xs, _, rfl⟩ := Option.map_eq_some_iff.mp hz
          exfalso
          unfold slcD at hd
          split at hd
          · simp [hiD] at hd
          · rename_i e; cases e
          · cases hd
      obtain ⟨y', ey⟩ := hy'
      obtain ⟨z', ez⟩ := hz'
      rw [ey] at hy hvl
      rw [ez] at hz hvu
      cases hy; cases hz
      exact slc_sound (s := { s with heap := h3', toks := tk3 }) hd ((ho.kept (k''.trans k3) S.sub).rr S3 hx) (VR.kept k3 S.sub hvl) hvu S3.lts fun r h4 tk4 hr kk => k r h4 tk4 hr (S3.grow kk) ((k'.trans (k''.trans k3)).trans (.of kk))
    · cases hm
  | .call g es, e, hm => by
    unfold matchE at hm
    split at hm
    · rename_i x p0 y ys p1
      intro ρ μ q h A s ψ φ L f cd nm E Q hR S hL k
      simp only [Bool.and_eq_true, decide_eq_true_eq] at hm
      obtain ⟨⟨hg, hx⟩, he⟩ := hm
      simp only [evE, Option.bind_eq_some_iff, Option.map_eq_some_iff] at h
      obtain ⟨p, h1, fn, hfn, r, hr, rfl⟩ := h
      have hfs : ∃ z, X.fs[g]? = some z ∧ z.1 = x ∧ z.2 = fn := by
        rw [X.hf, List.getElem?_map] at hg
        unfold Cx.F at hfn
        rw [List.getElem?_map] at hfn
        cases hz : X.fs[g]? with
        | none => rw [hz] at hg; cases hg
        | some z =>
          rw [hz] at hg hfn
          exact ⟨z, rfl, Option.some.inj hg, Option.some.inj hfn⟩
      obtain ⟨z, hz, rfl, rfl⟩ := hfs
      obtain ⟨a, o, fd, hmg, hao, hod, hcall⟩ := X.G.fn g z.1 z.2 hz
      have hstar := matchEs_star he
      refine wpAny_Call_NameR (ld_glob S.base hx hmg (callWith_function (o := o) (fd := fd) ?_))
      have hsp := soundL X es _ he ρ μ p h1 A s ψ φ L f cd nm p1 E (fun vs s₁ => (s₁.heap.get? a = some o ∧ o.data = .func fd) ∧ wpAny (model prog w) A (call (.ref a) ([] ++ vs) []) Q E s₁) hR S hL fun vs h' tk hv S' k' =>
        ⟨⟨S'.base a o hao, hod⟩, wpAny_call (hcall A { s with heap := h', toks := tk } ψ φ p.2 p.1 vs r.1 r.2 _ hR S' hv hr fun v h'' tk' hv' S'' k'' => k v h'' tk' hv' S'' (k'.trans k''))⟩
      rw [star_cons hstar, back_cons] at hsp ⊢
      exact evalArgs_plain hsp
    · cases hm
  | .prim k0 es, e, hm => by
    unfold matchE at hm
    split at hm
    · rename_i x p0 y ys p1
      intro ρ μ q h A s ψ φ L f cd nm E Q hR S hL k
      simp only [Bool.and_eq_true, decide_eq_true_eq] at hm
      obtain ⟨⟨rfl, hx⟩, he⟩ := hm
      simp only [evE, Option.bind_eq_some_iff, Option.map_eq_some_iff] at h
      obtain ⟨p, h1, xs, hxs, z, hz, rfl⟩ := h
      have hstar := matchEs_star he
      refine wpAny_Call_NameR (ld_bi (v := .builtin k0.id) S.base hx (prim_used k0) (callWith_builtin ?_ ?_))
      · exact plain_args he
      · have hsp := soundL X es _ he ρ μ p h1 A s ψ φ L f cd nm p1 E (fun vs s₁ => wpAny (model prog w) A (call (.builtin k0.id) ([] ++ vs) []) Q E s₁) hR S hL fun vs h' tk hv S' k' => by
          obtain ⟨hl1, hl2⟩ := rdAll_rr S' hv hxs
          exact prim_sound (s := { s with heap := h', toks := tk }) hR.handled hz hl1 hl2 fun r h'' tk' hr kk => k r h'' tk' hr (S'.grow kk) (k'.trans (.of kk))
        rw [star_cons hstar, back_cons] at hsp ⊢
        exact evalArgs_plain hsp
    · cases hm
  | .isBool a, e, hm => by
    unfold matchE at hm
    split at hm
    · rename_i x p0 y z p3 p1
      intro ρ μ q h A s ψ φ L f cd nm E Q hR S hL k
      simp only [Bool.and_eq_true, decide_eq_true_eq] at hm
      obtain ⟨⟨⟨⟨⟨rfl, hx⟩, rfl⟩, hz⟩, hst⟩, ha⟩ := hm
      simp only [evE, Option.bind_eq_some_iff] at h
      obtain ⟨p, h1, h2⟩ := h
      refine wpAny_Call_NameR (ld_bi (v := .builtin "isinstance") S.base hx (by simp [builtinsUsed]) (callWith_builtin ?_ ?_))
      · rw [star_cons hst, back_cons]; rfl
      · rw [star_cons hst, back_cons]
        refine evalArgs_plain (spliced_cons (soundE X a y ha ρ μ p h1 A s ψ φ L f cd nm E _ hR S hL fun v h' tk hv S' k' => ?_))
        refine spliced_cons (ld_bi (v := .type "bool") S'.base hz (by simp [builtinsUsed]) (spliced_nil ?_))
        split at h2
        · cases h2
          rename_i b hp
          rw [hp] at hv
          cases hv
          exact IsiPair.bool_bool (k _ h' tk rfl S' k')
        · cases h2
    · cases hm
theorem soundL (X : Cx prog w) : ∀ (es : MEs) (xs : List Expr), matchEs X.C es xs = true → SL X xs (evL X.F es)
  | .nil, xs, hm => by
    unfold matchEs at hm
    split at hm
    · intro ρ μ q h A s ψ φ L f cd nm pos E Q hR S hL k
      simp only [evL, Option.some.injEq] at h
      subst h
      exact spliced_nil (k [] s.heap s.toks rfl S (Keep.refl _ _))
    · cases hm
  | .cons e es, xs, hm => by
    unfold matchEs at hm
    split at hm
    · intro ρ μ q h A s ψ φ L f cd nm pos E Q hR S hL k
      simp only [Bool.and_eq_true] at hm
      obtain ⟨⟨hst, he⟩, hes⟩ := hm
      simp only [evL, Option.bind_eq_some_iff, Option.map_eq_some_iff] at h
      obtain ⟨p, h1, r, h2, rfl⟩ := h
      rw [star_cons hst, back_cons]
      refine spliced_cons (soundE X e _ he ρ μ p h1 A s ψ φ L f cd nm E _ hR S hL fun v h' tk hv S' k' => ?_)
      exact soundL X es _ hes ρ p.2 r h2 A { s with heap := h', toks := tk } ψ φ L f cd nm pos E _ hR S' (hL.kept k' S.sub) fun vs h'' tk' hvs S'' k'' =>
        k (v :: vs) h'' tk' ⟨v, vs, rfl, hv.kept k'' S.sub, hvs⟩ S'' (k'.trans k'')
    · cases hm
theorem soundV (X : Cx prog w) : ∀ (es : MEs) (xs : List Expr), matchEs X.C es xs = true → ∀ (op : BoolOp) (p : MV × Mu) (ρ : Rho) (q : MV × Mu), evV X.F op es p ρ = some q →
    ∀ (A : Around) (s : Shared) (ψ φ : List Addr) (L f : Addr) (cd : Value) (nm : Str) (E Q : Value → Shared → Prop) (pos : Pos) (t : Sem Value), Room X.n A → Loc X.C.names L ψ φ ρ s.heap → (∀ a ∈ φ, a ∈ ψ) →
    (∀ K : Value → Shared → Prop, (∀ v h' tk, MVR ψ φ h' p.1 v → St X.h₀ ψ φ p.2 h' → Keep φ s.heap h' → K v { s with heap := h', toks := tk }) → wpAny (model prog w) A t K E s) →
    (∀ v h' tk, MVR ψ φ h' q.1 v → St X.h₀ ψ φ q.2 h' → Keep φ s.heap h' → Q v { s with heap := h', toks := tk }) →
    wpAny (model prog w) A (boolOp pos op (t :: evalEach xs (envOf nm X.C.scope L f cd))) Q E s
  | .nil, xs, hm => by
    unfold matchEs at hm
    split at hm
    · intro op p ρ q h A s ψ φ L f cd nm E Q pos t hR hL hsub ht k
      simp only [evV, Option.some.injEq] at h
      subst h
      exact ht Q k
    · cases hm
  | .cons e es, xs, hm => by
    unfold matchEs at hm
    split at hm
    · rename_i x xs'
      intro op p ρ q h A s ψ φ L f cd nm E Q pos t hR hL hsub ht k
      simp only [Bool.and_eq_true] at hm
      obtain ⟨⟨hst, he⟩, hes⟩ := hm
      simp only [evV, Option.bind_eq_some_iff] at h
      obtain ⟨y, hy, b, hb, h2⟩ := h
      refine wp_boolOp (ht _ fun v h' tk hv S' k' => ?_)
      have hvb : v = .bool b := by
        have r := hv.rr S' hy
        cases y <;> simp only [truth, Option.some.injEq, reduceCtorEq] at hb
        subst hb; exact r
      subst hvb
      refine wpAny_truthy_bool ?_
      split
      · rename_i hc
        rw [if_pos hc] at h2
        cases h2
        exact k _ h' tk hv S' k'
      · rename_i hc
        rw [if_neg hc] at h2
        obtain ⟨r, h3, h4⟩ := Option.bind_eq_some_iff.mp h2
        exact soundV X es xs' hes op r ρ q h4 A { s with heap := h', toks := tk } ψ φ L f cd nm E Q pos _ hR (hL.kept k' hsub) hsub
          (fun K hK => soundE X e x he ρ p.2 r h3 A { s with heap := h', toks := tk } ψ φ L f cd nm E K hR S' (hL.kept k' hsub) hK)
          fun v h'' tk' hv S'' k'' => k v h'' tk' hv S'' (k'.trans k'')
    · cases hm
theorem soundT (X : Cx prog w) : ∀ (t : MT) (x : Expr), matchT X.C t x = true → SB X x (evB X.F t)
  | .val e, x, hm => by
    unfold matchT at hm
    simp only [Bool.and_eq_true] at hm
    obtain ⟨hp, he⟩ := hm
    intro ρ μ q h A s ψ φ L f cd nm E Q hR S hL k
    simp only [evB, Option.bind_eq_some_iff, Option.map_eq_some_iff] at h
    obtain ⟨p, h1, y, hy, b, hb, rfl⟩ := h
    by_cases hc : ∃ l o c p, x = .Compare l o c p
    · obtain ⟨l, o, c, pc, rfl⟩ := hc
      cases e with
      | cmp op a b =>
        unfold matchE at he
        split at he
        · rename_i e0
          cases e0
          simp only [Bool.and_eq_true, decide_eq_true_eq, Bool.not_eq_true'] at he
          obtain ⟨⟨⟨rfl, hbm⟩, ha⟩, hb'⟩ := he
          simp only [evE, Option.bind_eq_some_iff, Option.map_eq_some_iff] at h1
          obtain ⟨p1, h1, p2, h2, x, hx, y', hy', z, hz, rfl⟩ := h1
          cases hy
          cases hb
          refine wpAny_isTrue_Compare1 (SE.two (soundE X a _ ha) (soundE X b _ hb') h1 h2 hR S hL fun u v h' tk hu hv S' k' => ?_) hbm
          exact cmp_sound hz (hu.rr S' hx) (hv.rr S' hy') hR.units64 (wpAny_truthy_bool (k h' tk S' k'))
        · cases he
      | _ => cases he
    · rw [isTrue_plain' hp fun l o c p e => hc ⟨l, o, c, p, e⟩]
      refine wpAny_bind (soundE X e x he ρ μ p h1 A s ψ φ L f cd nm E _ hR S hL fun v h' tk hv S' k' => wpAny_bind (wpAny_standAt (wpAny_holding ?_)))
      have hvb : v = .bool b := by
        have r := hv.rr S' hy
        cases y <;> simp only [truth, Option.some.injEq, reduceCtorEq] at hb
        subst hb; exact r
      subst hvb
      exact wpAny_truthy_bool (k h' tk S' k')
  | .not t, x, hm => by
    unfold matchT at hm
    split at hm
    · intro ρ μ q h A s ψ φ L f cd nm E Q hR S hL k
      simp only [evB, Option.map_eq_some_iff] at h
      obtain ⟨p, h1, rfl⟩ := h
      exact wpAny_isTrue_Not (soundT X t _ hm ρ μ p h1 A s ψ φ L f cd nm E _ hR S hL k)
    · cases hm
  | .bop op ts, x, hm => by
    unfold matchT at hm
    split at hm
    · intro ρ μ q h A s ψ φ L f cd nm E Q hR S hL k
      simp only [Bool.and_eq_true, decide_eq_true_eq] at hm
      obtain ⟨rfl, hts⟩ := hm
      simp only [evB] at h
      exact wpAny_isTrue_BoolOp (soundTs X ts _ hts _ ρ μ q h A s ψ φ L f cd nm E Q hR S hL k)
    · cases hm
theorem soundTs (X : Cx prog w) : ∀ (ts : MTs) (xs : List Expr), matchTs X.C ts xs = true → ∀ (op : BoolOp) (ρ : Rho) (μ : Mu) (p : Bool × Mu), evBs X.F op ts ρ μ = some p →
    ∀ (A : Around) (s : Shared) (ψ φ : List Addr) (L f : Addr) (cd : Value) (nm : Str) (E : Value → Shared → Prop) (Q : Bool → Shared → Prop),
    Room X.n A → St X.h₀ ψ φ μ s.heap → Loc X.C.names L ψ φ ρ s.heap →
    (∀ h' tk, St X.h₀ ψ φ p.2 h' → Keep φ s.heap h' → Q p.1 { s with heap := h', toks := tk }) →
    wpAny (model prog w) A (allTrue op xs (envOf nm X.C.scope L f cd)) Q E s
  | .nil, xs, hm => by
    unfold matchTs at hm
    split at hm
    · intro op ρ μ p h A s ψ φ L f cd nm E Q hR S hL k
      simp only [evBs, Option.some.injEq] at h
      subst h
      exact wpAny_pure (k s.heap s.toks S (Keep.refl _ _))
    · cases hm
  | .cons t ts, xs, hm => by
    unfold matchTs at hm
    split at hm
    · rename_i x xs'
      intro op ρ μ p h A s ψ φ L f cd nm E Q hR S hL k
      simp only [Bool.and_eq_true] at hm
      obtain ⟨ht, hts⟩ := hm
      simp only [evBs, Option.bind_eq_some_iff] at h
      obtain ⟨q, h1, h2⟩ := h
      cases op with
      | And =>
        refine wpAny_allTrue_And_cons (soundT X t x ht ρ μ q h1 A s ψ φ L f cd nm E _ hR S hL fun h' tk S' k' => ?_)
        cases hq : q.1 with
        | true =>
          rw [hq] at h2
          exact soundTs X ts xs' hts .And ρ q.2 p h2 A { s with heap := h', toks := tk } ψ φ L f cd nm E Q hR S' (hL.kept k' S.sub) fun h'' tk' S'' k'' => k h'' tk' S'' (k'.trans k'')
        | false =>
          rw [hq] at h2
          have : p = q := by cases h2; rfl
          subst this
          have := k h' tk S' k'
          rw [hq] at this
          exact this
      | Or =>
        refine wpAny_allTrue_Or_cons (soundT X t x ht ρ μ q h1 A s ψ φ L f cd nm E _ hR S hL fun h' tk S' k' => ?_)
        cases hq : q.1 with
        | false =>
          rw [hq] at h2
          exact soundTs X ts xs' hts .Or ρ q.2 p h2 A { s with heap := h', toks := tk } ψ φ L f cd nm E Q hR S' (hL.kept k' S.sub) fun h'' tk' S'' k'' => k h'' tk' S'' (k'.trans k'')
        | true =>
          rw [hq] at h2
          have : p = q := by cases h2; rfl
          subst this
          have := k h' tk S' k'
          rw [hq] at this
          exact this
    · cases hm
end
end Mini

namespace Mini
open PySem PySem.Spec PySem.Calls PyProof.Rows
variable {prog : Program} {w : World}

/-- what a statement may add: lists at new places -/
structure Ext (ψ φ ψ' φ' : List Addr) (h : Heap) : Prop where
  sub : ∀ a ∈ ψ, a ∈ ψ'
  new : ∀ a ∈ ψ', a ∈ ψ ∨ h.get? a = none
  app : ∃ e, φ' = φ ++ e ∧ ∀ a ∈ e, h.get? a = none
theorem Ext.refl (ψ φ : List Addr) (h : Heap) : Ext ψ φ ψ φ h := ⟨fun _ m => m, fun _ m => .inl m, [], by simp, fun _ m => nomatch m⟩
theorem Ext.trans {ψ φ ψ' φ' ψ'' φ'' : List Addr} {h h' : Heap} (x : Ext ψ φ ψ' φ' h) (y : Ext ψ' φ' ψ'' φ'' h') (live : ∀ a o, h.get? a = some o → ∃ o', h'.get? a = some o') : Ext ψ φ ψ'' φ'' h := by
  have dead : ∀ a, h'.get? a = none → h.get? a = none := fun a e => by
    cases q : h.get? a with
    | none => rfl
    | some o => obtain ⟨o', e'⟩ := live a o q; rw [e] at e'; cases e'
  refine ⟨fun a m => y.sub a (x.sub a m), fun a m => ?_, ?_⟩
  · rcases y.new a m with h1 | h1
    · exact x.new a h1
    · exact .inr (dead a h1)
  · obtain ⟨e, rfl, he⟩ := x.app
    obtain ⟨e', rfl, he'⟩ := y.app
    refine ⟨e ++ e', by rw [List.append_assoc], fun a m => ?_⟩
    rcases List.mem_append.mp m with m | m
    · exact he a m
    · exact dead a (he' a m)
/-- all that lived lives on -/
theorem live_of {h₀ h h' : Heap} {φ ψ' φ' : List Addr} {μ : Mu} {L : Addr} (k : Keep (L :: φ) h h') (S' : St h₀ ψ' φ' μ h') (sub : ∀ a ∈ φ, a ∈ ψ') (hL : L ∈ ψ') : ∀ a o, h.get? a = some o → ∃ o', h'.get? a = some o' := fun a o e => by
  by_cases m : a ∈ L :: φ
  · rcases List.mem_cons.mp m with rfl | m
    · exact S'.live _ hL
    · exact S'.live _ (sub a m)
  · exact ⟨o, k a o e m⟩
theorem Keep.ext {ψ φ ψ' φ' : List Addr} {h h' h'' : Heap} {L : Addr} (k : Keep (L :: φ) h h') (x : Ext ψ φ ψ' φ' h) (k' : Keep (L :: φ') h' h'') : Keep (L :: φ) h h'' := fun b o e n => by
  refine k' b o (k b o e n) fun m => ?_
  rcases List.mem_cons.mp m with rfl | m
  · exact n (.head _)
  · obtain ⟨ex, rfl, he⟩ := x.app
    rcases List.mem_append.mp m with m | m
    · exact n (.tail _ m)
    · rw [he b m] at e; cases e

def Flows (ψ φ : List Addr) (h : Heap) : Out → Flow → Prop
  | .next, f => f = .next
  | .ret mv, f => ∃ v, f = .ret v ∧ MVR ψ φ h mv v

def SSt (X : Cx prog w) (tree : Env → Sem Flow) (sem : Rho → Mu → Option (Out × Rho × Mu)) : Prop :=
  ∀ ρ μ q, sem ρ μ = some q → ∀ (A : Around) (s : Shared) (ψ φ : List Addr) (L f : Addr) (cd : Value) (nm : Str) (E : Value → Shared → Prop) (Q : Flow → Shared → Prop),
    Room X.n A → St X.h₀ ψ φ μ s.heap → Loc X.C.names L ψ φ ρ s.heap →
    (∀ fl ψ' φ' h' tk, Flows ψ' φ' h' q.1 fl → Ext ψ φ ψ' φ' s.heap → St X.h₀ ψ' φ' q.2.2 h' → Loc X.C.names L ψ' φ' q.2.1 h' → Keep (L :: φ) s.heap h' → Q fl { s with heap := h', toks := tk }) →
    wpAny (model prog w) A (tree (envOf nm X.C.scope L f cd)) Q E s

section
variable {h₀ h h' : Heap} {ψ φ : List Addr} {μ : Mu} {names : List Str} {L : Addr} {ρ : Rho}
theorem Loc.inψ (X : Loc names L ψ φ ρ h) : L ∈ ψ := let ⟨_, _, h, _⟩ := X; h
theorem Loc.offφ (X : Loc names L ψ φ ρ h) : L ∉ φ := let ⟨_, _, _, h, _⟩ := X; h
theorem Loc.live (X : Loc names L ψ φ ρ h) : ∃ o, h.get? L = some o := let ⟨_, ⟨o, _, _, e, _⟩, _⟩ := X; ⟨o, e⟩

/-- a slot is stored -/
theorem store_sound {X : Cx prog w} {i : Nat} {x : Str} {mv : MV} {v : Value} {A : Around} {s : Shared} {f : Addr} {cd : Value} {nm : Str} {E : Value → Shared → Prop} {Q : Unit → Shared → Prop}
    (S : St X.h₀ ψ φ μ s.heap) (hL : Loc X.C.names L ψ φ ρ s.heap) (hx : X.C.loc i x = true) (hv : MVR ψ φ s.heap mv v)
    (k : ∀ h' tk, St X.h₀ ψ φ μ h' → Loc X.C.names L ψ φ (ρ.set i (some mv)) h' → Keep [L] s.heap h' → Q () { s with heap := h', toks := tk }) :
    wpAny (model prog w) A (storeName (envOf nm X.C.scope L f cd) x v) Q E s := by
  obtain ⟨m, hn, hp, hl, hm⟩ := id hL
  obtain ⟨h1, h2, _⟩ := MC.loc_spec hx
  refine wpAny_storeName_local h2 hn (fun h' hn' hs => ?_) (by show (X.C.scope.kind == .class || (X.C.scope.kind == .module && L != mainGlobals)) = false; rw [X.hk]; rfl)
  have kk : Keep [L] s.heap h' := fun b o e n => (hs.2 b (fun q => n (q ▸ List.mem_singleton.mpr rfl))).trans e
  have ks : ∀ a ∈ [L], a ∈ ψ := fun a m => List.mem_singleton.mp m ▸ hp
  refine k h' _ (S.other hp hl (let ⟨o, _, _, e, _⟩ := hn'; ⟨o, e⟩) hs) ⟨_, hn', hp, hl, fun j mv' e => ?_⟩ kk
  rw [List.getElem?_set] at e
  split at e
  · rename_i hij
    subst hij
    split at e
    · cases e
      exact ⟨x, v, h1, by simp, hv.kept kk ks⟩
    · cases e
  · rename_i hij
    obtain ⟨y, u, e1, e2, e3⟩ := hm j mv' e
    refine ⟨y, u, e1, ?_, e3.kept kk ks⟩
    have : y ≠ x := fun z => by
      subst z
      exact hij ((List.getElem?_inj (List.getElem?_eq_some_iff.mp h1).1 X.nd).mp (h1.trans e1.symm))
    simp only [if_neg this]
    exact e2

/-- a numbered list more -/
theorem St.alloc (S : St h₀ ψ φ μ h) {xs : List PyData} {vs : List Value} (hv : VRs ψ h xs vs) :
    St h₀ (h.objs.size :: ψ) (φ ++ [h.objs.size]) (μ ++ [xs]) (h.push { cls := .type "list", data := .seq vs.toArray }) := by
  have kp : Keep [] h (h.push { cls := .type "list", data := .seq vs.toArray }) := .of fun _ _ e => Heap.get?_push_of_some _ e
  have ks : ∀ a, a ∉ ψ → (∃ o, h.get? a = some o) → a ∉ (h.objs.size :: ψ) ∧ a ∉ ([] : List Addr) := fun a n ⟨o, e⟩ => ⟨fun m => by
    rcases List.mem_cons.mp m with rfl | m
    · exact absurd (Heap.lt_size e) (Nat.lt_irrefl _)
    · exact n m, fun m => nomatch m⟩
  have ha : h.objs.size ∉ φ := fun m => S.fresh (S.sub _ m)
  have hp : (h.push { cls := .type "list", data := .seq vs.toArray }).PlainList h.objs.size vs.toArray := ⟨0, Heap.get?_push_size _ rfl⟩
  refine ⟨fun b o e => Heap.get?_push_of_some _ (S.base b o e), fun b hb => ?_, fun b hb => ?_, fun b hb => ?_, ?_, by simp [S.len], fun i b ys e q => ?_⟩
  · rcases List.mem_cons.mp hb with rfl | hb
    · cases q : h₀.get? h.objs.size with
      | none => rfl
      | some o => exact absurd (Heap.lt_size (S.base _ _ q)) (Nat.lt_irrefl _)
    · exact S.off b hb
  · rcases List.mem_cons.mp hb with rfl | hb
    · exact ⟨_, Heap.get?_push_size _ rfl⟩
    · obtain ⟨o, e⟩ := S.live b hb; exact ⟨o, Heap.get?_push_of_some _ e⟩
  · rcases List.mem_append.mp hb with hb | hb
    · exact .tail _ (S.sub b hb)
    · rw [List.mem_singleton.mp hb]; exact .head _
  · exact List.nodup_append.mpr ⟨S.nd, by simp, fun x hx y hy => by rw [List.mem_singleton.mp hy]; exact fun z => ha (z ▸ hx)⟩
  · by_cases hi : i < φ.length
    · rw [List.getElem?_append_left hi] at e
      rw [List.getElem?_append_left (S.len ▸ hi)] at q
      obtain ⟨us, hu, hr⟩ := S.lst i b ys e q
      exact ⟨us, hu.at fun o e => Heap.get?_push_of_some _ e, hr.keep kp ks⟩
    · rw [List.getElem?_append_right (Nat.le_of_not_lt hi)] at e
      rw [List.getElem?_append_right (S.len ▸ Nat.le_of_not_lt hi)] at q
      have e0 : i - φ.length = 0 := by
        cases hq : i - φ.length with
        | zero => rfl
        | succ n => rw [hq] at e; cases e
      rw [e0] at e
      rw [← S.len, e0] at q
      cases e; cases q
      exact ⟨vs.toArray, hp, by simpa using hv.keep kp ks⟩
theorem Loc.alloc (S : St h₀ ψ φ μ h) (X : Loc names L ψ φ ρ h) (o : Obj) : Loc names L (h.objs.size :: ψ) (φ ++ [h.objs.size]) ρ (h.push o) := by
  obtain ⟨m, hn, hp, hl, hm⟩ := X
  have hLs : L ≠ h.objs.size := Nat.ne_of_lt hn.lt
  refine ⟨m, hn.push o, .tail _ hp, fun q => ?_, fun i mv e => ?_⟩
  · rcases List.mem_append.mp q with q | q
    · exact hl q
    · exact hLs (List.mem_singleton.mp q)
  · obtain ⟨x, v, e1, e2, e3⟩ := hm i mv e
    refine ⟨x, v, e1, e2, ?_⟩
    cases mv with
    | d y => exact VR.keep (κ := []) (.of fun _ _ e => Heap.get?_push_of_some _ e) (fun a n ⟨o, e⟩ => ⟨fun m => by
        rcases List.mem_cons.mp m with rfl | m
        · exact absurd (Heap.lt_size e) (Nat.lt_irrefl _)
        · exact n m, fun m => nomatch m⟩) e3
    | r j =>
      obtain ⟨a, rfl, ha⟩ := e3
      exact ⟨a, rfl, by rw [List.getElem?_append_left (List.getElem?_eq_some_iff.mp ha).1]; exact ha⟩
end

theorem notComp_swaps {v t : Expr} {n : Nat} {env : Env} (h : notComp v = true) : swapsWith v (some t) n env = pure false := by
  cases v <;> first | rfl | cases h
theorem notComp_sole {v t : Expr} {n : Nat} {env : Env} (h : notComp v = true) : swapsWithSole [t] v n env = pure false := notComp_swaps h
theorem notComp_swapped {v : Expr} {ts : List Expr} {k : Nat} {p : Pos} {env : Env} (h : (match v with | .Tuple .. => false | _ => true) = true) : swappedStores [.Tuple ts k p] v env = pure none := by
  cases v <;> first | rfl | cases h

theorem each_names {C : MC} {env : Env} : ∀ {is : List Nat} {ts : List Expr}, namesOk C is ts = true → (assignEach ts env).length = is.length ∧ (assignEach ts env).findIdx? (·.1) = none
  | [], [], _ => ⟨rfl, rfl⟩
  | [], _ :: _, h => by cases h
  | i :: is, ts, h => by
    unfold namesOk at h
    split at h
    · rename_i x p xs
      simp only [Bool.and_eq_true] at h
      obtain ⟨h1, h2⟩ := each_names (env := env) h.2
      refine ⟨by show (_ :: assignEach xs env).length = _; rw [List.length_cons, h1]; rfl, ?_⟩
      show List.findIdx? _ ((false, assign (.Name x p) env) :: assignEach xs env) = none
      rw [List.findIdx?_cons, h2]; rfl
    · cases h

/-- a, b, c = the items of a tuple -/
theorem unpack_sound {X : Cx prog w} {ψ φ : List Addr} {μ : Mu} {L f : Addr} {cd : Value} {nm : Str} {A : Around} {E : Value → Shared → Prop} :
    ∀ (is : List Nat) (ts : List Expr) (xs : List PyData) (vs : List Value) (ρ ρ' : Rho) (s : Shared) (Q : Unit → Shared → Prop), namesOk X.C is ts = true → setAll is xs ρ = some ρ' → VRs ψ s.heap xs vs → St X.h₀ ψ φ μ s.heap → Loc X.C.names L ψ φ ρ s.heap →
    (∀ h' tk, St X.h₀ ψ φ μ h' → Loc X.C.names L ψ φ ρ' h' → Keep [L] s.heap h' → Q () { s with heap := h', toks := tk }) →
    wpAny (model prog w) A (assignInOrder ((assignEach ts (envOf nm X.C.scope L f cd)).map (·.2)) vs) Q E s
  | [], [], xs, vs, ρ, ρ', s, Q, _, hs, hv, S, hL, k => by
    cases xs with
    | nil => cases hs; cases hv; exact wpAny_assignInOrder_none (k s.heap s.toks S hL (Keep.refl _ _))
    | cons => cases hs
  | [], _ :: _, _, _, _, _, _, _, h, _, _, _, _, _ => by cases h
  | i :: is, ts, xs, vs, ρ, ρ', s, Q, hn, hs, hv, S, hL, k => by
    unfold namesOk at hn
    split at hn
    · rename_i x p ts'
      simp only [Bool.and_eq_true] at hn
      cases xs with
      | nil => cases hs
      | cons y ys =>
        obtain ⟨v, ws, rfl, hv1, hv2⟩ := hv
        refine wpAny_assignInOrder_more (t := assign (.Name x p) _) (wpAny_assign_Name (store_sound (mv := .d y) S hL hn.1 hv1 fun h' tk S' hL' k' => ?_))
        have ks : ∀ a ∈ [L], a ∈ ψ := fun a m => List.mem_singleton.mp m ▸ hL.inψ
        exact unpack_sound is ts' ys ws _ ρ' { s with heap := h', toks := tk } Q hn.2 hs (hv2.kept k' ks) S' hL' fun h'' tk' S'' hL'' k'' => k h'' tk' S'' hL'' (k'.trans k'')
    · cases hn
end Mini

namespace Mini
open PySem PySem.Spec PySem.Calls PyProof.Rows
variable {prog : Program} {w : World}

theorem sub_lift {ψ : List Addr} {L : Addr} (h : L ∈ ψ) : ∀ a ∈ [L], a ∈ ψ := fun _ m => List.mem_singleton.mp m ▸ h
theorem Keep.toL {φ : List Addr} {L : Addr} {h h' h'' : Heap} (k : Keep φ h h') (k' : Keep [L] h' h'') : Keep (L :: φ) h h'' :=
  (k.more fun _ m => .tail _ m).trans (k'.more fun _ m => List.mem_singleton.mp m ▸ .head _)

/-- the loop's iterator is let go -/
theorem St.drop {h₀ h h' : Heap} {ψ φ : List Addr} {μ : Mu} {I : Addr} (S : St h₀ ψ φ μ h) (hI : I ∉ φ) (hp : I ∈ ψ) (k : Keep [I] h h') : St h₀ (ψ.filter (· ≠ I)) φ μ h' := by
  have ks : ∀ a, a ∉ ψ → (∃ o, h.get? a = some o) → a ∉ ψ.filter (· ≠ I) ∧ a ∉ [I] := fun a n _ => ⟨fun m => n (List.mem_filter.mp m).1, fun m => n (List.mem_singleton.mp m ▸ hp)⟩
  refine ⟨fun b o e => k b o (S.base b o e) fun m => ?_, fun a m => S.off a (List.mem_filter.mp m).1, fun a m => ?_, fun a m => ?_, S.nd, S.len, fun i a xs e q => ?_⟩
  · rw [List.mem_singleton.mp m, S.off I hp] at e; cases e
  · obtain ⟨m1, m2⟩ := List.mem_filter.mp m
    obtain ⟨o, e⟩ := S.live a m1
    exact ⟨o, k a o e fun q => by simp [List.mem_singleton.mp q] at m2⟩
  · exact List.mem_filter.mpr ⟨S.sub a m, by simpa using fun e : a = I => hI (e ▸ m)⟩
  · obtain ⟨vs, hq, hv⟩ := S.lst i a xs e q
    exact ⟨vs, hq.at fun o ho => k a o ho fun m => hI (List.mem_singleton.mp m ▸ List.mem_of_getElem? e), hv.keep k ks⟩
theorem Loc.drop {names : List Str} {L : Addr} {ψ φ : List Addr} {ρ : Rho} {h h' : Heap} {I : Addr} (X : Loc names L ψ φ ρ h) (hI : L ≠ I) (hp : I ∈ ψ) (k : Keep [I] h h') : Loc names L (ψ.filter (· ≠ I)) φ ρ h' := by
  obtain ⟨m, hn, hp', hl, hm⟩ := X
  have ks : ∀ a, a ∉ ψ → (∃ o, h.get? a = some o) → a ∉ ψ.filter (· ≠ I) ∧ a ∉ [I] := fun a n _ => ⟨fun m => n (List.mem_filter.mp m).1, fun m => n (List.mem_singleton.mp m ▸ hp)⟩
  refine ⟨m, ?_, List.mem_filter.mpr ⟨hp', by simpa using hI⟩, hl, fun i mv e => ?_⟩
  · obtain ⟨o, es, ep, ho, r⟩ := hn
    exact ⟨o, es, ep, k _ _ ho fun m => hI (List.mem_singleton.mp m), r⟩
  · obtain ⟨x, v, h1, h2, h3⟩ := hm i mv e
    refine ⟨x, v, h1, h2, ?_⟩
    cases mv with
    | d y => exact VR.keep k ks h3
    | r j => exact h3
/-- a new object that is no list of the run's -/
theorem St.hold {h₀ h : Heap} {ψ φ : List Addr} {μ : Mu} (S : St h₀ ψ φ μ h) (o : Obj) (hf : o.isFreed = false) : St h₀ (h.objs.size :: ψ) φ μ (h.push o) := by
  have ks : ∀ a, a ∉ ψ → (∃ o, h.get? a = some o) → a ∉ (h.objs.size :: ψ) ∧ a ∉ ([] : List Addr) := fun a n ⟨o, e⟩ => ⟨fun m => by
    rcases List.mem_cons.mp m with rfl | m
    · exact absurd (Heap.lt_size e) (Nat.lt_irrefl _)
    · exact n m, fun m => nomatch m⟩
  refine ⟨fun b o e => Heap.get?_push_of_some _ (S.base b o e), fun b hb => ?_, fun b hb => ?_, fun b hb => .tail _ (S.sub b hb), S.nd, S.len, fun i a xs e q => ?_⟩
  · rcases List.mem_cons.mp hb with rfl | hb
    · cases q : h₀.get? h.objs.size with
      | none => rfl
      | some o => exact absurd (Heap.lt_size (S.base _ _ q)) (Nat.lt_irrefl _)
    · exact S.off b hb
  · rcases List.mem_cons.mp hb with rfl | hb
    · exact ⟨_, Heap.get?_push_size _ hf⟩
    · obtain ⟨o, e⟩ := S.live b hb; exact ⟨o, Heap.get?_push_of_some _ e⟩
  · obtain ⟨vs, hq, hv⟩ := S.lst i a xs e q
    exact ⟨vs, hq.at fun o ho => Heap.get?_push_of_some _ ho, hv.keep (κ := []) (.of fun _ _ e => Heap.get?_push_of_some _ e) ks⟩
theorem Loc.hold {names : List Str} {L : Addr} {ψ φ : List Addr} {ρ : Rho} {h : Heap} (X : Loc names L ψ φ ρ h) (o : Obj) : Loc names L (h.objs.size :: ψ) φ ρ (h.push o) := by
  obtain ⟨m, hn, hp, hl, hm⟩ := X
  refine ⟨m, hn.push o, .tail _ hp, hl, fun i mv e => ?_⟩
  obtain ⟨x, v, e1, e2, e3⟩ := hm i mv e
  refine ⟨x, v, e1, e2, ?_⟩
  cases mv with
  | d y => exact VR.keep (κ := []) (.of fun _ _ e => Heap.get?_push_of_some _ e) (fun a n ⟨o, e⟩ => ⟨fun m => by
      rcases List.mem_cons.mp m with rfl | m
      · exact absurd (Heap.lt_size e) (Nat.lt_irrefl _)
      · exact n m, fun m => nomatch m⟩) e3
  | r j => exact e3
theorem fits_small {k : Int} (h0 : 0 ≤ k) (h1 : k < 4611686018427387904) : Builtin.List.listFitsIndex k = true := by
  unfold Builtin.List.listFitsIndex
  simp
  omega

section loops
variable {X : Cx prog w}
/-- a while, by the run of its Mini form -/
theorem while_sound {test : Expr} {body : List Stmt} {pos : Pos} {t : Rho → Mu → Option (Bool × Mu)} {b : Rho → Mu → Option (Out × Rho × Mu)} (ht : SB X test t) (hb : SSt X (execs body) b) (n : Nat) : SSt X (exec (.While test body [] pos)) (whileF t b n) := by
  intro ρ μ q h A s ψ φ L f cd nm E Q hR S hL k
  refine wpAny_While (codeAny_whileLoop (fun n s' => ∃ ρ₁ μ₁ ψ₁ φ₁ h₁ tk₁, s' = { s with heap := h₁, toks := tk₁ } ∧ whileF t b n ρ₁ μ₁ = some q ∧ Ext ψ φ ψ₁ φ₁ s.heap ∧ St X.h₀ ψ₁ φ₁ μ₁ h₁ ∧ Loc X.C.names L ψ₁ φ₁ ρ₁ h₁ ∧ Keep (L :: φ) s.heap h₁) ?_ n
    ⟨ρ, μ, ψ, φ, s.heap, s.toks, rfl, h, Ext.refl _ _ _, S, hL, Keep.refl _ _⟩)
  rintro n s' ⟨ρ₁, μ₁, ψ₁, φ₁, h₁, tk₁, rfl, hw, x₁, S₁, hL₁, k₁⟩
  cases n with
  | zero => cases hw
  | succ n =>
    simp only [whileF, Option.bind_eq_some_iff] at hw
    obtain ⟨p, hp, hw⟩ := hw
    refine ht ρ₁ μ₁ p hp A _ ψ₁ φ₁ L f cd nm _ _ hR S₁ hL₁ fun h₂ tk₂ S₂ k₂ => ?_
    have k12 : Keep (L :: φ) s.heap h₂ := k₁.ext x₁ (k₂.more fun _ m => .tail _ m)
    cases hpb : p.1 with
    | false =>
      rw [hpb] at hw
      simp only [Bool.false_eq_true, if_false, Option.some.injEq] at hw ⊢
      subst hw
      exact wpAny_execs_nil (k .next ψ₁ φ₁ h₂ tk₂ rfl x₁ S₂ (hL₁.kept k₂ S₁.sub) k12)
    | true =>
      rw [hpb] at hw
      simp only [if_true, Option.bind_eq_some_iff] at hw ⊢
      obtain ⟨r, hr, hw⟩ := hw
      refine hb ρ₁ p.2 r hr A _ ψ₁ φ₁ L f cd nm _ _ hR S₂ (hL₁.kept k₂ S₁.sub) fun fl ψ₃ φ₃ h₃ tk₃ hfl x₃ S₃ hL₃ k₃ => ?_
      have x13 : Ext ψ φ ψ₃ φ₃ s.heap := x₁.trans x₃ (live_of k12 S₂ (fun a m => x₁.sub a (S.sub a m)) hL₁.inψ)
      have k13 : Keep (L :: φ) s.heap h₃ := k12.ext x₁ k₃
      cases hro : r.1 with
      | next =>
        rw [hro] at hw hfl
        cases hfl
        exact ⟨n, Nat.lt_succ_self n, r.2.1, r.2.2, ψ₃, φ₃, h₃, tk₃, rfl, hw, x13, S₃, hL₃, k13⟩
      | ret v =>
        rw [hro] at hw hfl
        obtain ⟨u, rfl, hu⟩ := hfl
        cases hw
        exact k (.ret u) ψ₃ φ₃ h₃ tk₃ ⟨u, rfl, hu⟩ x13 S₃ hL₃ k13

theorem mem_ext {ψ φ ψ' φ' : List Addr} {h : Heap} (x : Ext ψ φ ψ' φ' h) {I : Addr} (hI : I ∉ φ) (hl : ∃ o, h.get? I = some o) : I ∉ φ' := fun m => by
  obtain ⟨e, rfl, he⟩ := x.app
  rcases List.mem_append.mp m with m | m
  · exact hI m
  · obtain ⟨o, ho⟩ := hl; rw [he I m] at ho; cases ho

/-- for x in range(e) -/
theorem for_sound {x : Str} {px pr rp pos : Pos} {e : Expr} {body : List Stmt} {i : Nat} {se : Rho → Mu → Option (MV × Mu)} {b : Rho → Mu → Option (Out × Rho × Mu)} (hx : X.C.loc i x = true) (hg : X.C.glob "range" = true) (hst : notStar e = true)
    (he : SE X e se) (hb : SSt X (execs body) b) :
    SSt X (exec (.For (.Name x px) (.Call (.Name "range" pr) [e] [] rp) body [] pos)) fun ρ μ => (se ρ μ).bind fun p => match p.1 with | .d (.int k) => if 0 ≤ k ∧ k < 4611686018427387904 then forF i b k.toNat 0 ρ p.2 else none | _ => none := by
  intro ρ μ q h A s ψ φ L f cd nm E Q hR S hL k
  obtain ⟨p, hp, h⟩ := Option.bind_eq_some_iff.mp h
  split at h
  · rename_i N hN
    split at h
    · rename_i hlt
      refine wpAny_For ?_
      refine wpAny_Call_NameR (ld_bi (v := .type "range") S.base hg (by simp [builtinsUsed]) ?_)
      rw [star_cons hst, back_cons]
      refine PySem.callWith_type rfl (evalArgs_plain (spliced_cons (he ρ μ p hp A s ψ φ L f cd nm E _ hR S hL fun v h₁ tk₁ hv S₁ k₁ => spliced_nil ?_)))
      rw [hN] at hv
      obtain ⟨t, rfl⟩ := hv
      refine call_range_1 (wpAny_pyIter_range (IsRange.new ..) (small_one (by decide) (by decide) (by omega) hlt.2) ?_)
      have hsz : Builtin.Range.rangeSize 0 N 1 = (N.toNat : Int) := by rw [rangeSize_one]; split <;> omega
      rw [hsz]
      have S₂ := (S₁.push ({ cls := .type "range", data := .fields #[.int 0 tk₁, .int N t, .int 1 (tk₁ + 1)] } : Obj)).hold ({ cls := .type "range_iterator", data := .fields #[rawInt 0, rawInt (N.toNat : Int), rawInt 1] } : Obj) rfl
      have hL₂ := ((hL.kept k₁ S.sub).keptBy (κ := []) (Keep.of fun _ _ e => Heap.get?_push_of_some ({ cls := .type "range", data := .fields #[.int 0 tk₁, .int N t, .int 1 (tk₁ + 1)] } : Obj) e) (fun _ m => nomatch m) (fun m => nomatch m)).hold ({ cls := .type "range_iterator", data := .fields #[rawInt 0, rawInt (N.toNat : Int), rawInt 1] } : Obj)
      have k₂ : Keep φ s.heap ((h₁.push ({ cls := .type "range", data := .fields #[.int 0 tk₁, .int N t, .int 1 (tk₁ + 1)] } : Obj)).push ({ cls := .type "range_iterator", data := .fields #[rawInt 0, rawInt (N.toNat : Int), rawInt 1] } : Obj)) := (k₁.push _).push _
      have hit : IsRangeIter ((h₁.push ({ cls := .type "range", data := .fields #[.int 0 tk₁, .int N t, .int 1 (tk₁ + 1)] } : Obj)).push ({ cls := .type "range_iterator", data := .fields #[rawInt 0, rawInt (N.toNat : Int), rawInt 1] } : Obj)) (h₁.push ({ cls := .type "range", data := .fields #[.int 0 tk₁, .int N t, .int 1 (tk₁ + 1)] } : Obj)).objs.size 0 (N.toNat : Int) 1 := Heap.get?_push_size _ rfl
      have hIs : s.heap.get? (h₁.push ({ cls := .type "range", data := .fields #[.int 0 tk₁, .int N t, .int 1 (tk₁ + 1)] } : Obj)).objs.size = none := by
        cases hq : s.heap.get? (h₁.push ({ cls := .type "range", data := .fields #[.int 0 tk₁, .int N t, .int 1 (tk₁ + 1)] } : Obj)).objs.size with
        | none => rfl
        | some o =>
          exfalso
          have hn : (h₁.push ({ cls := .type "range", data := .fields #[.int 0 tk₁, .int N t, .int 1 (tk₁ + 1)] } : Obj)).objs.size ∉ φ := fun m => (S₁.push _).fresh (S.sub _ m)
          exact absurd (Heap.lt_size ((k₁.push _) _ _ hq hn)) (Nat.lt_irrefl _)
      have hIφ : (h₁.push ({ cls := .type "range", data := .fields #[.int 0 tk₁, .int N t, .int 1 (tk₁ + 1)] } : Obj)).objs.size ∉ φ := fun m => (S₁.push _).fresh (S.sub _ m)
      generalize hI : (h₁.push ({ cls := .type "range", data := .fields #[.int 0 tk₁, .int N t, .int 1 (tk₁ + 1)] } : Obj)).objs.size = I at *
      show codeAny (model prog w) A (.forLoop (.Name x px) (.ref I) body [] _) _ _
      refine codeAny_forLoop (fun r s' => ∃ kk ρ₁ μ₁ ψ₁ φ₁ h₁ tk₁, s' = { s with heap := h₁, toks := tk₁ } ∧ forF i b r kk ρ₁ μ₁ = some q ∧ I ∈ ψ₁ ∧ I ∉ φ₁ ∧ IsRangeIter h₁ I kk (r : Int) 1 ∧ Ext ψ φ ψ₁ φ₁ s.heap ∧ St X.h₀ ψ₁ φ₁ μ₁ h₁ ∧ Loc X.C.names L ψ₁ φ₁ ρ₁ h₁ ∧ Keep (L :: φ) s.heap h₁) ?_ N.toNat
        ⟨0, ρ, p.2, I :: ψ, φ, _, _, rfl, h, List.mem_cons_self, hIφ, hit, ⟨fun _ m => List.mem_cons_of_mem _ m, fun a m => by
          rcases List.mem_cons.mp m with rfl | m
          · exact .inr hIs
          · exact .inl m, [], by simp, fun _ m => nomatch m⟩, S₂, hL₂, k₂.more fun _ m => List.mem_cons_of_mem _ m⟩
      rintro r s' ⟨kk, ρ₁, μ₁, ψ₁, φ₁, h₁, tk₁, rfl, hw, hI1, hI2, hit₁, x₁, S₁, hL₁, k₁⟩
      have hLI : L ≠ I := fun e => by
        subst e
        obtain ⟨o, ho⟩ := hL.live
        rw [hIs] at ho; cases ho
      cases r with
      | zero =>
        refine wpAny_pyNext_range_end hR.handled hit₁ (by simp) fun h₂ he₂ => ?_
        cases hw
        have kI : Keep [I] h₁ h₂ := fun b o e n => he₂ b o (fun q => n (q ▸ List.mem_singleton.mpr rfl)) e
        refine wpAny_execs_nil (k .next (ψ₁.filter (· ≠ I)) φ₁ h₂ tk₁ rfl ⟨fun a m => ?_, fun a m => x₁.new a (List.mem_filter.mp m).1, x₁.app⟩ (S₁.drop hI2 hI1 kI) (hL₁.drop hLI hI1 kI) fun b o e n => ?_)
        · refine List.mem_filter.mpr ⟨x₁.sub a m, ?_⟩
          have : a ≠ I := fun e => by
            subst e
            obtain ⟨o, ho⟩ := S.live _ m
            rw [hIs] at ho; cases ho
          simpa using this
        · refine kI b o (k₁ b o e n) fun m => ?_
          rw [List.mem_singleton.mp m, hIs] at e; cases e
      | succ r =>
        simp only [forF, Option.bind_eq_some_iff] at hw
        obtain ⟨u, hu, hw⟩ := hw
        refine wpAny_pyNext_range_item hit₁ (by omega) fun h₂ hit₂ hs₂ => ?_
        have kI : Keep [I] h₁ h₂ := fun b o e n => (hs₂.2 b (fun q => n (q ▸ List.mem_singleton.mpr rfl))).trans e
        have S₂ := S₁.other hI1 hI2 ⟨_, hit₂⟩ hs₂
        have hL₂ := hL₁.keptBy kI (sub_lift hI1) (fun m => hLI (List.mem_singleton.mp m))
        refine wpAny_assign_Name (store_sound (mv := .d (.int kk)) (s := { s with heap := h₂, toks := tk₁ + 1 }) S₂ hL₂ hx ⟨_, rfl⟩ fun h₃ tk₃ S₃ hL₃ k₃ => ?_)
        refine hb _ _ u hu A _ ψ₁ φ₁ L f cd nm _ _ hR S₃ hL₃ fun fl ψ₄ φ₄ h₄ tk₄ hfl x₄ S₄ hL₄ k₄ => ?_
        have k2 : Keep (L :: φ) s.heap h₂ := fun b o e n => kI b o (k₁ b o e n) fun m => by rw [List.mem_singleton.mp m, hIs] at e; cases e
        have k3 : Keep (L :: φ) s.heap h₃ := k2.trans (k₃.more fun _ m => List.mem_singleton.mp m ▸ .head _)
        have x14 : Ext ψ φ ψ₄ φ₄ s.heap := x₁.trans x₄ (live_of k3 S₃ (fun a m => x₁.sub a (S.sub a m)) hL₃.inψ)
        have k14 : Keep (L :: φ) s.heap h₄ := k3.ext x₁ k₄
        have hit3 : IsRangeIter h₃ I (kk + 1) ((r + 1 : Nat) - 1 : Int) 1 := k₃ _ _ hit₂ fun m => hLI (List.mem_singleton.mp m).symm
        have hit4 : IsRangeIter h₄ I (kk + 1) ((r + 1 : Nat) - 1 : Int) 1 := k₄ _ _ hit3 fun m => by
          rcases List.mem_cons.mp m with e | m
          · exact hLI e.symm
          · exact hI2 m
        have er : (((r + 1 : Nat) : Int) - 1) = (r : Int) := by omega
        rw [er] at hit4
        cases hro : u.1 with
        | next =>
          rw [hro] at hw hfl
          cases hfl
          exact ⟨r, Nat.lt_succ_self r, kk + 1, u.2.1, u.2.2, ψ₄, φ₄, h₄, tk₄, rfl, hw, x₄.sub I hI1, mem_ext x₄ hI2 ⟨_, hit3⟩, hit4, x14, S₄, hL₄, k14⟩
        | ret v =>
          rw [hro] at hw hfl
          obtain ⟨z, rfl, hz⟩ := hfl
          cases hw
          exact k (.ret z) ψ₄ φ₄ h₄ tk₄ ⟨z, rfl, hz⟩ x14 S₄ hL₄ k14
    · cases h
  · cases h
end loops

set_option maxHeartbeats 1000000 in
mutual
theorem soundS (X : Cx prog w) : ∀ (ms : MS) (st : Stmt), matchS X.C ms st = true → SSt X (exec st) (evS X.F ms)
  | .assign i e, st, hm => by
    unfold matchS at hm
    split at hm
    · intro ρ μ q h A s ψ φ L f cd nm E Q hR S hL k
      simp only [Bool.and_eq_true] at hm
      obtain ⟨⟨hx, hc⟩, he⟩ := hm
      simp only [evS, Option.map_eq_some_iff] at h
      obtain ⟨p, h1, rfl⟩ := h
      refine wpAny_Assign_Name (soundE X e _ he ρ μ p h1 A s ψ φ L f cd nm E _ hR S hL fun v h' tk hv S' k' => ?_) (notComp_swaps hc)
      exact store_sound (s := { s with heap := h', toks := tk }) S' (hL.kept k' S.sub) hx hv fun h'' tk' S'' hL'' k'' => k .next ψ φ h'' tk' rfl (Ext.refl _ _ _) S'' hL'' (k'.toL k'')
    · cases hm
  | .newlist i es, st, hm => by
    unfold matchS at hm
    split at hm
    · intro ρ μ q h A s ψ φ L f cd nm E Q hR S hL k
      simp only [Bool.and_eq_true] at hm
      obtain ⟨hx, he⟩ := hm
      simp only [evS, Option.bind_eq_some_iff] at h
      obtain ⟨p, h1, xs, hxs, h⟩ := h
      split at h
      · cases h
        rename_i hs
        refine wpAny_Assign_Name (wpAny_List (soundL X es _ he ρ μ p h1 A s ψ φ L f cd nm _ E _ hR S hL fun vs h' tk hv S' k' => ⟨?_, ?_⟩))
        · rw [hv.length, ← allD_length hxs]; exact hs
        · have hnew : s.heap.get? h'.objs.size = none := by
            cases hq : s.heap.get? h'.objs.size with
            | none => rfl
            | some o => exact absurd (Heap.lt_size (k' _ _ hq fun m => S'.fresh (S.sub _ m))) (Nat.lt_irrefl _)
          refine store_sound (s := { s with heap := h'.push { cls := .type "list", data := .seq vs.toArray }, toks := tk }) (mv := .r p.2.length) (S'.alloc (hv.allD hxs)) (Loc.alloc S' (hL.kept k' S.sub) _) hx ⟨_, rfl, ?_⟩ fun h'' tk' S'' hL'' k'' => ?_
          · rw [← S'.len, List.getElem?_append_right (Nat.le_refl _), Nat.sub_self]; rfl
          · refine k .next _ _ h'' tk' rfl ⟨fun _ m => .tail _ m, fun a m => ?_, [h'.objs.size], rfl, fun a m => by rw [List.mem_singleton.mp m]; exact hnew⟩ S'' hL'' ((k'.push _).toL k'')
            rcases List.mem_cons.mp m with rfl | m
            · exact .inr hnew
            · exact .inl m
      · cases h
    · cases hm
  | .unpack is e, st, hm => by
    unfold matchS at hm
    split at hm
    · intro ρ μ q h A s ψ φ L f cd nm E Q hR S hL k
      simp only [Bool.and_eq_true] at hm
      obtain ⟨⟨⟨hn, hc⟩, ht⟩, he⟩ := hm
      simp only [evS, Option.bind_eq_some_iff] at h
      obtain ⟨p, h1, h⟩ := h
      split at h
      · rename_i xs hp
        obtain ⟨ρ', hρ, rfl⟩ := Option.map_eq_some_iff.mp h
        refine Assign_Tuple (soundE X e _ he ρ μ p h1 A s ψ φ L f cd nm E _ hR S hL fun v h' tk hv S' k' => ?_) (notComp_sole hc) (notComp_swapped ht)
        rw [hp] at hv
        obtain ⟨a, vs, rfl, htup, hna, hvs⟩ := hv
        have hlen : (assignEach _ (envOf nm X.C.scope L f cd)).length = is.length := (each_names hn).1
        have hsl : ∀ (is : List Nat) (xs : List PyData) (ρ ρ' : Rho), setAll is xs ρ = some ρ' → is.length = xs.length := by
          intro is
          induction is with
          | nil => intro xs ρ ρ' h; cases xs with
            | nil => rfl
            | cons => cases h
          | cons i is ih => intro xs ρ ρ' h; cases xs with
            | nil => cases h
            | cons x xs => rw [List.length_cons, List.length_cons, ih xs _ _ h]
        refine wpAny_assign_Tuple hR.handled htup (by rw [hlen, hsl _ _ _ _ hρ, hvs.size]) (each_names hn).2 fun h'' he'' => ?_
        have kg : ∀ b o, h'.get? b = some o → h''.get? b = some o := fun b o e => he'' b o (Nat.ne_of_lt (Heap.lt_size e)) e
        exact unpack_sound is _ xs vs.toList ρ ρ' { s with heap := h'', toks := tk } _ hn hρ (hvs.kept (κ := []) (.of kg) fun _ m => nomatch m) (S'.grow kg) ((hL.kept k' S.sub).keptBy (κ := []) (.of kg) (fun _ m => nomatch m) fun m => nomatch m)
          fun h3 tk3 S3 hL3 k3 => k .next ψ φ h3 tk3 rfl (Ext.refl _ _ _) S3 hL3 ((k'.trans (.of kg)).toL k3)
      · cases h
    · cases hm
  | .append i e, st, hm => by
    unfold matchS at hm
    split at hm
    · rename_i x px m apos y pos p0
      intro ρ μ q h A s ψ φ L f cd nm E Q hR S hL k
      simp only [Bool.and_eq_true, decide_eq_true_eq] at hm
      obtain ⟨⟨⟨⟨hx, rfl⟩, hline⟩, hst⟩, he⟩ := hm
      simp only [evS] at h
      split at h
      · rename_i j hj
        obtain ⟨p, h1, h⟩ := Option.bind_eq_some_iff.mp h
        split at h
        · rename_i x' xs hp hxs
          split at h
          · cases h
            rename_i hs
            refine wpAny_Expr_any (wpAny_Call_append rfl (by rw [star_cons hst]; rfl) (by simp [hline]) (by rw [star_cons hst]; rfl) ?_) (by show (X.C.scope.kind == .module && _) = false; rw [X.hk]; rfl)
            refine soundE X (.var i) (.Name x px) hx ρ μ (.r j, μ) (by simp [evE, hj]) A s ψ φ L f cd nm E _ hR S hL fun ov h' tk hv S' k' => ?_
            obtain ⟨a, rfl, ha⟩ := hv
            obtain ⟨ys, hys⟩ : ∃ ys, μ[j]? = some ys := by
              have := (List.getElem?_eq_some_iff.mp ha).1
              rw [S'.len] at this
              exact ⟨_, List.getElem?_eq_getElem this⟩
            obtain ⟨us, ⟨n, hus⟩, _⟩ := S'.lst j a ys ha hys
            refine ⟨a, us, rfl, ⟨_, n, hus, rfl, rfl, rfl⟩, ?_⟩
            refine soundE X e _ he ρ μ p h1 A { s with heap := h', toks := tk } ψ φ L f cd nm E _ hR S' (hL.kept k' S.sub) fun v h'' tk'' hv'' S'' k'' => ?_
            rw [hp] at hv''
            obtain ⟨vs, hvs, hvr⟩ := S''.lst j a xs ha hxs
            refine wpAny_list_append_plain hvs (fun h3 hp3 hs3 => ?_) (by rw [hvr.size]; exact hs)
            obtain ⟨S3, k3⟩ := S''.set (xs := xs ++ [x']) ha hp3 hs3 (by rw [Array.toList_push]; exact hvr.append (.one hv''))
            exact k .next ψ φ h3 tk'' rfl (Ext.refl _ _ _) S3 (hL.kept ((k'.trans k'').trans k3) S.sub) (((k'.trans k'').trans k3).more fun _ m => .tail _ m)
          · cases h
        · cases h
      · cases h
    · cases hm
  | .delat i e, st, hm => by
    unfold matchS at hm
    split at hm
    · rename_i x px kx p0 p1
      intro ρ μ q h A s ψ φ L f cd nm E Q hR S hL k
      simp only [Bool.and_eq_true] at hm
      obtain ⟨⟨hx, hsl⟩, he⟩ := hm
      simp only [evS] at h
      split at h
      · rename_i j hj
        obtain ⟨p, h1, h⟩ := Option.bind_eq_some_iff.mp h
        split at h
        · rename_i k0 xs hp hxs
          split at h
          · cases h
            rename_i hs
            refine wpAny_Delete (wpAny_deleteEach_cons (wpAny_delete_Subscript ?_))
            refine soundE X (.var i) (.Name x px) hx ρ μ (.r j, μ) (by simp [evE, hj]) A s ψ φ L f cd nm E _ hR S hL fun ov h' tk hv S' k' => ?_
            obtain ⟨a, rfl, ha⟩ := hv
            refine soundE X e _ he ρ μ p h1 A { s with heap := h', toks := tk } ψ φ L f cd nm E _ hR S' (hL.kept k' S.sub) fun v h'' tk'' hv'' S'' k'' => ?_
            rw [hp] at hv''
            obtain ⟨t, rfl⟩ := hv''
            obtain ⟨vs, hvs, hvr⟩ := S''.lst j a xs ha hxs
            refine wpAny_delItem_plain hvs (fits_small hs.1 (by omega)) (seqIndex_nat hs.1 (by rw [hvr.size]; omega)) (fun h3 hp3 hs3 => ?_) (by rw [hvr.size]; exact hs.2.2)
            obtain ⟨S3, k3⟩ := S''.set (xs := xs.eraseIdx k0.toNat) ha hp3 hs3 (by rw [Array.toList_eraseIdxIfInBounds]; exact hvr.erase _)
            exact wpAny_deleteEach_nil (k .next ψ φ h3 tk'' rfl (Ext.refl _ _ _) S3 (hL.kept ((k'.trans k'').trans k3) S.sub) (((k'.trans k'').trans k3).more fun _ m => .tail _ m))
          · cases h
        · cases h
      · cases h
    · cases hm
  | .ite c a b, st, hm => by
    unfold matchS at hm
    split at hm
    · intro ρ μ q h A s ψ φ L f cd nm E Q hR S hL k
      simp only [Bool.and_eq_true] at hm
      obtain ⟨⟨hc, ha⟩, hb⟩ := hm
      simp only [evS, Option.bind_eq_some_iff] at h
      obtain ⟨p, h1, h2⟩ := h
      refine wpAny_If (soundT X c _ hc ρ μ p h1 A s ψ φ L f cd nm E _ hR S hL fun h' tk S' k' => ?_)
      have fin : ∀ fl ψ' φ' h'' tk', Flows ψ' φ' h'' q.1 fl → Ext ψ φ ψ' φ' h' → St X.h₀ ψ' φ' q.2.2 h'' → Loc X.C.names L ψ' φ' q.2.1 h'' → Keep (L :: φ) h' h'' → Q fl { s with heap := h'', toks := tk' } := fun fl ψ' φ' h'' tk' hfl x S'' hL'' k'' =>
        k fl ψ' φ' h'' tk' hfl ((Ext.refl ψ φ s.heap).trans x (live_of (k'.more fun _ m => .tail _ m) S' S.sub hL.inψ)) S'' hL'' ((k'.more fun _ m => .tail _ m).trans k'')
      cases hp : p.1 with
      | true =>
        rw [hp] at h2
        simp only [if_true] at h2 ⊢
        exact soundSs X a _ ha ρ p.2 q h2 A { s with heap := h', toks := tk } ψ φ L f cd nm E Q hR S' (hL.kept k' S.sub) fin
      | false =>
        rw [hp] at h2
        simp only [Bool.false_eq_true, if_false] at h2 ⊢
        exact soundSs X b _ hb ρ p.2 q h2 A { s with heap := h', toks := tk } ψ φ L f cd nm E Q hR S' (hL.kept k' S.sub) fin
    · cases hm
  | .whl n c b, st, hm => by
    unfold matchS at hm
    split at hm
    · simp only [Bool.and_eq_true] at hm
      intro ρ μ q h
      simp only [evS] at h
      exact while_sound (soundT X c _ hm.1) (soundSs X b _ hm.2) (n ρ μ) ρ μ q h
    · cases hm
  | .forr i e b, st, hm => by
    unfold matchS at hm
    split at hm
    · simp only [Bool.and_eq_true, decide_eq_true_eq] at hm
      obtain ⟨⟨⟨⟨⟨hx, rfl⟩, hg⟩, hst⟩, he⟩, hb⟩ := hm
      intro ρ μ q h
      simp only [evS] at h
      exact for_sound hx hg hst (soundE X e _ he) (soundSs X b _ hb) ρ μ q h
    · cases hm
  | .ret e, st, hm => by
    unfold matchS at hm
    split at hm
    · intro ρ μ q h A s ψ φ L f cd nm E Q hR S hL k
      simp only [evS, Option.map_eq_some_iff] at h
      obtain ⟨p, h1, rfl⟩ := h
      exact wpAny_Return_some (soundE X e _ hm ρ μ p h1 A s ψ φ L f cd nm E _ hR S hL fun v h' tk hv S' k' => k (.ret v) ψ φ h' tk ⟨v, rfl, hv⟩ (Ext.refl _ _ _) S' (hL.kept k' S.sub) (k'.more fun _ m => .tail _ m))
    · cases hm
theorem soundSs (X : Cx prog w) : ∀ (ms : MSs) (sts : List Stmt), matchSs X.C ms sts = true → SSt X (execs sts) (evSs X.F ms)
  | .nil, sts, hm => by
    unfold matchSs at hm
    split at hm
    · intro ρ μ q h A s ψ φ L f cd nm E Q hR S hL k
      simp only [evSs, Option.some.injEq] at h
      subst h
      exact wpAny_execs_nil (k .next ψ φ s.heap s.toks rfl (Ext.refl _ _ _) S hL (Keep.refl _ _))
    · cases hm
  | .cons m ms, sts, hm => by
    unfold matchSs at hm
    split at hm
    · rename_i st sts'
      intro ρ μ q h A s ψ φ L f cd nm E Q hR S hL k
      simp only [Bool.and_eq_true] at hm
      simp only [evSs, Option.bind_eq_some_iff] at h
      obtain ⟨r, h1, h2⟩ := h
      refine wpAny_execs_cons (soundS X m st hm.1 ρ μ r h1 A s ψ φ L f cd nm E _ hR S hL fun fl ψ' φ' h' tk hfl x S' hL' k' => ?_)
      cases hro : r.1 with
      | next =>
        rw [hro] at h2 hfl
        cases hfl
        exact soundSs X ms sts' hm.2 r.2.1 r.2.2 q h2 A { s with heap := h', toks := tk } ψ' φ' L f cd nm E Q hR S' hL' fun fl ψ'' φ'' h'' tk' hfl x' S'' hL'' k'' =>
          k fl ψ'' φ'' h'' tk' hfl (x.trans x' (live_of k' S' (fun a m => x.sub a (S.sub a m)) hL'.inψ)) S'' hL'' (k'.ext x k'')
      | ret v =>
        rw [hro] at h2 hfl
        cases h2
        obtain ⟨u, rfl, hu⟩ := hfl
        exact k (.ret u) ψ' φ' h' tk (by rw [hro]; exact ⟨u, rfl, hu⟩) x S' hL' k'
    · cases hm
end
end Mini

namespace Mini
open PySem PySem.Spec PySem.Calls PyProof.Rows
variable {prog : Program} {w : World}

theorem lookup_mem {β : Type} : ∀ {l : List (Str × β)} {y : Str} {v : β}, (l.map (·.1)).Nodup → (y, v) ∈ l → l.lookup y = some v
  | [], _, _, _, m => nomatch m
  | (z, u) :: r, y, v, nd, m => by
    rw [List.map_cons, List.nodup_cons] at nd
    rw [List.lookup_cons]
    rcases List.mem_cons.mp m with e | m'
    · cases e; simp
    · have : (y == z) = false := by
        rw [beq_eq_false_iff_ne]
        intro e
        subst e
        exact nd.1 (List.mem_map.mpr ⟨(y, v), m', rfl⟩)
      rw [this]
      exact lookup_mem nd.2 m'

section
variable {h₀ h h₁ : Heap} {ψ φ : List Addr} {μ : Mu}
theorem St.enter (S : St h₀ ψ φ μ h) {L : Addr} (k : ∀ b o, h.get? b = some o → h₁.get? b = some o) (hd : h.get? L = none) (hl : ∃ o, h₁.get? L = some o) : St h₀ (L :: ψ) φ μ h₁ := by
  have ks : ∀ a, a ∉ ψ → (∃ o, h.get? a = some o) → a ∉ (L :: ψ) ∧ a ∉ ([] : List Addr) := fun a n ⟨o, e⟩ => ⟨fun m => by
    rcases List.mem_cons.mp m with rfl | m
    · rw [hd] at e; cases e
    · exact n m, fun m => nomatch m⟩
  refine ⟨fun b o e => k b o (S.base b o e), fun b hb => ?_, fun b hb => ?_, fun b hb => .tail _ (S.sub b hb), S.nd, S.len, fun i a xs e q => ?_⟩
  · rcases List.mem_cons.mp hb with rfl | hb
    · cases q : h₀.get? b with
      | none => rfl
      | some o => rw [S.base _ _ q] at hd; cases hd
    · exact S.off b hb
  · rcases List.mem_cons.mp hb with rfl | hb
    · exact hl
    · obtain ⟨o, e⟩ := S.live b hb; exact ⟨o, k b o e⟩
  · obtain ⟨vs, hq, hv⟩ := S.lst i a xs e q
    exact ⟨vs, hq.at (k a), hv.keep (κ := []) (.of k) ks⟩
theorem St.leave {ψ' e : List Addr} {μ' : Mu} {h' : Heap} (S : St h₀ ψ' (φ ++ e) μ' h') (sub : ∀ a ∈ ψ, a ∈ ψ') (hφ : ∀ a ∈ φ, a ∈ ψ) : St h₀ ψ φ (μ'.take φ.length) h' := by
  have ks : ∀ a, a ∉ ψ' → (∃ o, h'.get? a = some o) → a ∉ ψ ∧ a ∉ ([] : List Addr) := fun a n _ => ⟨fun m => n (sub a m), fun m => nomatch m⟩
  have hlen := S.len
  rw [List.length_append] at hlen
  refine ⟨S.base, fun a m => S.off a (sub a m), fun a m => S.live a (sub a m), hφ, (List.nodup_append.mp S.nd).1, by rw [List.length_take]; omega, fun i a xs e1 q => ?_⟩
  have hi := (List.getElem?_eq_some_iff.mp e1).1
  rw [List.getElem?_take, if_pos hi] at q
  obtain ⟨vs, hp, hv⟩ := S.lst i a xs (by rw [List.getElem?_append_left hi]; exact e1) q
  exact ⟨vs, hp, hv.keep (κ := []) (Keep.refl _ _) ks⟩
end

structure Def (X : Cx prog w) (x : Str) (np nl : Nat) (ms : MSs) : Prop where
  it : ∃ a o params body pm code doc, X.mg x = some (.ref a) ∧ X.h₀.get? a = some o ∧ o.data = .func (docDef x params body X.C.scope pm code doc) ∧ X.h₀.CodeRec code x ∧
    matchSs X.C ms body = true ∧ (∀ vs : List Value, vs.length = np → bindArgs (docDef x params body X.C.scope pm code doc) ⟨vs, []⟩ = pure ((X.C.names.take np).zip vs))
  len : X.C.names.length = np + nl
  loc : ∀ y ∈ X.C.names.take np, X.C.scope.names.lookup y = some .local
  cell : ∀ y ∈ X.C.scope.names, y.2 ≠ .cell
  co : X.C.scope.isCoroutine = false
  gen : X.C.scope.isGenerator = false

theorem fn_ok {X : Cx prog w} {x : Str} {np nl : Nat} {ms : MSs} (D : Def X x np nl ms) : FnOK prog w X.h₀ X.mg (X.n + 1) x (fun args μ => if args.length = np then fnOf X.F nl ms args μ else none) := by
  obtain ⟨⟨a, o, params, body, pm, code, doc, hmg, ho, hd, hcd, hm, hbind⟩, hlen, hloc, hcell, hco, hgen⟩ := D
  refine ⟨a, o, _, hmg, ho, hd, fun A s ψ φ μ mvs vs d μ' R hR S hv hf k => ?_⟩
  simp only at hf
  split at hf
  · rename_i hn
    unfold fnOf at hf
    obtain ⟨q, hq, hf⟩ := Option.bind_eq_some_iff.mp hf
    have hvl : vs.length = np := by rw [hv.length, hn]
    have hR' : Room X.n (A.deeper (callEnv (docDef x params body X.C.scope pm code doc) s.heap.objs.size a)) := ⟨hR.handled, by have := hR.depth; show A.depth + 1 + X.n < _; omega, by have := hR.units; show A.units + 3 + 4 * X.n + 70 < _; omega⟩
    refine codeAny_call_def (by have := hR.depth; omega) (S.base a o ho) hd (X.G.nolimit.keeps S.base) (hcd.keeps S.base) rfl (BindsTo.of_eq (hbind vs hvl)) hcell (fun y hy => hloc y.1 ?_) (fun h₁ hns hk₁ => ?_) hco hgen X.hk
    · exact (List.of_mem_zip (b := y.2) hy).1
    · have hdead : s.heap.get? s.heap.objs.size = none := by
        cases hq : s.heap.get? s.heap.objs.size with
        | none => rfl
        | some o => exact absurd (Heap.lt_size hq) (Nat.lt_irrefl _)
      have S₁ : St X.h₀ (s.heap.objs.size :: ψ) φ μ h₁ := S.enter hk₁ hdead (let ⟨o, _, _, e, _⟩ := hns; ⟨o, e⟩)
      have hL₁ : Loc X.C.names s.heap.objs.size (s.heap.objs.size :: ψ) φ (mvs.map some ++ List.replicate nl none) h₁ := by
        refine ⟨_, hns, .head _, fun m => S.fresh (S.sub _ m), fun i mv e => ?_⟩
        have hi : i < mvs.length := by
          apply Nat.lt_of_not_le
          intro hge
          rw [List.getElem?_append_right (by simpa using hge), List.getElem?_replicate] at e
          split at e <;> cases e
        rw [List.getElem?_append_left (by simpa using hi), List.getElem?_map] at e
        obtain ⟨mv', e1, e2⟩ := Option.map_eq_some_iff.mp e
        cases e2
        obtain ⟨v, hv1, hv2⟩ := hv.get e1
        have hin : i < X.C.names.length := by omega
        refine ⟨X.C.names[i], v, List.getElem?_eq_getElem hin, ?_, ?_⟩
        · refine lookup_mem ?_ (List.mem_reverse.mpr ?_)
          · rw [List.map_reverse]
            refine List.pairwise_reverse.mpr (List.Pairwise.imp (fun h => Ne.symm h) ?_)
            rw [List.map_fst_zip (by rw [List.length_take, hvl]; omega)]
            exact X.nd.sublist (List.take_sublist _ _)
          · have hz : ((X.C.names.take np).zip vs)[i]? = some (X.C.names[i], v) := by
              rw [List.getElem?_zip_eq_some]
              exact ⟨by rw [List.getElem?_take, if_pos (by omega), List.getElem?_eq_getElem hin], hv1⟩
            exact List.mem_of_getElem? hz
        · cases mv with
          | d y => exact VR.keep (κ := []) (.of hk₁) (fun b n ⟨o, e⟩ => ⟨fun m => by
              rcases List.mem_cons.mp m with rfl | m
              · rw [hdead] at e; cases e
              · exact n m, fun m => nomatch m⟩) hv2
          | r j => exact hv2
      refine soundSs X ms body hm _ μ q hq _ { s with heap := h₁, toks := s.toks + ((X.C.names.take np).zip vs).length } (s.heap.objs.size :: ψ) φ s.heap.objs.size a code x _ _ hR' S₁ hL₁ fun fl ψ' φ' h' tk hfl hx S' hL' k' => ?_
      obtain ⟨e, rfl, he⟩ := hx.app
      have hsub : ∀ b ∈ ψ, b ∈ ψ' := fun b m => hx.sub b (.tail _ m)
      have S'' := S'.leave hsub S.sub
      have kk : Keep φ s.heap h' := fun b o e n => k' b o (hk₁ b o e) fun m => by
        rcases List.mem_cons.mp m with rfl | m
        · rw [hdead] at e; cases e
        · exact n m
      have ks : ∀ b, b ∉ ψ' → (∃ o, h'.get? b = some o) → b ∉ ψ ∧ b ∉ ([] : List Addr) := fun b n _ => ⟨fun m => n (hsub b m), fun m => nomatch m⟩
      rw [S.len] at S''
      split at hf
      · rename_i hq1
        cases hf
        rw [hq1] at hfl
        cases hfl
        exact k _ h' tk rfl S'' kk
      · rename_i y hq1
        cases hf
        rw [hq1] at hfl
        obtain ⟨v, rfl, hv⟩ := hfl
        exact k v h' tk (VR.keep (κ := []) (Keep.refl _ _) ks hv) S'' kk
      · rename_i i hq1
        split at hf
        · rename_i hle
          obtain ⟨xs, hxs, e2⟩ := Option.map_eq_some_iff.mp hf
          cases e2
          rw [hq1] at hfl
          obtain ⟨v, rfl, b, rfl, hb⟩ := hfl
          obtain ⟨us, hp, hus⟩ := S'.lst i b xs hb hxs
          refine k _ h' tk ⟨b, us, rfl, hp.isList, fun m => ?_, hus.keep (κ := []) (Keep.refl _ _) ks⟩ S'' kk
          rw [List.getElem?_append_right (by rw [S.len]; exact hle)] at hb
          have h1 := he b (List.mem_of_getElem? hb)
          obtain ⟨o, h2⟩ := S.live b m
          have h3 := hk₁ b o h2
          rw [h1] at h3; cases h3
        · cases hf
  · cases hf
end Mini

namespace Mini
open PySem PySem.Spec PySem.Calls PyProof.Rows PySem.W
variable {prog : Program} {w : World}

/-- a def of the text, in its Mini form -/
structure FD where
  name : Str
  np : Nat
  nl : Nat
  names : List Str
  body : MSs

def argNames? : Arguments → Option (List Str)
  | ⟨[], as, none, [], [], none, []⟩ => some (as.map (·.arg))
  | _ => none

def checkDef (fns : List Str) (f : FD) (r : DefRec) : Bool :=
  decide (r.name = f.name) && decide (argNames? r.params = some (f.names.take f.np)) && decide (f.names.length = f.np + f.nl) && decide f.names.Nodup &&
  decide (r.scope.kind = .function) && !r.scope.isCoroutine && !r.scope.isGenerator && r.scope.names.all (fun x => decide (x.2 ≠ .cell)) &&
  (f.names.take f.np).all (fun y => decide (r.scope.names.lookup y = some .local)) && matchSs ⟨f.names, r.scope, fns⟩ f.body r.body

def semOf (fs : List (Str × Fn)) (f : FD) : Str × Fn := (f.name, fun args μ => if args.length = f.np then fnOf (fs.map (·.2)) f.nl f.body args μ else none)
def sems : List FD → List (Str × Fn) → List (Str × Fn)
  | [], fs => fs
  | f :: r, fs => sems r (fs ++ [semOf fs f])
def checkAll (q : Program) : List FD → List Str → Bool
  | [], _ => true
  | f :: r, fns => (recsOf q).any (checkDef fns f) && checkAll q r (fns ++ [f.name])
def checkBi (q : Program) (loose : List Str) : Bool :=
  builtinsUsed.all fun p => decide (p.1 ∉ startupNames) && decide (p.1 ∉ loose) && decide (p.1 ∉ (recsOf q).map (·.name)) && decide (p.1 ∉ (litsOf q).map (·.1)) && decide (p.1 ∉ (clssOf q loose).map (·.name)) && decide (p.1 ≠ ("__name__" : Str)) && decide (bootBuiltins p.1 = some p.2)

theorem zip_lookup : ∀ (ks : List Str) (vs : List Value), ks.Nodup → vs.length = ks.length → (ks.filterMap fun n => ((ks.zip vs).lookup n).map (n, ·)) = ks.zip vs := by
  intro ks vs nd hl
  have key : ∀ (l : List Str) (us : List Value), us.length = l.length → (∀ p ∈ l.zip us, (ks.zip vs).lookup p.1 = some p.2) → (l.filterMap fun n => ((ks.zip vs).lookup n).map (n, ·)) = l.zip us := by
    intro l
    induction l with
    | nil => intro us h _; cases us <;> rfl
    | cons x l ih =>
      intro us h hp
      cases us with
      | nil => cases h
      | cons u us =>
        have h1 := hp (x, u) (List.mem_cons_self ..)
        rw [List.zip_cons_cons, List.filterMap_cons, h1]
        simp only [Option.map_some]
        rw [ih us (by simpa using h) fun p m => hp p (List.mem_cons_of_mem _ m)]
  refine key ks vs hl fun p m => lookup_mem ?_ m
  rw [List.map_fst_zip (by omega)]
  exact nd

theorem bind_plain {x : Str} {params : Arguments} {body : List Stmt} {scope : Scope} {pm code doc : Value} {ns : List Str} {vs : List Value} (hp : argNames? params = some ns) (nd : ns.Nodup) (hv : vs.length = ns.length) :
    bindArgs (docDef x params body scope pm code doc) ⟨vs, []⟩ = pure (ns.zip vs) := by
  unfold argNames? at hp
  split at hp
  · rename_i as
    cases hp
    have hz : ∀ n ∈ as.map (·.arg), (((as.map (·.arg)).zip vs).lookup n).isNone = false := by
      intro n hn
      obtain ⟨i, hi, e⟩ := List.mem_iff_getElem.mp hn
      have hv' : i < vs.length := by rw [hv]; exact hi
      have : ((as.map (·.arg)).zip vs).lookup n = some vs[i] := by
        refine lookup_mem (by rw [List.map_fst_zip (by omega)]; exact nd) ?_
        refine List.mem_iff_getElem.mpr ⟨i, by rw [List.length_zip]; omega, ?_⟩
        rw [List.getElem_zip, e]
      rw [this]; rfl
    have hmiss : ((as.map (·.arg)).filter (fun n => (((as.map (·.arg)).zip vs).lookup n).isNone)) = [] := by
      rw [List.filter_eq_nil_iff]
      intro n hn
      rw [hz n hn]
      simp
    have hlen : ¬ vs.length > (as.map (·.arg)).length := by omega
    have hs : seqItems? Value.none = pure none := rfl
    unfold bindArgs
    simp only [docDef, List.map_nil, List.nil_append, List.append_nil, List.forIn_nil, pure_bind, hs, hlen]
    simp only [decide_false, Bool.false_and, Bool.false_eq_true, if_false, Option.getD_none, List.drop_nil, List.length_nil, Nat.sub_zero, List.take_length, hmiss, List.isEmpty_nil, Bool.not_true, List.drop_length, List.zip_nil_right, List.forIn_nil, pure_bind]
    exact congrArg pure (zip_lookup _ vs nd hv)
  · cases hp

theorem FnOK.more {h₀ : Heap} {mg : Str → Option Value} {n : Nat} {x : Str} {f : Fn} (h : FnOK prog w h₀ mg n x f) : FnOK prog w h₀ mg (n + 1) x f := by
  obtain ⟨a, o, fd, h1, h2, h3, h4⟩ := h
  exact ⟨a, o, fd, h1, h2, h3, fun A s ψ φ μ mvs vs d μ' R hR => h4 A s ψ φ μ mvs vs d μ' R ⟨hR.handled, by have := hR.depth; omega, by have := hR.units; omega⟩⟩

section top
variable {q : Program} {loose : List Str} {mean : ExcName → Option Value} {mg mb : Str → Option Value} {h₀ : Heap}

theorem gf_step (T : Top q loose mean mg mb h₀) {fs : List (Str × Fn)} {n : Nat} (G : GF prog w h₀ mg mb fs n) {f : FD} (hc : (recsOf q).any (checkDef (fs.map (·.1)) f) = true) : GF prog w h₀ mg mb (fs ++ [semOf fs f]) (n + 1) := by
  obtain ⟨r, hr, hc⟩ := List.any_eq_true.mp hc
  unfold checkDef at hc
  simp only [Bool.and_eq_true, decide_eq_true_eq, Bool.not_eq_true', List.all_eq_true] at hc
  obtain ⟨⟨⟨⟨⟨⟨⟨⟨⟨hname, hargs⟩, hlen⟩, hnd⟩, hk⟩, hco⟩, hgen⟩, hcell⟩, hloc⟩, hm⟩ := hc
  let X : Cx prog w := ⟨h₀, mg, mb, fs, n, ⟨f.names, r.scope, fs.map (·.1)⟩, G, rfl, hk, hnd⟩
  have D : Def X f.name f.np f.nl f.body := by
    refine ⟨?_, hlen, hloc, hcell, hco, hgen⟩
    obtain ⟨a, o, pm, code, doc, h1, h2, h3, h4⟩ := T.fn r hr
    rw [hname] at h1 h3 h4
    exact ⟨a, o, r.params, r.body, pm, code, doc, h1, h2, h3, h4, hm, fun vs hv => bind_plain hargs (hnd.sublist (List.take_sublist _ _)) (by rw [hv, List.length_take, hlen]; omega)⟩
  have ok := fn_ok D
  refine ⟨G.g, G.b, G.nolimit, G.bi, fun i x g e => ?_⟩
  by_cases hi : i < fs.length
  · rw [List.getElem?_append_left hi] at e
    exact (G.fn i x g e).more
  · rw [List.getElem?_append_right (Nat.le_of_not_lt hi)] at e
    have e0 : i - fs.length = 0 := by
      cases hq : i - fs.length with
      | zero => rfl
      | succ m => rw [hq] at e; cases e
    rw [e0] at e
    cases e
    exact ok
theorem gf_all (T : Top q loose mean mg mb h₀) : ∀ (fds : List FD) (fs : List (Str × Fn)) (n : Nat), GF prog w h₀ mg mb fs n → checkAll q fds (fs.map (·.1)) = true → GF prog w h₀ mg mb (sems fds fs) (n + fds.length)
  | [], _, _, G, _ => G
  | f :: r, fs, n, G, hc => by
    have hc' : ((recsOf q).any (checkDef (fs.map (·.1)) f) && checkAll q r (fs.map (·.1) ++ [f.name])) = true := hc
    obtain ⟨h1, h2⟩ := Bool.and_eq_true_iff.mp hc'
    have e : (fs ++ [semOf fs f]).map (·.1) = fs.map (·.1) ++ [f.name] := by simp [semOf]
    have := gf_all T r (fs ++ [semOf fs f]) (n + 1) (gf_step T G h1) (by rw [e]; exact h2)
    rw [List.length_cons, ← Nat.add_assoc, Nat.add_right_comm]
    exact this
theorem gf_start (T : Top q loose mean mg mb h₀) (hb : checkBi q loose = true) : GF prog w h₀ mg mb [] 0 := by
  refine ⟨T.g, T.b, T.nolimit, fun p hp => ?_, fun i x f e => by cases e⟩
  have := List.all_eq_true.mp hb p hp
  simp only [Bool.and_eq_true, decide_eq_true_eq] at this
  obtain ⟨⟨⟨⟨⟨⟨h1, h2⟩, h3⟩, h4⟩, h5⟩, h6⟩, h7⟩ := this
  exact ⟨T.free p.1 h1 h2 h3 h4 h5, (T.builtins p.1 h6).trans h7⟩

theorem ints_vr {h : Heap} : ∀ {vs : List Value} {ns : List Int}, IntsAre vs ns → VRs [] h (ns.map .int) vs
  | _, _, .nil => rfl
  | _, _, .cons _ t r => ⟨_, _, rfl, ⟨t, rfl⟩, ints_vr r⟩

/-- the law's call gives True -/
theorem law_call (T : Top q loose mean mg mb h₀) (fds : List FD) (hb : checkBi q loose = true) (hc : checkAll q fds [] = true) (hlen : fds.length < 100) {s : Shared} (hs : s.heap = h₀) {fa a : Addr} {x : Str} {f : Fn} {vs : List Value} {ns : List Int}
    (hmg : mg x = some (.ref fa)) (hx : ∃ i : Nat, (sems fds [])[i]? = some (x, f)) (hl : s.heap.IsList a vs.toArray) (hi : IntsAre vs ns) (hf : f [.d (.list (ns.map .int))] [] = some (.bool true, []))
    {Q E : Value → Shared → Prop} (k : ∀ h' tk, (∀ b o, s.heap.get? b = some o → h'.get? b = some o) → Q (.bool true) { s with heap := h', toks := tk }) :
    wpAny (model prog w) callerA (call (.ref fa) [.ref a]) Q E s := by
  obtain ⟨i, hx⟩ := hx
  obtain ⟨a', o, fd, h1, h2, h3, h4⟩ := (gf_all (prog := prog) (w := w) T fds [] 0 (gf_start T hb) hc).fn i x f hx
  rw [hmg] at h1
  cases h1
  subst hs
  refine wpAny_call (h4 callerA s [] [] [] [.d (.list (ns.map .int))] [.ref a] (.bool true) [] _ ⟨rfl, ?_, ?_⟩ ⟨fun _ _ e => e, fun _ m => (nomatch m), fun _ m => (nomatch m), fun _ m => (nomatch m), List.nodup_nil, rfl, fun i a xs e => by cases e⟩ ⟨_, [], rfl, ⟨a, vs.toArray, rfl, hl, fun m => (nomatch m), by simpa using ints_vr hi⟩, rfl⟩ hf fun v h' tk hv _ hk => ?_)
  · show 1 + claimMargin + (0 + fds.length) < recursionLimit
    have : claimMargin ≤ 300 := by decide
    have : recursionLimit = 1000 := rfl
    omega
  · show 4 + 4 * (0 + fds.length) + 70 < cLine
    have : cLine = 9900 := rfl
    omega
  · cases hv
    exact k h' tk fun b o e => hk b o e fun m => nomatch m
end top
end Mini

namespace Mini
open PySem PySem.W PyProof.Rows
theorem good_true {c : ClaimW} {cl : Str → Option Addr} {mean : ExcName → Option Value} {args : List WData} {s₁ : Shared} {h' : Heap} {tk : Nat} (hg : s₁.gens = #[]) (hn : ∀ cls, c.raises args cls = false) (hp : c.post args (.bool true) args = true)
    (hk : ∀ b o, s₁.heap.get? b = some o → h'.get? b = some o) : GoodWG c cl mean args s₁ (.ok (.ret (.bool true))) { s₁ with heap := h', toks := tk } :=
  GoodW.toG ⟨.inl ⟨.bool true, .bool true, [], rfl, hn, .bool true, hp, fun _ => ⟨List.nodup_nil, fun _ m => nomatch m⟩⟩, hk, rfl, hg⟩
theorem post_true {l : OpenLaw} {args : List WData} : l.row.post.value l.row.records { args := args, res := some (.bool true), after := args } = some (.bool true) := by
  show WTm.value [] (.eq .res (.lit (.bool true))) _ = _
  simp [WTm.value, same]
theorem law_good {l : OpenLaw} {cl : Str → Option Addr} {mean : ExcName → Option Value} {args : List WData} {s₁ : Shared} {h' : Heap} {tk : Nat} (hg : s₁.gens = #[])
    (hk : ∀ b o, s₁.heap.get? b = some o → h'.get? b = some o) : GoodWG l.row.claim cl mean args s₁ (.ok (.ret (.bool true))) { s₁ with heap := h', toks := tk } :=
  good_true hg (raisesW_false allW_false_nil) (postW_of (X := true) rfl post_true rfl) hk
end Mini

namespace Mini
open PySem

section
variable {F : List Fn} {ρ ρ₁ : Rho} {μ μ₁ μ₂ μ₃ : Mu} {a b c e : ME} {es : MEs} {op : Operator} {x y z u : MV} {dx dy dz du : PyData} {p q : MV × Mu}

theorem e_var {i : Nat} (h : ρ[i]?.join = some x) : evE F (.var i) ρ μ = some (x, μ) := by simp only [evE, h]; rfl
theorem e_none : evE F .none ρ μ = some (.d .none, μ) := by simp only [evE]
theorem e_bool {v : Bool} : evE F (.bool v) ρ μ = some (.d (.bool v), μ) := by simp only [evE]
theorem e_int {v : Int} : evE F (.int v) ρ μ = some (.d (.int v), μ) := by simp only [evE]
theorem e_str {v : Str} : evE F (.str v) ρ μ = some (.d (.str v), μ) := by simp only [evE]
theorem e_bin (ha : evE F a ρ μ = some (x, μ₁)) (hb : evE F b ρ μ₁ = some (y, μ₂)) (hx : rd μ₂ x = some dx) (hy : rd μ₂ y = some dy) (hz : binD op dx dy = some dz) : evE F (.bin op a b) ρ μ = some (.d dz, μ₂) := by
  simp only [evE, ha, hb, hx, hy, hz, Option.bind_some, Option.map_some]
theorem e_cmp {op : CmpOp} {r : Bool} (ha : evE F a ρ μ = some (x, μ₁)) (hb : evE F b ρ μ₁ = some (y, μ₂)) (hx : rd μ₂ x = some dx) (hy : rd μ₂ y = some dy) (hz : cmpD op dx dy = some r) : evE F (.cmp op a b) ρ μ = some (.d (.bool r), μ₂) := by
  simp only [evE, ha, hb, hx, hy, hz, Option.bind_some, Option.map_some]
theorem e_idx (ha : evE F a ρ μ = some (x, μ₁)) (hb : evE F b ρ μ₁ = some (y, μ₂)) (hx : rd μ₂ x = some dx) (hy : rd μ₂ y = some dy) (hz : idxD dx dy = some dz) : evE F (.idx a b) ρ μ = some (.d dz, μ₂) := by
  simp only [evE, ha, hb, hx, hy, hz, Option.bind_some, Option.map_some]
theorem e_slc (ha : evE F a ρ μ = some (x, μ₁)) (hb : evE F b ρ μ₁ = some (y, μ₂)) (hc : evE F c ρ μ₂ = some (z, μ₃)) (hx : rd μ₃ x = some dx) (hy : rd μ₃ y = some dy) (hz : rd μ₃ z = some dz) (hu : slcD dx dy dz = some du) : evE F (.slc a b c) ρ μ = some (.d du, μ₃) := by
  simp only [evE, ha, hb, hc, hx, hy, hz, hu, Option.bind_some, Option.map_some]
theorem e_bin' (ha : evE F a ρ μ = some (.d dx, μ₁)) (hb : evE F b ρ μ₁ = some (.d dy, μ₂)) (hz : binD op dx dy = some dz) : evE F (.bin op a b) ρ μ = some (.d dz, μ₂) := e_bin ha hb rfl rfl hz
theorem e_cmp' {op : CmpOp} {r : Bool} (ha : evE F a ρ μ = some (.d dx, μ₁)) (hb : evE F b ρ μ₁ = some (.d dy, μ₂)) (hz : cmpD op dx dy = some r) : evE F (.cmp op a b) ρ μ = some (.d (.bool r), μ₂) := e_cmp ha hb rfl rfl hz
theorem e_idx' (ha : evE F a ρ μ = some (.d dx, μ₁)) (hb : evE F b ρ μ₁ = some (.d dy, μ₂)) (hz : idxD dx dy = some dz) : evE F (.idx a b) ρ μ = some (.d dz, μ₂) := e_idx ha hb rfl rfl hz
theorem e_slc' (ha : evE F a ρ μ = some (.d dx, μ₁)) (hb : evE F b ρ μ₁ = some (.d dy, μ₂)) (hc : evE F c ρ μ₂ = some (.d dz, μ₃)) (hu : slcD dx dy dz = some du) : evE F (.slc a b c) ρ μ = some (.d du, μ₃) := e_slc ha hb hc rfl rfl rfl hu
theorem e_tup {vs : List MV} {xs : List PyData} (h : evL F es ρ μ = some (vs, μ₁)) (hx : allD vs = some xs) (hl : xs.length ≤ 16777216) : evE F (.tup es) ρ μ = some (.d (.tuple xs), μ₁) := by
  simp only [evE, h, hx, Option.bind_some, if_pos hl]
theorem e_lst {vs : List MV} {xs : List PyData} (h : evL F es ρ μ = some (vs, μ₁)) (hx : allD vs = some xs) (hl : xs.length ≤ 16777216) : evE F (.lst es) ρ μ = some (.d (.list xs), μ₁) := by
  simp only [evE, h, hx, Option.bind_some, if_pos hl]
theorem e_ite_t {t : MT} (hc : evB F t ρ μ = some (true, μ₁)) (h : evE F a ρ μ₁ = some p) : evE F (.ite t a b) ρ μ = some p := by
  simp only [evE, hc, h, Option.bind_some, if_true]
theorem e_ite_f {t : MT} (hc : evB F t ρ μ = some (false, μ₁)) (h : evE F b ρ μ₁ = some p) : evE F (.ite t a b) ρ μ = some p := by
  simp only [evE, hc, h, Option.bind_some]; rfl
theorem e_bop {op : BoolOp} (ha : evE F a ρ μ = some p) (h : evV F op es p ρ = some q) : evE F (.bop op a es) ρ μ = some q := by
  simp only [evE, ha, h, Option.bind_some]
theorem v_nil {op : BoolOp} : evV F op .nil p ρ = some p := by simp only [evV]
theorem v_stop {op : BoolOp} {r : Bool} (hr : r = (op == .Or)) : evV F op (.cons e es) (.d (.bool r), μ) ρ = some (.d (.bool r), μ) := by
  subst hr
  simp only [evV, rd, truth, Option.bind_some]
  cases op <;> rfl
theorem v_on {op : BoolOp} {r : Bool} (hr : r = (op != .Or)) (he : evE F e ρ μ = some q) (h : evV F op es q ρ = some p) : evV F op (.cons e es) (.d (.bool r), μ) ρ = some p := by
  subst hr
  simp only [evV, rd, truth, Option.bind_some, he]
  cases op <;> exact h
theorem e_call {g : Nat} {vs : List MV} {f : Fn} (h : evL F es ρ μ = some (vs, μ₁)) (hf : F[g]? = some f) (hr : f vs μ₁ = some (dx, μ₂)) : evE F (.call g es) ρ μ = some (.d dx, μ₂) := by
  simp only [evE, h, hf, hr, Option.bind_some, Option.map_some]
theorem e_prim {k : Prim} {vs : List MV} {xs : List PyData} (h : evL F es ρ μ = some (vs, μ₁)) (hx : rdAll μ₁ vs = some xs) (hz : primD k xs = some dz) : evE F (.prim k es) ρ μ = some (.d dz, μ₁) := by
  simp only [evE, h, hx, hz, Option.bind_some, Option.map_some]
theorem e_prim1 {k : Prim} (h : evE F a ρ μ = some (.d dx, μ₁)) (hz : primD k [dx] = some dz) : evE F (.prim k (.cons a .nil)) ρ μ = some (.d dz, μ₁) := by
  simp only [evE, evL, h, rdAll, rd, hz, Option.bind_some, Option.map_some, Option.bind_eq_bind]
theorem e_prim2 {k : Prim} (h : evE F a ρ μ = some (.d dx, μ₁)) (hb : evE F b ρ μ₁ = some (.d dy, μ₂)) (hz : primD k [dx, dy] = some dz) : evE F (.prim k (.cons a (.cons b .nil))) ρ μ = some (.d dz, μ₂) := by
  simp only [evE, evL, h, hb, rdAll, rd, hz, Option.bind_some, Option.map_some, Option.bind_eq_bind]
theorem e_isBool {r : Bool} (h : evE F a ρ μ = some (.d (.bool r), μ₁)) : evE F (.isBool a) ρ μ = some (.d (.bool true), μ₁) := by
  simp only [evE, h, Option.bind_some]
theorem l_nil : evL F .nil ρ μ = some ([], μ) := by simp only [evL]
theorem l_cons {vs : List MV} (h : evE F e ρ μ = some (x, μ₁)) (hs : evL F es ρ μ₁ = some (vs, μ₂)) : evL F (.cons e es) ρ μ = some (x :: vs, μ₂) := by
  simp only [evL, h, hs, Option.bind_some, Option.map_some]
theorem b_val {r : Bool} (h : evE F e ρ μ = some (.d (.bool r), μ₁)) : evB F (.val e) ρ μ = some (r, μ₁) := by
  simp only [evB, h, rd, truth, Option.bind_some, Option.map_some]
theorem b_not_t {t : MT} (h : evB F t ρ μ = some (false, μ₁)) : evB F (.not t) ρ μ = some (true, μ₁) := by simp only [evB, h, Option.map_some]; rfl
theorem b_not_f {t : MT} (h : evB F t ρ μ = some (true, μ₁)) : evB F (.not t) ρ μ = some (false, μ₁) := by simp only [evB, h, Option.map_some]; rfl
theorem b_bop {op : BoolOp} {ts : MTs} {r : Option (Bool × Mu)} (h : evBs F op ts ρ μ = r) : evB F (.bop op ts) ρ μ = r := by simp only [evB, h]
theorem bs_and_nil : evBs F .And .nil ρ μ = some (true, μ) := by simp only [evBs]; rfl
theorem bs_or_nil : evBs F .Or .nil ρ μ = some (false, μ) := by simp only [evBs]; rfl
theorem bs_and_f {t : MT} {ts : MTs} (h : evB F t ρ μ = some (false, μ₁)) : evBs F .And (.cons t ts) ρ μ = some (false, μ₁) := by simp only [evBs, h, Option.bind_some]; rfl
theorem bs_and_t {t : MT} {ts : MTs} {r : Option (Bool × Mu)} (h : evB F t ρ μ = some (true, μ₁)) (hs : evBs F .And ts ρ μ₁ = r) : evBs F .And (.cons t ts) ρ μ = r := by simp only [evBs, h, Option.bind_some]; exact hs
theorem bs_or_t {t : MT} {ts : MTs} (h : evB F t ρ μ = some (true, μ₁)) : evBs F .Or (.cons t ts) ρ μ = some (true, μ₁) := by simp only [evBs, h, Option.bind_some]; rfl
theorem bs_or_f {t : MT} {ts : MTs} {r : Option (Bool × Mu)} (h : evB F t ρ μ = some (false, μ₁)) (hs : evBs F .Or ts ρ μ₁ = r) : evBs F .Or (.cons t ts) ρ μ = r := by simp only [evBs, h, Option.bind_some]; exact hs

/-- go on behind a statement -/
def thenS (F : List Fn) (ss : MSs) : Out × Rho × Mu → Option (Out × Rho × Mu)
  | (.next, ρ, μ) => evSs F ss ρ μ
  | (.ret v, ρ, μ) => some (.ret v, ρ, μ)
variable {s : MS} {ss sa sb : MSs} {r : Option (Out × Rho × Mu)} {o : Out × Rho × Mu}
theorem ss_nil : evSs F .nil ρ μ = some (.next, ρ, μ) := by simp only [evSs]
theorem ss_cons (h : evS F s ρ μ = some o) (hr : thenS F ss o = r) : evSs F (.cons s ss) ρ μ = r := by
  obtain ⟨k, ρ', μ'⟩ := o
  simp only [evSs, h, Option.bind_some]
  cases k <;> exact hr
theorem ss_ret (h : evE F e ρ μ = some (x, μ₁)) : evSs F (.cons (.ret e) ss) ρ μ = some (.ret x, ρ, μ₁) := by
  simp only [evSs, evS, h, Option.bind_some, Option.map_some]
theorem ss_assign {i : Nat} (h : evE F e ρ μ = some (x, μ₁)) (hr : evSs F ss (ρ.set i (some x)) μ₁ = r) : evSs F (.cons (.assign i e) ss) ρ μ = r := by
  simp only [evSs, evS, h, Option.bind_some, Option.map_some]; exact hr
theorem ss_newlist {i : Nat} {vs : List MV} {xs : List PyData} (h : evL F es ρ μ = some (vs, μ₁)) (hx : allD vs = some xs) (hl : xs.length ≤ 16777216) (hr : evSs F ss (ρ.set i (some (.r μ₁.length))) (μ₁ ++ [xs]) = r) : evSs F (.cons (.newlist i es) ss) ρ μ = r := by
  simp only [evSs, evS, h, hx, if_pos hl, Option.bind_some]; exact hr
theorem ss_unpack {is : List Nat} {xs : List PyData} (h : evE F e ρ μ = some (.d (.tuple xs), μ₁)) (hs : setAll is xs ρ = some ρ₁) (hr : evSs F ss ρ₁ μ₁ = r) : evSs F (.cons (.unpack is e) ss) ρ μ = r := by
  simp only [evSs, evS, h, hs, Option.bind_some, Option.map_some]; exact hr
theorem ss_append {i j : Nat} {xs : List PyData} (hj : ρ[i]?.join = some (.r j)) (h : evE F e ρ μ = some (.d dx, μ₁)) (hx : μ₁[j]? = some xs) (hl : xs.length ≤ 16777216) (hr : evSs F ss ρ (μ₁.set j (xs ++ [dx])) = r) : evSs F (.cons (.append i e) ss) ρ μ = r := by
  simp only [evSs, evS, hj, h, hx, if_pos hl, Option.bind_some]; exact hr
theorem ss_delat {i j : Nat} {k : Int} {xs : List PyData} (hj : ρ[i]?.join = some (.r j)) (h : evE F e ρ μ = some (.d (.int k), μ₁)) (hx : μ₁[j]? = some xs) (hl : 0 ≤ k ∧ k < xs.length ∧ xs.length ≤ 16777216) (hr : evSs F ss ρ (μ₁.set j (xs.eraseIdx k.toNat)) = r) : evSs F (.cons (.delat i e) ss) ρ μ = r := by
  simp only [evSs, evS, hj, h, hx, if_pos hl, Option.bind_some]; exact hr
theorem ss_ite_t {t : MT} (hc : evB F t ρ μ = some (true, μ₁)) (ha : evSs F sa ρ μ₁ = some o) (hr : thenS F ss o = r) : evSs F (.cons (.ite t sa sb) ss) ρ μ = r :=
  ss_cons (by simp only [evS, hc, Option.bind_some, if_true]; exact ha) hr
theorem ss_ite_f {t : MT} (hc : evB F t ρ μ = some (false, μ₁)) (ha : evSs F sb ρ μ₁ = some o) (hr : thenS F ss o = r) : evSs F (.cons (.ite t sa sb) ss) ρ μ = r :=
  ss_cons (by simp only [evS, hc, Option.bind_some]; exact ha) hr
theorem then_next (h : evSs F ss ρ μ = r) : thenS F ss (.next, ρ, μ) = r := h
theorem then_ret {v : MV} : thenS F ss (.ret v, ρ, μ) = some (.ret v, ρ, μ) := rfl
end
end Mini

namespace Mini
open PySem

def n_begin_node : List Str := ["nodes", "place", "env", "frames", "node"]
/-- 4 parameters, 1 further names -/
def b_begin_node : MSs :=
 (.cons (.assign 4 (.idx (.var 0) (.var 1)))
 (.cons (.ite (.val (.cmp .Eq (.idx (.var 4) (.int 0)) (.str ⟨#[110, 117, 109]⟩)))
 (.cons (.ret (.tup (.cons (.str ⟨#[98, 97, 99, 107]⟩) (.cons (.tup (.cons (.str ⟨#[105, 110, 116]⟩) (.cons (.idx (.var 4) (.int 1)) .nil))) (.cons (.lst .nil) .nil)))))
 .nil)
 .nil)
 (.cons (.ite (.val (.cmp .Eq (.idx (.var 4) (.int 0)) (.str ⟨#[98, 111, 111, 108]⟩)))
 (.cons (.ret (.tup (.cons (.str ⟨#[98, 97, 99, 107]⟩) (.cons (.tup (.cons (.str ⟨#[98, 111, 111, 108]⟩) (.cons (.idx (.var 4) (.int 1)) .nil))) (.cons (.lst .nil) .nil)))))
 .nil)
 .nil)
 (.cons (.ite (.val (.cmp .Eq (.idx (.var 4) (.int 0)) (.str ⟨#[114, 101, 102]⟩)))
 (.cons (.ret (.tup (.cons (.str ⟨#[98, 97, 99, 107]⟩) (.cons (.idx (.var 2) (.idx (.var 4) (.int 1))) (.cons (.lst .nil) .nil)))))
 .nil)
 .nil)
 (.cons (.ite (.val (.cmp .Eq (.idx (.var 4) (.int 0)) (.str ⟨#[108, 97, 109]⟩)))
 (.cons (.ret (.tup (.cons (.str ⟨#[98, 97, 99, 107]⟩) (.cons (.tup (.cons (.str ⟨#[99, 108, 111]⟩) (.cons (.idx (.var 4) (.int 1)) (.cons (.slc (.var 2) .none .none) .nil)))) (.cons (.lst .nil) .nil)))))
 .nil)
 .nil)
 (.cons (.append 3 (.tup (.cons (.var 1) (.cons (.var 2) (.cons .none .nil)))))
 (.cons (.ret (.tup (.cons (.str ⟨#[101, 118, 97, 108]⟩) (.cons (.idx (.var 4) (.int 1)) (.cons (.slc (.var 2) .none .none) .nil)))))
 .nil)))))))

def n_resume_frame : List Str := ["nodes", "value", "frames", "node", "kind", "place", "env", "first", "wanted"]
/-- 3 parameters, 6 further names -/
def b_resume_frame : MSs :=
 (.cons (.unpack [5, 6, 7] (.idx (.var 2) (.bin .Sub (.prim .len (.cons (.var 2) .nil)) (.int 1))))
 (.cons (.delat 2 (.bin .Sub (.prim .len (.cons (.var 2) .nil)) (.int 1)))
 (.cons (.assign 3 (.idx (.var 0) (.var 5)))
 (.cons (.assign 4 (.idx (.var 3) (.int 0)))
 (.cons (.ite (.val (.cmp .Is (.var 7) .none))
 (.cons (.ite (.val (.cmp .Eq (.var 4) (.str ⟨#[108, 101, 116]⟩)))
 (.cons (.ret (.tup (.cons (.str ⟨#[101, 118, 97, 108]⟩) (.cons (.idx (.var 3) (.int 2)) (.cons (.bin .Add (.lst (.cons (.var 1) .nil)) (.var 6)) .nil)))))
 .nil)
 .nil)
 (.cons (.assign 8 (.str ⟨#[105, 110, 116]⟩))
 (.cons (.ite (.val (.cmp .Eq (.var 4) (.str ⟨#[112, 97, 105, 114]⟩)))
 (.cons (.assign 8 (.idx (.var 1) (.int 0)))
 .nil)
 (.cons (.ite (.val (.cmp .Eq (.var 4) (.str ⟨#[97, 112, 112]⟩)))
 (.cons (.assign 8 (.str ⟨#[99, 108, 111]⟩))
 .nil)
 (.cons (.ite (.val (.cmp .Eq (.var 4) (.str ⟨#[105, 102]⟩)))
 (.cons (.assign 8 (.str ⟨#[98, 111, 111, 108]⟩))
 .nil)
 (.cons (.ite (.bop .Or (.cons (.val (.cmp .Eq (.var 4) (.str ⟨#[102, 115, 116]⟩))) (.cons (.val (.cmp .Eq (.var 4) (.str ⟨#[115, 110, 100]⟩))) .nil)))
 (.cons (.assign 8 (.str ⟨#[112, 97, 105, 114]⟩))
 .nil)
 .nil)
 .nil))
 .nil))
 .nil))
 (.cons (.ite (.val (.cmp .NotEq (.idx (.var 1) (.int 0)) (.var 8)))
 (.cons (.ret (.tup (.cons (.str ⟨#[115, 116, 117, 99, 107]⟩) (.cons .none (.cons (.lst .nil) .nil)))))
 .nil)
 .nil)
 (.cons (.ite (.val (.cmp .Eq (.var 4) (.str ⟨#[105, 102]⟩)))
 (.cons (.ret (.tup (.cons (.str ⟨#[101, 118, 97, 108]⟩) (.cons (.ite (.val (.cmp .Eq (.idx (.var 1) (.int 1)) (.int 1))) (.idx (.var 3) (.int 2)) (.idx (.var 3) (.int 3))) (.cons (.slc (.var 6) .none .none) .nil)))))
 .nil)
 .nil)
 (.cons (.ite (.val (.cmp .Eq (.var 4) (.str ⟨#[102, 115, 116]⟩)))
 (.cons (.ret (.tup (.cons (.str ⟨#[98, 97, 99, 107]⟩) (.cons (.idx (.var 1) (.int 1)) (.cons (.lst .nil) .nil)))))
 .nil)
 .nil)
 (.cons (.ite (.val (.cmp .Eq (.var 4) (.str ⟨#[115, 110, 100]⟩)))
 (.cons (.ret (.tup (.cons (.str ⟨#[98, 97, 99, 107]⟩) (.cons (.idx (.var 1) (.int 2)) (.cons (.lst .nil) .nil)))))
 .nil)
 .nil)
 (.cons (.append 2 (.tup (.cons (.var 5) (.cons (.var 6) (.cons (.var 1) .nil)))))
 (.cons (.ret (.tup (.cons (.str ⟨#[101, 118, 97, 108]⟩) (.cons (.idx (.var 3) (.int 2)) (.cons (.slc (.var 6) .none .none) .nil)))))
 .nil)))))))))
 .nil)
 (.cons (.ite (.val (.cmp .Eq (.var 4) (.str ⟨#[97, 112, 112]⟩)))
 (.cons (.ret (.tup (.cons (.str ⟨#[101, 118, 97, 108]⟩) (.cons (.idx (.var 7) (.int 1)) (.cons (.bin .Add (.lst (.cons (.var 1) .nil)) (.idx (.var 7) (.int 2))) .nil)))))
 .nil)
 .nil)
 (.cons (.ite (.val (.cmp .Eq (.var 4) (.str ⟨#[112, 97, 105, 114]⟩)))
 (.cons (.ret (.tup (.cons (.str ⟨#[98, 97, 99, 107]⟩) (.cons (.tup (.cons (.str ⟨#[112, 97, 105, 114]⟩) (.cons (.var 7) (.cons (.var 1) .nil)))) (.cons (.lst .nil) .nil)))))
 .nil)
 .nil)
 (.cons (.ite (.val (.cmp .NotEq (.idx (.var 1) (.int 0)) (.str ⟨#[105, 110, 116]⟩)))
 (.cons (.ret (.tup (.cons (.str ⟨#[115, 116, 117, 99, 107]⟩) (.cons .none (.cons (.lst .nil) .nil)))))
 .nil)
 .nil)
 (.cons (.ite (.val (.cmp .Eq (.var 4) (.str ⟨#[97, 100, 100]⟩)))
 (.cons (.ret (.tup (.cons (.str ⟨#[98, 97, 99, 107]⟩) (.cons (.tup (.cons (.str ⟨#[105, 110, 116]⟩) (.cons (.bin .Add (.idx (.var 7) (.int 1)) (.idx (.var 1) (.int 1))) .nil))) (.cons (.lst .nil) .nil)))))
 .nil)
 .nil)
 (.cons (.ret (.tup (.cons (.str ⟨#[98, 97, 99, 107]⟩) (.cons (.tup (.cons (.str ⟨#[98, 111, 111, 108]⟩) (.cons (.ite (.val (.cmp .Lt (.idx (.var 7) (.int 1)) (.idx (.var 1) (.int 1)))) (.int 1) (.int 0)) .nil))) (.cons (.lst .nil) .nil)))))
 .nil))))))))))

def n_run : List Str := ["nodes", "fuel", "frames", "state"]
/-- 2 parameters, 2 further names -/
def b_run : MSs :=
 (.cons (.newlist 2 .nil)
 (.cons (.assign 3 (.tup (.cons (.str ⟨#[101, 118, 97, 108]⟩) (.cons (.bin .Sub (.prim .len (.cons (.var 0) .nil)) (.int 1)) (.cons (.lst .nil) .nil)))))
 (.cons (.whl (intAt 1) (.val (.cmp .Gt (.var 1) (.int 0)))
 (.cons (.assign 1 (.bin .Sub (.var 1) (.int 1)))
 (.cons (.ite (.val (.cmp .Eq (.idx (.var 3) (.int 0)) (.str ⟨#[101, 118, 97, 108]⟩)))
 (.cons (.assign 3 (.call 0 (.cons (.var 0) (.cons (.idx (.var 3) (.int 1)) (.cons (.idx (.var 3) (.int 2)) (.cons (.var 2) .nil))))))
 .nil)
 (.cons (.assign 3 (.call 1 (.cons (.var 0) (.cons (.idx (.var 3) (.int 1)) (.cons (.var 2) .nil)))))
 .nil))
 (.cons (.ite (.val (.cmp .Eq (.idx (.var 3) (.int 0)) (.str ⟨#[115, 116, 117, 99, 107]⟩)))
 (.cons (.ret (.tup (.cons (.str ⟨#[115, 116, 117, 99, 107]⟩) (.cons .none .nil))))
 .nil)
 .nil)
 (.cons (.ite (.bop .And (.cons (.val (.cmp .Eq (.idx (.var 3) (.int 0)) (.str ⟨#[98, 97, 99, 107]⟩))) (.cons (.val (.cmp .Eq (.var 2) (.lst .nil))) .nil)))
 (.cons (.ret (.tup (.cons (.str ⟨#[100, 111, 110, 101]⟩) (.cons (.idx (.var 3) (.int 1)) .nil))))
 .nil)
 .nil)
 .nil)))))
 (.cons (.ret (.tup (.cons (.str ⟨#[102, 117, 101, 108]⟩) (.cons .none .nil))))
 .nil))))

/-! the machine, in plain data -/
inductive Val where
  | int (n : Int)
  | bool (b : Int)
  | clo (p : Int) (env : List Val)
  | pair (a b : Val)
inductive Tag where
  | num | bool | ref | lam | let_ | app | pair | fst | snd | add | less | if_
structure Node where
  t : Tag
  a : Int
  b : Int
  c : Int
inductive Stt where
  | eval (p : Int) (e : List Val)
  | back (v : Val)
  | stuck
structure Frm where
  p : Int
  e : List Val
  f : Option Val
inductive Res where
  | done (v : Val)
  | stuck
  | fuel

mutual
def enc : Val → PyData
  | .int n => .tuple [.str ⟨#[105, 110, 116]⟩, .int n]
  | .bool b => .tuple [.str ⟨#[98, 111, 111, 108]⟩, .int b]
  | .clo p e => .tuple [.str ⟨#[99, 108, 111]⟩, .int p, .list (encs e)]
  | .pair a b => .tuple [.str ⟨#[112, 97, 105, 114]⟩, enc a, enc b]
def encs : List Val → List PyData
  | [] => []
  | v :: r => enc v :: encs r
end
def Tag.str : Tag → Str
  | .num => ⟨#[110, 117, 109]⟩
  | .bool => ⟨#[98, 111, 111, 108]⟩
  | .ref => ⟨#[114, 101, 102]⟩
  | .lam => ⟨#[108, 97, 109]⟩
  | .let_ => ⟨#[108, 101, 116]⟩
  | .app => ⟨#[97, 112, 112]⟩
  | .pair => ⟨#[112, 97, 105, 114]⟩
  | .fst => ⟨#[102, 115, 116]⟩
  | .snd => ⟨#[115, 110, 100]⟩
  | .add => ⟨#[97, 100, 100]⟩
  | .less => ⟨#[108, 101, 115, 115]⟩
  | .if_ => ⟨#[105, 102]⟩
def encN (n : Node) : PyData := .tuple [.str n.t.str, .int n.a, .int n.b, .int n.c]
def encS : Stt → PyData
  | .eval p e => .tuple [.str ⟨#[101, 118, 97, 108]⟩, .int p, .list (encs e)]
  | .back v => .tuple [.str ⟨#[98, 97, 99, 107]⟩, enc v, .list []]
  | .stuck => .tuple [.str ⟨#[115, 116, 117, 99, 107]⟩, .none, .list []]
def encO : Option Val → PyData
  | none => .none
  | some v => enc v
def encF (f : Frm) : PyData := .tuple [.int f.p, .list (encs f.e), encO f.f]
/-- the newest frame stands last -/
def encFs (fs : List Frm) : List PyData := (fs.map encF).reverse
def encR : Res → PyData
  | .done v => .tuple [.str ⟨#[100, 111, 110, 101]⟩, enc v]
  | .stuck => .tuple [.str ⟨#[115, 116, 117, 99, 107]⟩, .none]
  | .fuel => .tuple [.str ⟨#[102, 117, 101, 108]⟩, .none]

theorem encs_len : ∀ e : List Val, (encs e).length = e.length
  | [] => rfl
  | _ :: r => by simp [encs, encs_len r]
theorem encs_get : ∀ (e : List Val) (i : Nat), (encs e)[i]? = (e[i]?).map enc
  | [], _ => rfl
  | _ :: _, 0 => rfl
  | _ :: r, i + 1 => by simp [encs, encs_get r i]

def nodeAt (ns : List Node) (p : Int) : Option Node := if 0 ≤ p ∧ p < 9223372036854775808 then ns[p.toNat]? else none

def begin (ns : List Node) (p : Int) (e : List Val) (fs : List Frm) : Option (Stt × List Frm) :=
  if e.length ≤ 1000 ∧ fs.length ≤ 1000 then match nodeAt ns p with
    | none => none
    | some n => match n.t with
      | .num => some (.back (.int n.a), fs)
      | .bool => some (.back (.bool n.a), fs)
      | .ref => if 0 ≤ n.a ∧ n.a < 9223372036854775808 then (e[n.a.toNat]?).map fun v => (.back v, fs) else none
      | .lam => some (.back (.clo n.a e), fs)
      | _ => some (.eval n.a e, ⟨p, e, none⟩ :: fs)
  else none

def resume (ns : List Node) (v : Val) : List Frm → Option (Stt × List Frm)
  | [] => none
  | f :: fs => if f.e.length ≤ 1000 ∧ fs.length ≤ 1000 then match nodeAt ns f.p with
    | none => none
    | some n => match f.f with
      | none => match n.t, v with
        | .let_, v => some (.eval n.b (v :: f.e), fs)
        | .pair, v => some (.eval n.b f.e, ⟨f.p, f.e, some v⟩ :: fs)
        | .app, .clo p e => some (.eval n.b f.e, ⟨f.p, f.e, some (.clo p e)⟩ :: fs)
        | .app, _ => some (.stuck, fs)
        | .if_, .bool b => some (.eval (if b = 1 then n.b else n.c) f.e, fs)
        | .if_, _ => some (.stuck, fs)
        | .fst, .pair a _ => some (.back a, fs)
        | .fst, _ => some (.stuck, fs)
        | .snd, .pair _ b => some (.back b, fs)
        | .snd, _ => some (.stuck, fs)
        | .add, .int x => some (.eval n.b f.e, ⟨f.p, f.e, some (.int x)⟩ :: fs)
        | .add, _ => some (.stuck, fs)
        | .less, .int x => some (.eval n.b f.e, ⟨f.p, f.e, some (.int x)⟩ :: fs)
        | .less, _ => some (.stuck, fs)
        | _, _ => none
      | some u => match n.t, u, v with
        | .app, .clo p e, v => if e.length ≤ 1000 then some (.eval p (v :: e), fs) else none
        | .pair, u, v => some (.back (.pair u v), fs)
        | .add, .int x, .int y => some (.back (.int (x + y)), fs)
        | .less, .int x, .int y => some (.back (.bool (if x < y then 1 else 0)), fs)
        | .add, .int _, _ => some (.stuck, fs)
        | .less, .int _, _ => some (.stuck, fs)
        | _, _, _ => none
    else none

def f_begin : Fn := fun args μ => if args.length = 4 then fnOf [] 1 b_begin_node args μ else none
def f_resume : Fn := fun args μ => if args.length = 3 then fnOf [f_begin] 6 b_resume_frame args μ else none
def f_run : Fn := fun args μ => if args.length = 2 then fnOf [f_begin, f_resume] 2 b_run args μ else none

theorem slc_all {xs : List PyData} (h : xs.length ≤ 16777216) : slcD (.list xs) .none .none = some (.list xs) := by
  simp [slcD, loD, hiD, h]
theorem idx_list {xs : List PyData} {k : Int} {x : PyData} (h0 : 0 ≤ k ∧ k < 9223372036854775808) (h : xs[k.toNat]? = some x) : idxD (.list xs) (.int k) = some x := by
  simp only [idxD, if_pos h0, h]
theorem node_idx {ns : List Node} {p : Int} {n : Node} (h : nodeAt ns p = some n) : idxD (.list (ns.map encN)) (.int p) = some (encN n) := by
  unfold nodeAt at h
  split at h
  · rename_i h0
    exact idx_list h0 (by rw [List.getElem?_map, h]; rfl)
  · cases h

local macro_rules | `(tactic| walk_at "ev") => `(tactic| first
  | with_reducible exact e_none | with_reducible exact e_bool | with_reducible exact e_int | with_reducible exact e_str
  | ((with_reducible apply e_var); exact rfl)
  | with_reducible apply e_bin | with_reducible apply e_cmp | with_reducible apply e_idx | with_reducible apply e_slc
  | with_reducible apply e_tup | with_reducible apply e_lst | with_reducible apply e_prim | with_reducible apply e_call | with_reducible apply e_isBool
  | with_reducible exact l_nil | with_reducible apply l_cons
  | with_reducible apply b_val | with_reducible apply b_bop | with_reducible exact bs_and_nil | with_reducible exact bs_or_nil
  | ((with_reducible apply bs_and_f); (repeat walk_at "ev"); done) | ((with_reducible apply bs_and_t); (case h => (repeat walk_at "ev"); done))
  | ((with_reducible apply bs_or_t); (repeat walk_at "ev"); done) | ((with_reducible apply bs_or_f); (case h => (repeat walk_at "ev"); done))
  | with_reducible apply b_not_t | with_reducible apply b_not_f
  | ((with_reducible apply e_ite_t); (case hc => (repeat walk_at "ev"); done)) | ((with_reducible apply e_ite_f); (case hc => (repeat walk_at "ev"); done))
  | with_reducible exact ss_nil | with_reducible apply ss_ret | with_reducible apply ss_assign | with_reducible apply ss_newlist | with_reducible apply ss_unpack
  | ((with_reducible apply ss_append); (case hj => exact rfl)) | ((with_reducible apply ss_delat); (case hj => exact rfl))
  | ((with_reducible apply ss_ite_t); (case hc => (repeat walk_at "ev"); done)) | ((with_reducible apply ss_ite_f); (case hc => (repeat walk_at "ev"); done))
  | with_reducible exact then_ret | with_reducible apply then_next
  | with_reducible assumption
  | exact rfl
  | exact Nat.le_of_ble_eq_true rfl)

theorem fn_d {F : List Fn} {nl : Nat} {body : MSs} {args : List MV} {μ μ' : Mu} {ρ' : Rho} {x : PyData} {r : PyData × Mu} (h : evSs F body (args.map some ++ List.replicate nl none) μ = some (.ret (.d x), ρ', μ')) (e : (x, μ'.take μ.length) = r) : fnOf F nl body args μ = some r := by
  subst e
  simp only [fnOf, h, Option.bind_some]
theorem take_set {μ : Mu} {j : Nat} {xs : List PyData} : (μ.set j xs).take μ.length = μ.set j xs := List.take_of_length_le (by rw [List.length_set]; exact Nat.le_refl _)
theorem take_self {μ : Mu} : μ.take μ.length = μ := List.take_length
theorem set_same {μ : Mu} {j : Nat} {xs : List PyData} (h : μ[j]? = some xs) : μ.set j xs = μ := by
  apply List.ext_getElem?
  intro i
  rw [List.getElem?_set]
  split
  · rename_i e; subst e
    split
    · exact h.symm
    · rename_i hl; rw [List.getElem?_eq_none (Nat.le_of_not_lt hl)]
  · rfl
theorem encFs_cons (f : Frm) (fs : List Frm) : encFs (f :: fs) = encFs fs ++ [encF f] := by simp [encFs]
theorem encFs_len (fs : List Frm) : (encFs fs).length = fs.length := by simp [encFs]

theorem begin_ok {ns : List Node} {p : Int} {e : List Val} {fs fs' : List Frm} {st : Stt} {μ : Mu} {j : Nat} (h : begin ns p e fs = some (st, fs')) (hj : μ[j]? = some (encFs fs)) :
    f_begin [.d (.list (ns.map encN)), .d (.int p), .d (.list (encs e)), .r j] μ = some (encS st, μ.set j (encFs fs')) := by
  unfold begin at h
  split at h
  · rename_i hb
    split at h
    · cases h
    · rename_i n hn
      have hidx := node_idx hn
      have hsl := slc_all (xs := encs e) (by rw [encs_len]; omega)
      have hfl : (encFs fs).length ≤ 16777216 := by rw [encFs_len]; omega
      show fnOf [] 1 b_begin_node _ _ = _
      unfold b_begin_node
      obtain ⟨t, a, b, c⟩ := n
      cases t with
      | num =>
        cases h
        apply fn_d
        · repeat walk_at "ev"
        · rw [take_self, set_same hj]; rfl
      | bool =>
        cases h
        apply fn_d
        · repeat walk_at "ev"
        · rw [take_self, set_same hj]; rfl
      | lam =>
        cases h
        apply fn_d
        · repeat walk_at "ev"
        · rw [take_self, set_same hj]; rfl
      | ref =>
        simp only at h
        split at h
        · rename_i h0
          obtain ⟨v, hv, he⟩ := Option.map_eq_some_iff.mp h
          cases he
          have hid2 : idxD (.list (encs e)) (.int a) = some (enc v) := idx_list h0 (by rw [encs_get, hv]; rfl)
          apply fn_d
          · repeat walk_at "ev"
          · rw [take_self, set_same hj]; rfl
        · cases h
      | _ =>
        cases h
        apply fn_d
        · repeat walk_at "ev"
        · rw [take_set, encFs_cons]; rfl
  · cases h
end Mini

namespace Mini
open PySem
local macro_rules | `(tactic| walk_at "ev") => `(tactic| first
  | with_reducible exact e_none | with_reducible exact e_bool | with_reducible exact e_int | with_reducible exact e_str
  | ((with_reducible apply e_var); exact rfl)
  | with_reducible apply e_bin | with_reducible apply e_cmp | with_reducible apply e_idx | with_reducible apply e_slc
  | with_reducible apply e_tup | with_reducible apply e_lst | with_reducible apply e_prim | with_reducible apply e_call | with_reducible apply e_isBool
  | with_reducible exact l_nil | with_reducible apply l_cons
  | with_reducible apply b_val | with_reducible apply b_bop | with_reducible exact bs_and_nil | with_reducible exact bs_or_nil
  | ((with_reducible apply bs_and_f); (repeat walk_at "ev"); done) | ((with_reducible apply bs_and_t); (case h => (repeat walk_at "ev"); done))
  | ((with_reducible apply bs_or_t); (repeat walk_at "ev"); done) | ((with_reducible apply bs_or_f); (case h => (repeat walk_at "ev"); done))
  | with_reducible apply b_not_t | with_reducible apply b_not_f
  | ((with_reducible apply e_ite_t); (case hc => (repeat walk_at "ev"); done)) | ((with_reducible apply e_ite_f); (case hc => (repeat walk_at "ev"); done))
  | with_reducible exact ss_nil | with_reducible apply ss_ret | with_reducible apply ss_assign | with_reducible apply ss_newlist | with_reducible apply ss_unpack
  | ((with_reducible apply ss_append); (case hj => exact rfl)) | ((with_reducible apply ss_delat); (case hj => exact rfl))
  | ((with_reducible apply ss_ite_t); (case hc => (repeat walk_at "ev"); done)) | ((with_reducible apply ss_ite_f); (case hc => (repeat walk_at "ev"); done))
  | with_reducible exact then_ret | with_reducible apply then_next
  | with_reducible assumption
  | exact rfl
  | exact Nat.le_of_ble_eq_true rfl)


theorem fn_ex {F : List Fn} {nl : Nat} {body : MSs} {args : List MV} {μ μ' : Mu} {x : PyData} {r : PyData × Mu} (h : ∃ ρ', evSs F body (args.map some ++ List.replicate nl none) μ = some (.ret (.d x), ρ', μ')) (e : (x, μ'.take μ.length) = r) : fnOf F nl body args μ = some r :=
  let ⟨_, h⟩ := h; fn_d h e
theorem ret_eq {F : List Fn} {ss : MSs} {ρ ρ' : Rho} {μ μ' μ'' : Mu} {x x' : PyData} (h : evSs F ss ρ μ = some (.ret (.d x), ρ', μ')) (ex : x = x') (em : μ' = μ'') : ∃ ρ', evSs F ss ρ μ = some (.ret (.d x'), ρ', μ'') := by
  subst ex em
  exact ⟨_, h⟩
theorem encFs_last (f : Frm) (fs : List Frm) : (encFs (f :: fs))[fs.length]? = some (encF f) := by
  rw [encFs_cons, List.getElem?_append_right (by rw [encFs_len]; exact Nat.le_refl _), encFs_len, Nat.sub_self]; rfl
theorem encFs_erase (f : Frm) (fs : List Frm) : (encFs (f :: fs)).eraseIdx fs.length = encFs fs := by
  rw [encFs_cons, List.eraseIdx_append_of_length_le (by rw [encFs_len]; exact Nat.le_refl _), encFs_len, Nat.sub_self]
  simp
theorem add_one {v : PyData} {e : List Val} (h : e.length ≤ 1000) : binD .Add (.list [v]) (.list (encs e)) = some (.list (v :: encs e)) := by
  have : ([v] : List PyData).length + (encs e).length ≤ 16777216 := by rw [encs_len]; simp; omega
  simp only [binD, if_pos this]; rfl

set_option maxHeartbeats 4000000 in
theorem resume_ok {ns : List Node} {v : Val} {fs fs' : List Frm} {st : Stt} {μ : Mu} {j : Nat} (h : resume ns v fs = some (st, fs')) (hj : μ[j]? = some (encFs fs)) :
    f_resume [.d (.list (ns.map encN)), .d (enc v), .r j] μ = some (encS st, μ.set j (encFs fs')) := by
  cases fs with
  | nil => cases h
  | cons f fs =>
    obtain ⟨p, e, fv⟩ := f
    unfold resume at h
    dsimp only at h
    split at h
    · rename_i hb
      split at h
      · cases h
      · rename_i n hn
        show fnOf [f_begin] 6 b_resume_frame _ _ = _
        have hrd : rd μ (.r j) = some (.list (encFs (⟨p, e, fv⟩ :: fs))) := by simp [rd, hj]
        have hra : rdAll μ [.r j] = some [.list (encFs (⟨p, e, fv⟩ :: fs))] := by simp [rdAll, hrd]
        have hll : (encFs (⟨p, e, fv⟩ :: fs)).length = fs.length + 1 := by rw [encFs_len]; rfl
        obtain ⟨K, hK⟩ : ∃ K : Int, K = ((encFs (⟨p, e, fv⟩ :: fs)).length : Int) := ⟨_, rfl⟩
        have hK' : K = fs.length + 1 := by rw [hK, hll]; rfl
        have hpl : primD .len [.list (encFs (⟨p, e, fv⟩ :: fs))] = some (.int K) := by
          simp only [primD]; rw [if_pos (by rw [hll]; omega), hK]
        have hKn : (K - 1).toNat = fs.length := by omega
        have hix : idxD (.list (encFs (⟨p, e, fv⟩ :: fs))) (.int (K - 1)) = some (.tuple [.int p, .list (encs e), encO fv]) := idx_list (by omega) (by rw [hKn]; exact encFs_last _ _)
        have hdl : 0 ≤ K - 1 ∧ K - 1 < ((encFs (⟨p, e, fv⟩ :: fs)).length : Int) ∧ (encFs (⟨p, e, fv⟩ :: fs)).length ≤ 16777216 := by rw [hll]; omega
        have hidx := node_idx hn
        have hsl := slc_all (xs := encs e) (by rw [encs_len]; omega)
        have hml : j < μ.length := (List.getElem?_eq_some_iff.mp hj).1
        have hj' : (μ.set j (encFs fs))[j]? = some (encFs fs) := by rw [List.getElem?_set_self hml]
        have hfl : (encFs fs).length ≤ 16777216 := by rw [encFs_len]; omega
        obtain ⟨ν, hν⟩ : ∃ ν, ν = μ.set j (encFs fs) := ⟨_, rfl⟩
        have hset : ∀ xs, ν.set j xs = μ.set j xs := fun xs => by rw [hν, List.set_set]
        have hsame : ν = μ.set j (encFs fs) := hν
        rw [← hν] at hj'
        have hdel : μ.set j ((encFs (⟨p, e, fv⟩ :: fs)).eraseIdx (K - 1).toNat) = ν := by rw [hKn, encFs_erase, hν]
        have hrd' : rd ν (.r j) = some (.list (encFs fs)) := by simp [rd, hj']
        refine fn_ex (μ' := μ.set j (encFs fs')) (x := encS st) ?_ (by rw [take_set])
        have head : ∀ r, evSs [f_begin] (match b_resume_frame with | .cons _ (.cons _ (.cons _ (.cons _ r))) => r | _ => .nil)
            [some (.d (.list (ns.map encN))), some (.d (enc v)), some (.r j), some (.d (encN n)), some (.d (.str n.t.str)), some (.d (.int p)), some (.d (.list (encs e))), some (.d (encO fv)), none] ν = r →
            evSs [f_begin] b_resume_frame ([MV.d (.list (ns.map encN)), .d (enc v), .r j].map some ++ List.replicate 6 none) μ = r := by
          intro r hr
          unfold b_resume_frame at hr ⊢
          apply ss_unpack
          · repeat walk_at "ev"
          · exact rfl
          · apply ss_delat
            · exact rfl
            · repeat walk_at "ev"
            · exact hj
            · exact hdl
            · rw [hdel]
              apply ss_assign
              · repeat walk_at "ev"
              · apply ss_assign
                · apply e_idx
                  · walk_at "ev"
                  · walk_at "ev"
                  · exact rfl
                  · exact rfl
                  · exact (rfl : idxD (encN n) (.int 0) = some (.str n.t.str))
                · exact hr
        suffices hs : ∃ ρ', evSs [f_begin] (match b_resume_frame with | .cons _ (.cons _ (.cons _ (.cons _ r))) => r | _ => .nil)
            [some (.d (.list (ns.map encN))), some (.d (enc v)), some (.r j), some (.d (encN n)), some (.d (.str n.t.str)), some (.d (.int p)), some (.d (.list (encs e))), some (.d (encO fv)), none] ν = some (.ret (.d (encS st)), ρ', μ.set j (encFs fs')) by
          obtain ⟨ρ', hρ⟩ := hs
          exact ⟨ρ', head _ hρ⟩
        have hadd : binD .Add (.list [enc v]) (.list (encs e)) = some (.list (encs (v :: e))) := by rw [add_one hb.1]; rfl
        unfold b_resume_frame
        obtain ⟨t, a, b, c⟩ := n
        clear head hn hdel hdl hix hK hK' hKn hll hpl hra hrd hj
        cases fv with
        | none =>
          cases t with
          | let_ =>
            cases h
            apply ret_eq
            · repeat walk_at "ev"
            · rfl
            · exact hsame
          | pair =>
            cases h
            cases v <;>
            · apply ret_eq
              · repeat walk_at "ev"
              · rfl
              · rw [hset, encFs_cons]; rfl
          | app =>
            cases v with
            | clo q e' =>
              cases h
              apply ret_eq
              · repeat walk_at "ev"
              · rfl
              · rw [hset, encFs_cons]; rfl
            | _ =>
              cases h
              apply ret_eq
              · repeat walk_at "ev"
              · rfl
              · exact hsame
          | if_ =>
            cases v with
            | bool k =>
              cases h
              by_cases hk : k = 1
              · have hcm : cmpD .Eq (.int k) (.int 1) = some true := by simp [cmpD, hk]
                rw [if_pos hk]
                apply ret_eq
                · repeat walk_at "ev"
                · rfl
                · exact hsame
              · have hcm : cmpD .Eq (.int k) (.int 1) = some false := by simp [cmpD, hk]
                rw [if_neg hk]
                apply ret_eq
                · repeat walk_at "ev"
                · rfl
                · exact hsame
            | _ =>
              cases h
              apply ret_eq
              · repeat walk_at "ev"
              · rfl
              · exact hsame
          | fst =>
            cases v with
            | _ =>
              cases h
              apply ret_eq
              · repeat walk_at "ev"
              · rfl
              · exact hsame
          | snd =>
            cases v with
            | _ =>
              cases h
              apply ret_eq
              · repeat walk_at "ev"
              · rfl
              · exact hsame
          | add =>
            cases v with
            | int x =>
              cases h
              apply ret_eq
              · repeat walk_at "ev"
              · rfl
              · rw [hset, encFs_cons]; rfl
            | _ =>
              cases h
              apply ret_eq
              · repeat walk_at "ev"
              · rfl
              · exact hsame
          | less =>
            cases v with
            | int x =>
              cases h
              apply ret_eq
              · repeat walk_at "ev"
              · rfl
              · rw [hset, encFs_cons]; rfl
            | _ =>
              cases h
              apply ret_eq
              · repeat walk_at "ev"
              · rfl
              · exact hsame
          | _ => cases h
        | some u =>
          cases t with
          | app =>
            cases u with
            | clo q e' =>
              simp only at h
              split at h
              · rename_i hl
                cases h
                have hadd2 : binD .Add (.list [enc v]) (.list (encs e')) = some (.list (encs (v :: e'))) := by rw [add_one hl]; rfl
                have his : cmpD .Is (encO (some (.clo q e'))) .none = some false := rfl
                apply ret_eq
                · repeat walk_at "ev"
                · rfl
                · exact hsame
              · cases h
            | _ => cases h
          | pair =>
            cases h
            have his : cmpD .Is (encO (some u)) .none = some false := by cases u <;> rfl
            apply ret_eq
            · repeat walk_at "ev"
            · rfl
            · exact hsame
          | add =>
            cases u with
            | int x =>
              have his : cmpD .Is (encO (some (.int x))) .none = some false := rfl
              cases v with
              | _ =>
                cases h
                apply ret_eq
                · repeat walk_at "ev"
                · rfl
                · exact hsame
            | _ => cases h
          | less =>
            cases u with
            | int x =>
              have his : cmpD .Is (encO (some (.int x))) .none = some false := rfl
              cases v with
              | int y =>
                cases h
                by_cases hk : x < y
                · have hcm : cmpD .Lt (.int x) (.int y) = some true := by simp [cmpD, hk]
                  rw [if_pos hk]
                  apply ret_eq
                  · repeat walk_at "ev"
                  · rfl
                  · exact hsame
                · have hcm : cmpD .Lt (.int x) (.int y) = some false := by simp [cmpD, hk]
                  rw [if_neg hk]
                  apply ret_eq
                  · repeat walk_at "ev"
                  · rfl
                  · exact hsame
              | _ =>
                cases h
                apply ret_eq
                · repeat walk_at "ev"
                · rfl
                · exact hsame
            | _ => cases h
          | _ => cases h
    · cases h
end Mini

namespace Mini
open PySem
local macro_rules | `(tactic| walk_at "ev") => `(tactic| first
  | with_reducible exact e_none | with_reducible exact e_bool | with_reducible exact e_int | with_reducible exact e_str
  | ((with_reducible apply e_var); exact rfl)
  | with_reducible apply e_bin | with_reducible apply e_cmp | with_reducible apply e_idx | with_reducible apply e_slc
  | with_reducible apply e_tup | with_reducible apply e_lst | with_reducible apply e_prim | with_reducible apply e_call | with_reducible apply e_isBool
  | with_reducible exact l_nil | with_reducible apply l_cons
  | with_reducible apply b_val | with_reducible apply b_bop | with_reducible exact bs_and_nil | with_reducible exact bs_or_nil
  | ((with_reducible apply bs_and_f); (repeat walk_at "ev"); done) | ((with_reducible apply bs_and_t); (case h => (repeat walk_at "ev"); done))
  | ((with_reducible apply bs_or_t); (repeat walk_at "ev"); done) | ((with_reducible apply bs_or_f); (case h => (repeat walk_at "ev"); done))
  | with_reducible apply b_not_t | with_reducible apply b_not_f
  | ((with_reducible apply e_ite_t); (case hc => (repeat walk_at "ev"); done)) | ((with_reducible apply e_ite_f); (case hc => (repeat walk_at "ev"); done))
  | with_reducible exact ss_nil | with_reducible apply ss_ret | with_reducible apply ss_assign | with_reducible apply ss_newlist | with_reducible apply ss_unpack
  | ((with_reducible apply ss_append); (case hj => exact rfl)) | ((with_reducible apply ss_delat); (case hj => exact rfl))
  | ((with_reducible apply ss_ite_t); (case hc => (repeat walk_at "ev"); done)) | ((with_reducible apply ss_ite_f); (case hc => (repeat walk_at "ev"); done))
  | with_reducible exact then_ret | with_reducible apply then_next
  | with_reducible assumption
  | exact rfl
  | exact Nat.le_of_ble_eq_true rfl)


mutual
theorem enc_lay : ∀ v : Val, (enc v).canLay0 = true
  | .int _ => by simp only [enc, PyData.canLay0, PyData.canLayAll0]; decide +kernel
  | .bool _ => by simp only [enc, PyData.canLay0, PyData.canLayAll0]; decide +kernel
  | .clo _ e => by simp only [enc, PyData.canLay0, PyData.canLayAll0, encs_lay e]; decide +kernel
  | .pair a b => by simp only [enc, PyData.canLay0, PyData.canLayAll0, enc_lay a, enc_lay b]; decide +kernel
theorem encs_lay : ∀ e : List Val, PyData.canLayAll0 (encs e) = true
  | [] => by simp only [encs, PyData.canLayAll0]
  | v :: r => by simp only [encs, PyData.canLayAll0, enc_lay v, encs_lay r, Bool.and_self]
end
theorem lay_append : ∀ (xs ys : List PyData), PyData.canLayAll0 (xs ++ ys) = (PyData.canLayAll0 xs && PyData.canLayAll0 ys)
  | [], _ => by simp [PyData.canLayAll0]
  | x :: xs, ys => by simp only [List.cons_append, PyData.canLayAll0, lay_append xs ys, Bool.and_assoc]
theorem encFs_lay : ∀ fs : List Frm, PyData.canLayAll0 (encFs fs) = true
  | [] => by simp [encFs, PyData.canLayAll0]
  | f :: fs => by
    rw [encFs_cons, lay_append, encFs_lay fs]
    obtain ⟨p, e, o⟩ := f
    cases o with
    | none => simp [encF, encO, PyData.canLay0, PyData.canLayAll0, encs_lay]
    | some v => simp [encF, encO, PyData.canLay0, PyData.canLayAll0, encs_lay, enc_lay]
theorem frames_nil (fs : List Frm) : cmpD .Eq (.list (encFs fs)) (.list []) = some (match fs with | [] => true | _ => false) := by
  have h1 : eqOk (.list (encFs fs)) (.list []) = true := by
    unfold eqOk
    have hd : min (PyData.list (encFs fs)).depth (PyData.list []).depth ≤ 64 := Nat.le_trans (Nat.min_le_right _ _) (by decide)
    rw [Bool.and_eq_true, Bool.and_eq_true]
    exact ⟨⟨by simp only [PyData.canLay0]; exact encFs_lay fs, by simp [PyData.canLay0, PyData.canLayAll0]⟩, decide_eq_true hd⟩
  have h2 : cmpD .Eq (.list (encFs fs)) (.list []) = if eqOk (.list (encFs fs)) (.list []) then some (PyData.eqv (.list (encFs fs)) (.list [])) else none := rfl
  rw [h2, if_pos h1]
  cases fs with
  | nil => rfl
  | cons f fs =>
    rw [encFs_cons]
    cases h : encFs fs ++ [encF f] with
    | nil => simp at h
    | cons x xs => rfl

def stepM (ns : List Node) : Stt → List Frm → Option (Stt × List Frm)
  | .eval p e, fs => begin ns p e fs
  | .back v, fs => resume ns v fs
  | .stuck, _ => none
def loop (ns : List Node) : Nat → Stt → List Frm → Option Res
  | 0, _, _ => some .fuel
  | n + 1, st, fs => match stepM ns st fs with
    | none => none
    | some (.stuck, _) => some .stuck
    | some (.back v, []) => some (.done v)
    | some (.back v, f :: fs') => loop ns n (.back v) (f :: fs')
    | some (.eval p e, fs') => loop ns n (.eval p e) fs'

def runBody : MSs := match b_run with
  | .cons _ (.cons _ (.cons (.whl _ _ b) _)) => b
  | _ => .nil
def runTest : MT := match b_run with
  | .cons _ (.cons _ (.cons (.whl _ t _) _)) => t
  | _ => .val .none

set_option maxHeartbeats 2000000 in
theorem body_ok {ns : List Node} {st st' : Stt} {fs fs' : List Frm} {μ : Mu} {j : Nat} {k : Int} (h : stepM ns st fs = some (st', fs')) (hj : μ[j]? = some (encFs fs)) :
    ∃ ρ', evSs [f_begin, f_resume] runBody [some (.d (.list (ns.map encN))), some (.d (.int k)), some (.r j), some (.d (encS st))] μ =
      match st', fs' with
      | .stuck, fs' => some (.ret (.d (encR .stuck)), ρ', μ.set j (encFs fs'))
      | .back v, [] => some (.ret (.d (encR (.done v))), ρ', μ.set j (encFs []))
      | .back v, f :: fs' => some (.next, [some (.d (.list (ns.map encN))), some (.d (.int (k - 1))), some (.r j), some (.d (encS (.back v)))], μ.set j (encFs (f :: fs')))
      | .eval p e, fs' => some (.next, [some (.d (.list (ns.map encN))), some (.d (.int (k - 1))), some (.r j), some (.d (encS (.eval p e)))], μ.set j (encFs fs')) := by
  have hml : j < μ.length := (List.getElem?_eq_some_iff.mp hj).1
  have hrd : ∀ xs, rd (μ.set j xs) (.r j) = some (.list xs) := fun xs => by simp [rd, List.getElem?_set_self hml]
  have hnil := frames_nil fs'
  have head : ∀ r, thenS [f_begin, f_resume] (match runBody with | .cons _ (.cons _ r) => r | _ => .nil) (.next, [some (.d (.list (ns.map encN))), some (.d (.int (k - 1))), some (.r j), some (.d (encS st'))], μ.set j (encFs fs')) = r →
      evSs [f_begin, f_resume] runBody [some (.d (.list (ns.map encN))), some (.d (.int k)), some (.r j), some (.d (encS st))] μ = r := by
    intro r hr
    unfold runBody b_run at hr ⊢
    cases st with
    | eval p e =>
      have hcall := begin_ok (μ := μ) h hj
      apply ss_assign
      · repeat walk_at "ev"
      · apply ss_ite_t (o := (.next, [some (.d (.list (ns.map encN))), some (.d (.int (k - 1))), some (.r j), some (.d (encS st'))], μ.set j (encFs fs')))
        · repeat walk_at "ev"
        · apply ss_assign
          · apply e_call
            · repeat walk_at "ev"
            · exact rfl
            · exact hcall
          · exact ss_nil
        · exact hr
    | back v =>
      have hcall := resume_ok (μ := μ) h hj
      apply ss_assign
      · repeat walk_at "ev"
      · apply ss_ite_f (o := (.next, [some (.d (.list (ns.map encN))), some (.d (.int (k - 1))), some (.r j), some (.d (encS st'))], μ.set j (encFs fs')))
        · repeat walk_at "ev"
        · apply ss_assign
          · apply e_call
            · repeat walk_at "ev"
            · exact rfl
            · exact hcall
          · exact ss_nil
        · exact hr
    | stuck => cases h
  unfold runBody b_run at head
  unfold runBody b_run
  cases st' with
  | stuck =>
    dsimp only
    apply Exists.intro
    apply head
    repeat walk_at "ev"
  | eval p e =>
    dsimp only
    refine ⟨[], head _ ?_⟩
    repeat walk_at "ev"
  | back v =>
    cases fs' with
    | nil =>
      dsimp only
      have hr0 := hrd (encFs [])
      apply Exists.intro
      apply head
      repeat walk_at "ev"
    | cons f fs' =>
      dsimp only
      have hr0 := hrd (encFs (f :: fs'))
      refine ⟨[], head _ ?_⟩
      repeat walk_at "ev"
end Mini

namespace Mini
open PySem
local macro_rules | `(tactic| walk_at "ev") => `(tactic| first
  | with_reducible exact e_none | with_reducible exact e_bool | with_reducible exact e_int | with_reducible exact e_str
  | ((with_reducible apply e_var); exact rfl)
  | with_reducible apply e_bin | with_reducible apply e_cmp | with_reducible apply e_idx | with_reducible apply e_slc
  | with_reducible apply e_tup | with_reducible apply e_lst | with_reducible apply e_prim | with_reducible apply e_call | with_reducible apply e_isBool
  | with_reducible exact l_nil | with_reducible apply l_cons
  | with_reducible apply b_val | with_reducible apply b_bop | with_reducible exact bs_and_nil | with_reducible exact bs_or_nil
  | ((with_reducible apply bs_and_f); (repeat walk_at "ev"); done) | ((with_reducible apply bs_and_t); (case h => (repeat walk_at "ev"); done))
  | ((with_reducible apply bs_or_t); (repeat walk_at "ev"); done) | ((with_reducible apply bs_or_f); (case h => (repeat walk_at "ev"); done))
  | with_reducible apply b_not_t | with_reducible apply b_not_f
  | ((with_reducible apply e_ite_t); (case hc => (repeat walk_at "ev"); done)) | ((with_reducible apply e_ite_f); (case hc => (repeat walk_at "ev"); done))
  | with_reducible exact ss_nil | with_reducible apply ss_ret | with_reducible apply ss_assign | with_reducible apply ss_newlist | with_reducible apply ss_unpack
  | ((with_reducible apply ss_append); (case hj => exact rfl)) | ((with_reducible apply ss_delat); (case hj => exact rfl))
  | ((with_reducible apply ss_ite_t); (case hc => (repeat walk_at "ev"); done)) | ((with_reducible apply ss_ite_f); (case hc => (repeat walk_at "ev"); done))
  | with_reducible exact then_ret | with_reducible apply then_next
  | with_reducible assumption
  | exact rfl
  | exact Nat.le_of_ble_eq_true rfl)


theorem test_true {ns : List Node} {k : Int} {μ : Mu} {j : Nat} {d : PyData} (h : 0 < k) : evB [f_begin, f_resume] runTest [some (.d (.list (ns.map encN))), some (.d (.int k)), some (.r j), some (.d d)] μ = some (true, μ) := by
  have hc : cmpD .Gt (.int k) (.int 0) = some true := by simp [cmpD, h]
  unfold runTest b_run
  dsimp only
  repeat walk_at "ev"
theorem test_false {ns : List Node} {k : Int} {μ : Mu} {j : Nat} {d : PyData} (h : ¬ 0 < k) : evB [f_begin, f_resume] runTest [some (.d (.list (ns.map encN))), some (.d (.int k)), some (.r j), some (.d d)] μ = some (false, μ) := by
  have hc : cmpD .Gt (.int k) (.int 0) = some false := by simp [cmpD]; omega
  unfold runTest b_run
  dsimp only
  repeat walk_at "ev"

theorem while_ok {ns : List Node} {j : Nat} {r : Res} : ∀ (n : Nat) (k : Int) (st : Stt) (fs : List Frm) (μ : Mu), loop ns k.toNat st fs = some r → k.toNat < n → μ[j]? = some (encFs fs) →
    (r = .fuel ∧ ∃ ρ' xs, whileF (evB [f_begin, f_resume] runTest) (evSs [f_begin, f_resume] runBody) n [some (.d (.list (ns.map encN))), some (.d (.int k)), some (.r j), some (.d (encS st))] μ = some (.next, ρ', μ.set j xs)) ∨
    (∃ ρ' xs, whileF (evB [f_begin, f_resume] runTest) (evSs [f_begin, f_resume] runBody) n [some (.d (.list (ns.map encN))), some (.d (.int k)), some (.r j), some (.d (encS st))] μ = some (.ret (.d (encR r)), ρ', μ.set j xs))
  | 0, k, _, _, _, _, hn, _ => absurd hn (Nat.not_lt_zero _)
  | n + 1, k, st, fs, μ, h, hn, hj => by
    by_cases hk : 0 < k
    · obtain ⟨m, hm⟩ : ∃ m, k.toNat = m + 1 := ⟨k.toNat - 1, by omega⟩
      have hm' : (k - 1).toNat = m := by omega
      rw [hm] at h
      simp only [loop] at h
      split at h
      · cases h
      · rename_i fs' hs
        cases h
        obtain ⟨ρ', hb⟩ := body_ok (k := k) hs hj
        refine .inr ⟨ρ', encFs fs', ?_⟩
        simp only [whileF, test_true hk, hb, Option.bind_some, if_true]
      · rename_i v hs
        cases h
        obtain ⟨ρ', hb⟩ := body_ok (k := k) hs hj
        refine .inr ⟨ρ', encFs [], ?_⟩
        simp only [whileF, test_true hk, hb, Option.bind_some, if_true]
      · rename_i v f fs' hs
        obtain ⟨ρ', hb⟩ := body_ok (k := k) hs hj
        have hml : j < μ.length := (List.getElem?_eq_some_iff.mp hj).1
        have ih := while_ok n (k - 1) (.back v) (f :: fs') (μ.set j (encFs (f :: fs'))) (by rw [hm']; exact h) (by omega) (List.getElem?_set_self hml)
        simp only [List.set_set] at ih
        rcases ih with ⟨hr, ρ₂, xs, e⟩ | ⟨ρ₂, xs, e⟩
        · refine .inl ⟨hr, ρ₂, xs, ?_⟩
          simp only [whileF, test_true hk, hb, Option.bind_some, if_true]
          exact e
        · refine .inr ⟨ρ₂, xs, ?_⟩
          simp only [whileF, test_true hk, hb, Option.bind_some, if_true]
          exact e
      · rename_i p e fs' hs
        obtain ⟨ρ', hb⟩ := body_ok (k := k) hs hj
        have hml : j < μ.length := (List.getElem?_eq_some_iff.mp hj).1
        have ih := while_ok n (k - 1) (.eval p e) fs' (μ.set j (encFs fs')) (by rw [hm']; exact h) (by omega) (List.getElem?_set_self hml)
        simp only [List.set_set] at ih
        rcases ih with ⟨hr, ρ₂, xs, e⟩ | ⟨ρ₂, xs, e⟩
        · refine .inl ⟨hr, ρ₂, xs, ?_⟩
          simp only [whileF, test_true hk, hb, Option.bind_some, if_true]
          exact e
        · refine .inr ⟨ρ₂, xs, ?_⟩
          simp only [whileF, test_true hk, hb, Option.bind_some, if_true]
          exact e
    · have h0 : k.toNat = 0 := by omega
      rw [h0] at h
      cases h
      refine .inl ⟨rfl, [some (.d (.list (ns.map encN))), some (.d (.int k)), some (.r j), some (.d (encS st))], encFs fs, ?_⟩
      rw [set_same hj]
      simp only [whileF, test_false hk, Option.bind_some]
      rfl

theorem whl_next {F : List Fn} {n : Rho → Mu → Nat} {t : MT} {b ss : MSs} {ρ ρ' : Rho} {μ μ' : Mu} {r : Option (Out × Rho × Mu)} (h : whileF (evB F t) (evSs F b) (n ρ μ) ρ μ = some (.next, ρ', μ')) (hr : evSs F ss ρ' μ' = r) : evSs F (.cons (.whl n t b) ss) ρ μ = r :=
  ss_cons (o := (.next, ρ', μ')) (by simp only [evS]; exact h) hr
theorem whl_ret {F : List Fn} {n : Rho → Mu → Nat} {t : MT} {b ss : MSs} {ρ ρ' : Rho} {μ μ' : Mu} {v : MV} (h : whileF (evB F t) (evSs F b) (n ρ μ) ρ μ = some (.ret v, ρ', μ')) : evSs F (.cons (.whl n t b) ss) ρ μ = some (.ret v, ρ', μ') :=
  ss_cons (by simp only [evS]; exact h) then_ret

theorem run_ok {ns : List Node} {k : Int} {μ : Mu} {r : Res} (h : loop ns k.toNat (.eval ((ns.length : Int) - 1) []) [] = some r) (hl : ns.length ≤ 1000) :
    f_run [.d (.list (ns.map encN)), .d (.int k)] μ = some (encR r, μ) := by
  show fnOf [f_begin, f_resume] 2 b_run _ _ = _
  have hlen : primD .len [.list (ns.map encN)] = some (.int (ns.length : Int)) := by
    simp only [primD, List.length_map]; rw [if_pos (by omega)]
  have hj : (μ ++ [[]])[μ.length]? = some (encFs []) := by rw [List.getElem?_append_right (Nat.le_refl _), Nat.sub_self]; rfl
  have w := while_ok (j := μ.length) (k.toNat + 1) k _ [] (μ ++ [[]]) h (Nat.lt_succ_self _) hj
  have hset : ∀ xs, (μ ++ [[]]).set μ.length xs = μ ++ [xs] := fun xs => by
    rw [List.set_append_right _ _ (Nat.le_refl _), Nat.sub_self]; rfl
  have htake : ∀ xs : List PyData, (μ ++ [xs]).take μ.length = μ := fun xs => by simp
  rcases w with ⟨rfl, ρ', xs, e⟩ | ⟨ρ', xs, e⟩
  · rw [hset] at e
    refine fn_ex (μ' := μ ++ [xs]) (x := encR .fuel) ?_ (by rw [htake])
    unfold runTest runBody b_run at e
    dsimp only at e
    unfold b_run
    apply ret_eq
    · apply ss_newlist
      · exact l_nil
      · exact rfl
      · exact Nat.zero_le _
      · apply ss_assign
        · repeat walk_at "ev"
        · apply whl_next
          · exact e
          · repeat walk_at "ev"
    · rfl
    · rfl
  · rw [hset] at e
    refine fn_ex (μ' := μ ++ [xs]) (x := encR r) ?_ (by rw [htake])
    unfold runTest runBody b_run at e
    dsimp only at e
    unfold b_run
    apply ret_eq
    · apply ss_newlist
      · exact l_nil
      · exact rfl
      · exact Nat.zero_le _
      · apply ss_assign
        · repeat walk_at "ev"
        · apply whl_ret
          exact e
    · rfl
    · rfl
end Mini

namespace Mini
open PySem

/-- what a run comes to, from a state that ends after c steps -/
def aft (ns : List Node) (c : Nat) (r : Option Val) (n : Nat) (fs : List Frm) : Option Res :=
  if n < c then some .fuel else match r with
    | none => some .stuck
    | some v => match fs with
      | [] => some (.done v)
      | f :: fs' => loop ns (n - c) (.back v) (f :: fs')
def Evals (ns : List Node) (p : Int) (e : List Val) (d c : Nat) (r : Option Val) : Prop := ∀ n fs, fs.length + d ≤ 1000 → loop ns n (.eval p e) fs = aft ns c r n fs
def Backs (ns : List Node) (v : Val) (f : Frm) (d c : Nat) (r : Option Val) : Prop := ∀ n fs, fs.length + d ≤ 1000 → loop ns n (.back v) (f :: fs) = aft ns c r n fs

section
variable {ns : List Node} {p q a : Int} {e e' : List Val} {d d' c c₁ c₂ : Nat} {r : Option Val} {v u : Val} {f f' : Frm}
theorem Evals.more (h : Evals ns p e d c r) (hd : d ≤ d') : Evals ns p e d' c r := fun n fs hf => h n fs (by omega)
theorem Backs.more (h : Backs ns v f d c r) (hd : d ≤ d') : Backs ns v f d' c r := fun n fs hf => h n fs (by omega)

theorem aft_zero (h : 0 < c) (fs : List Frm) : aft ns c r 0 fs = some .fuel := by unfold aft; rw [if_pos h]
/-- one step more ahead -/
theorem aft_succ (n : Nat) (fs : List Frm) : aft ns (c + 1) r (n + 1) fs = aft ns c r n fs := by
  unfold aft
  by_cases h : n < c
  · rw [if_pos h, if_pos (by omega)]
  · rw [if_neg h, if_neg (by omega), Nat.add_sub_add_right]
/-- c₁ steps to a value, then what comes behind it -/
theorem aft_then (n : Nat) (fs : List Frm) (h : Backs ns v f d c₂ r) (hf : fs.length + d ≤ 1000) : aft ns c₁ (some v) n (f :: fs) = aft ns (c₁ + c₂) r n fs := by
  unfold aft
  by_cases h1 : n < c₁
  · rw [if_pos h1, if_pos (by omega)]
  · rw [if_neg h1]
    show loop ns (n - c₁) (.back v) (f :: fs) = _
    rw [h _ fs hf]
    unfold aft
    by_cases h2 : n - c₁ < c₂
    · rw [if_pos h2, if_pos (by omega)]
    · rw [if_neg h2, if_neg (by omega), Nat.sub_sub]
theorem aft_stuck (n : Nat) (fs fs' : List Frm) : aft ns c none n fs = aft ns c none n fs' := rfl

theorem ev_back (hs : ∀ fs : List Frm, fs.length ≤ 1000 → begin ns p e fs = some (.back v, fs)) : Evals ns p e 0 1 (some v) := fun n fs hf => by
  cases n with
  | zero => exact (aft_zero (Nat.zero_lt_one) fs).symm
  | succ n =>
    rw [show (1 : Nat) = 0 + 1 from rfl, aft_succ]
    simp only [loop, stepM, hs fs (by omega), aft]
    cases fs <;> rfl
theorem ev_push (hs : ∀ fs : List Frm, fs.length ≤ 1000 → begin ns p e fs = some (.eval a e', f :: fs)) (h₁ : Evals ns a e' d c₁ (some v)) (h₂ : Backs ns v f d c₂ r) : Evals ns p e (d + 1) (c₁ + c₂ + 1) r := fun n fs hf => by
  cases n with
  | zero => exact (aft_zero (Nat.succ_pos _) fs).symm
  | succ n =>
    rw [aft_succ, ← aft_then n fs h₂ (by omega), ← h₁ n (f :: fs) (by simp only [List.length_cons]; omega)]
    simp only [loop, stepM, hs fs (by omega)]
theorem ev_push_stuck (hs : ∀ fs : List Frm, fs.length ≤ 1000 → begin ns p e fs = some (.eval a e', f :: fs)) (h₁ : Evals ns a e' d c₁ none) : Evals ns p e (d + 1) (c₁ + 1) none := fun n fs hf => by
  cases n with
  | zero => exact (aft_zero (Nat.succ_pos _) fs).symm
  | succ n =>
    rw [aft_succ, aft_stuck n fs (f :: fs), ← h₁ n (f :: fs) (by simp only [List.length_cons]; omega)]
    simp only [loop, stepM, hs fs (by omega)]
theorem ba_eval (hs : ∀ fs : List Frm, fs.length ≤ 1000 → resume ns v (f :: fs) = some (.eval q e', fs)) (h : Evals ns q e' d c r) : Backs ns v f d (c + 1) r := fun n fs hf => by
  cases n with
  | zero => exact (aft_zero (Nat.succ_pos _) fs).symm
  | succ n =>
    rw [aft_succ, ← h n fs hf]
    simp only [loop, stepM, hs fs (by omega)]
theorem ba_push (hs : ∀ fs : List Frm, fs.length ≤ 1000 → resume ns v (f :: fs) = some (.eval q e', f' :: fs)) (h₁ : Evals ns q e' d c₁ (some u)) (h₂ : Backs ns u f' d c₂ r) : Backs ns v f (d + 1) (c₁ + c₂ + 1) r := fun n fs hf => by
  cases n with
  | zero => exact (aft_zero (Nat.succ_pos _) fs).symm
  | succ n =>
    rw [aft_succ, ← aft_then n fs h₂ (by omega), ← h₁ n (f' :: fs) (by simp only [List.length_cons]; omega)]
    simp only [loop, stepM, hs fs (by omega)]
theorem ba_push_stuck (hs : ∀ fs : List Frm, fs.length ≤ 1000 → resume ns v (f :: fs) = some (.eval q e', f' :: fs)) (h₁ : Evals ns q e' d c₁ none) : Backs ns v f (d + 1) (c₁ + 1) none := fun n fs hf => by
  cases n with
  | zero => exact (aft_zero (Nat.succ_pos _) fs).symm
  | succ n =>
    rw [aft_succ, aft_stuck n fs (f' :: fs), ← h₁ n (f' :: fs) (by simp only [List.length_cons]; omega)]
    simp only [loop, stepM, hs fs (by omega)]
theorem ba_back (hs : ∀ fs : List Frm, fs.length ≤ 1000 → resume ns v (f :: fs) = some (.back u, fs)) : Backs ns v f 0 1 (some u) := fun n fs hf => by
  cases n with
  | zero => exact (aft_zero (Nat.zero_lt_one) fs).symm
  | succ n =>
    rw [show (1 : Nat) = 0 + 1 from rfl, aft_succ]
    simp only [loop, stepM, hs fs (by omega), aft]
    cases fs <;> rfl
theorem ba_stuck (hs : ∀ fs : List Frm, fs.length ≤ 1000 → resume ns v (f :: fs) = some (.stuck, fs)) : Backs ns v f 0 1 none := fun n fs hf => by
  cases n with
  | zero => exact (aft_zero (Nat.zero_lt_one) fs).symm
  | succ n =>
    rw [show (1 : Nat) = 0 + 1 from rfl, aft_succ]
    simp only [loop, stepM, hs fs (by omega), aft]
    rfl
end

/-! the constructs -/
section
variable {ns : List Node} {p i j k m : Int} {e : List Val} {d c c₁ c₂ : Nat} {r r' : Option Val} {v u : Val}
theorem ev_num (hn : nodeAt ns p = some ⟨.num, i, j, k⟩) (he : e.length ≤ 1000) : Evals ns p e 0 1 (some (.int i)) := ev_back fun fs hf => by
  simp only [begin, he, hf, hn, and_self, if_true]
theorem ev_bool (hn : nodeAt ns p = some ⟨.bool, i, j, k⟩) (he : e.length ≤ 1000) : Evals ns p e 0 1 (some (.bool i)) := ev_back fun fs hf => by
  simp only [begin, he, hf, hn, and_self, if_true]
theorem ev_lam (hn : nodeAt ns p = some ⟨.lam, i, j, k⟩) (he : e.length ≤ 1000) : Evals ns p e 0 1 (some (.clo i e)) := ev_back fun fs hf => by
  simp only [begin, he, hf, hn, and_self, if_true]
theorem ev_ref (hn : nodeAt ns p = some ⟨.ref, i, j, k⟩) (he : e.length ≤ 1000) (h0 : 0 ≤ i ∧ i < 9223372036854775808) (hv : e[i.toNat]? = some v) : Evals ns p e 0 1 (some v) := ev_back fun fs hf => by
  simp only [begin, he, hf, hn, and_self, if_true, if_pos h0, hv, Option.map_some]

def Tag.pushes : Tag → Bool
  | .num | .bool | .ref | .lam => false
  | _ => true
theorem begin_push {t : Tag} (ht : t.pushes = true) (hn : nodeAt ns p = some ⟨t, i, j, k⟩) (he : e.length ≤ 1000) (fs : List Frm) (hf : fs.length ≤ 1000) : begin ns p e fs = some (.eval i e, ⟨p, e, none⟩ :: fs) := by
  cases t <;> first | (simp only [begin, he, hf, hn, and_self, if_true]; done) | cases ht
/-- any construct whose first part gets stuck -/
theorem ev_stuck1 {t : Tag} (ht : t.pushes = true) (hn : nodeAt ns p = some ⟨t, i, j, k⟩) (he : e.length ≤ 1000) (h : Evals ns i e d c none) : Evals ns p e (d + 1) (c + 1) none := ev_push_stuck (begin_push ht hn he) h
theorem ev_let (hn : nodeAt ns p = some ⟨.let_, i, j, k⟩) (he : e.length ≤ 1000) (h₁ : Evals ns i e d c₁ (some v)) (h₂ : Evals ns j (v :: e) d c₂ r) : Evals ns p e (d + 1) (c₁ + (c₂ + 1) + 1) r :=
  ev_push (begin_push rfl hn he) h₁ (ba_eval (fun fs hf => by simp only [resume, he, hf, hn, and_self, if_true]) h₂)
/-- fst, snd, if: the first part's value is taken or refused at once -/
theorem ev_one {t : Tag} (ht : t.pushes = true) (hn : nodeAt ns p = some ⟨t, i, j, k⟩) (he : e.length ≤ 1000) (h₁ : Evals ns i e d c₁ (some v)) (h₂ : Backs ns v ⟨p, e, none⟩ d c₂ r) : Evals ns p e (d + 1) (c₁ + c₂ + 1) r :=
  ev_push (begin_push ht hn he) h₁ h₂

section
variable {c₃ : Nat} {x y : Int} {q : Int} {e' : List Val}
theorem ev_bin2 {t : Tag} (ht : t.pushes = true) (hn : nodeAt ns p = some ⟨t, i, j, k⟩) (he : e.length ≤ 1000) (h₁ : Evals ns i e d c₁ (some v)) (hs : ∀ fs : List Frm, fs.length ≤ 1000 → resume ns v (⟨p, e, none⟩ :: fs) = some (.eval j e, ⟨p, e, some v⟩ :: fs))
    (h₂ : Evals ns j e d c₂ (some u)) (h₃ : Backs ns u ⟨p, e, some v⟩ d c₃ r) : Evals ns p e (d + 2) (c₁ + (c₂ + c₃ + 1) + 1) r :=
  ev_one ht hn he (h₁.more (Nat.le_succ d)) (ba_push hs h₂ h₃)
theorem ev_bin2_stuck {t : Tag} (ht : t.pushes = true) (hn : nodeAt ns p = some ⟨t, i, j, k⟩) (he : e.length ≤ 1000) (h₁ : Evals ns i e d c₁ (some v)) (hs : ∀ fs : List Frm, fs.length ≤ 1000 → resume ns v (⟨p, e, none⟩ :: fs) = some (.eval j e, ⟨p, e, some v⟩ :: fs))
    (h₂ : Evals ns j e d c₂ none) : Evals ns p e (d + 2) (c₁ + (c₂ + 1) + 1) none :=
  ev_one ht hn he (h₁.more (Nat.le_succ d)) (ba_push_stuck hs h₂)
theorem ev_pair (hn : nodeAt ns p = some ⟨.pair, i, j, k⟩) (he : e.length ≤ 1000) (h₁ : Evals ns i e d c₁ (some v)) (h₂ : Evals ns j e d c₂ (some u)) : Evals ns p e (d + 2) (c₁ + (c₂ + 1 + 1) + 1) (some (.pair v u)) :=
  ev_bin2 rfl hn he h₁ (fun fs hf => by simp only [resume, he, hf, hn, and_self, if_true]) h₂ ((ba_back fun fs hf => by simp only [resume, he, hf, hn, and_self, if_true]).more (Nat.zero_le _))
theorem ev_pair_stuck (hn : nodeAt ns p = some ⟨.pair, i, j, k⟩) (he : e.length ≤ 1000) (h₁ : Evals ns i e d c₁ (some v)) (h₂ : Evals ns j e d c₂ none) : Evals ns p e (d + 2) (c₁ + (c₂ + 1) + 1) none :=
  ev_bin2_stuck rfl hn he h₁ (fun fs hf => by simp only [resume, he, hf, hn, and_self, if_true]) h₂
theorem ev_add (hn : nodeAt ns p = some ⟨.add, i, j, k⟩) (he : e.length ≤ 1000) (h₁ : Evals ns i e d c₁ (some (.int x))) (h₂ : Evals ns j e d c₂ (some (.int y))) : Evals ns p e (d + 2) (c₁ + (c₂ + 1 + 1) + 1) (some (.int (x + y))) :=
  ev_bin2 rfl hn he h₁ (fun fs hf => by simp only [resume, he, hf, hn, and_self, if_true]) h₂ ((ba_back fun fs hf => by simp only [resume, he, hf, hn, and_self, if_true]).more (Nat.zero_le _))
theorem ev_less (hn : nodeAt ns p = some ⟨.less, i, j, k⟩) (he : e.length ≤ 1000) (h₁ : Evals ns i e d c₁ (some (.int x))) (h₂ : Evals ns j e d c₂ (some (.int y))) : Evals ns p e (d + 2) (c₁ + (c₂ + 1 + 1) + 1) (some (.bool (if x < y then 1 else 0))) :=
  ev_bin2 rfl hn he h₁ (fun fs hf => by simp only [resume, he, hf, hn, and_self, if_true]) h₂ ((ba_back fun fs hf => by simp only [resume, he, hf, hn, and_self, if_true]).more (Nat.zero_le _))
def Val.isInt : Val → Bool
  | .int _ => true
  | _ => false
/-- add, less: the second part's value is no int -/
theorem ev_add_bad (hn : nodeAt ns p = some ⟨.add, i, j, k⟩) (he : e.length ≤ 1000) (h₁ : Evals ns i e d c₁ (some (.int x))) (h₂ : Evals ns j e d c₂ (some u)) (hu : u.isInt = false) : Evals ns p e (d + 2) (c₁ + (c₂ + 1 + 1) + 1) none :=
  ev_bin2 rfl hn he h₁ (fun fs hf => by simp only [resume, he, hf, hn, and_self, if_true]) h₂ ((ba_stuck fun fs hf => by cases u <;> first | (simp only [resume, he, hf, hn, and_self, if_true]; done) | cases hu).more (Nat.zero_le _))
theorem ev_less_bad (hn : nodeAt ns p = some ⟨.less, i, j, k⟩) (he : e.length ≤ 1000) (h₁ : Evals ns i e d c₁ (some (.int x))) (h₂ : Evals ns j e d c₂ (some u)) (hu : u.isInt = false) : Evals ns p e (d + 2) (c₁ + (c₂ + 1 + 1) + 1) none :=
  ev_bin2 rfl hn he h₁ (fun fs hf => by simp only [resume, he, hf, hn, and_self, if_true]) h₂ ((ba_stuck fun fs hf => by cases u <;> first | (simp only [resume, he, hf, hn, and_self, if_true]; done) | cases hu).more (Nat.zero_le _))
/-- the first part's value is refused at once -/
theorem ev_bad1 {t : Tag} (ht : t.pushes = true) (hn : nodeAt ns p = some ⟨t, i, j, k⟩) (he : e.length ≤ 1000) (h₁ : Evals ns i e d c₁ (some v)) (hs : ∀ fs : List Frm, fs.length ≤ 1000 → resume ns v (⟨p, e, none⟩ :: fs) = some (.stuck, fs)) : Evals ns p e (d + 1) (c₁ + 1 + 1) none :=
  ev_one ht hn he h₁ ((ba_stuck hs).more (Nat.zero_le _))
theorem ev_app (hn : nodeAt ns p = some ⟨.app, i, j, k⟩) (he : e.length ≤ 1000) (he' : e'.length ≤ 1000) (h₁ : Evals ns i e d c₁ (some (.clo q e'))) (h₂ : Evals ns j e d c₂ (some u)) (h₃ : Evals ns q (u :: e') d c₃ r) : Evals ns p e (d + 2) (c₁ + (c₂ + (c₃ + 1) + 1) + 1) r :=
  ev_bin2 rfl hn he h₁ (fun fs hf => by simp only [resume, he, hf, hn, and_self, if_true]) h₂ (ba_eval (fun fs hf => by simp only [resume, he, he', hf, hn, and_self, if_true]) h₃)
theorem ev_app_stuck (hn : nodeAt ns p = some ⟨.app, i, j, k⟩) (he : e.length ≤ 1000) (h₁ : Evals ns i e d c₁ (some (.clo q e'))) (h₂ : Evals ns j e d c₂ none) : Evals ns p e (d + 2) (c₁ + (c₂ + 1) + 1) none :=
  ev_bin2_stuck rfl hn he h₁ (fun fs hf => by simp only [resume, he, hf, hn, and_self, if_true]) h₂
theorem ev_fst (hn : nodeAt ns p = some ⟨.fst, i, j, k⟩) (he : e.length ≤ 1000) (h₁ : Evals ns i e d c₁ (some (.pair v u))) : Evals ns p e (d + 1) (c₁ + 1 + 1) (some v) :=
  ev_one rfl hn he h₁ ((ba_back fun fs hf => by simp only [resume, he, hf, hn, and_self, if_true]).more (Nat.zero_le _))
theorem ev_if (hn : nodeAt ns p = some ⟨.if_, i, j, k⟩) (he : e.length ≤ 1000) (h₁ : Evals ns i e d c₁ (some (.bool x))) (h₂ : Evals ns (if x = 1 then j else k) e d c₂ r) : Evals ns p e (d + 1) (c₁ + (c₂ + 1) + 1) r :=
  ev_one rfl hn he h₁ (ba_eval (fun fs hf => by simp only [resume, he, hf, hn, and_self, if_true]) h₂)
end
end
end Mini

namespace Mini
open PySem

theorem nodeAt_nat {ns : List Node} {i : Nat} (h : i ≤ 100000) : nodeAt ns (i : Int) = ns[i]? := by
  unfold nodeAt
  rw [if_pos (by omega)]
  rfl
theorem node_lay (ns : List Node) : PyData.canLayAll0 (ns.map encN) = true := by
  induction ns with
  | nil => simp [PyData.canLayAll0]
  | cons n ns ih =>
    have h : (encN n).canLay0 = true := by
      obtain ⟨t, a, b, c⟩ := n
      cases t <;> (simp only [encN, Tag.str, PyData.canLay0, PyData.canLayAll0]; decide +kernel)
    simp only [List.map_cons, PyData.canLayAll0, h, ih, Bool.and_self]
theorem node_depth (ns : List Node) : PyData.depthAll (ns.map encN) ≤ 1 := by
  induction ns with
  | nil => simp [PyData.depthAll]
  | cons n ns ih =>
    have h : (encN n).depth = 1 := by simp [encN, PyData.depth, PyData.depthAll]
    simp only [List.map_cons, PyData.depthAll, h]
    omega
theorem nodes_same (ns : List Node) : cmpD .NotEq (.list (ns.map encN)) (.list (ns.map encN)) = some false := by
  have hl : (PyData.list (ns.map encN)).canLay0 = true := by simp only [PyData.canLay0]; exact node_lay ns
  have h1 : eqOk (.list (ns.map encN)) (.list (ns.map encN)) = true := by
    have := node_depth ns
    unfold eqOk
    rw [hl, Bool.and_self, Bool.true_and]
    refine decide_eq_true ?_
    simp only [PyData.depth]
    omega
  show (if eqOk (.list (ns.map encN)) (.list (ns.map encN)) then some (!PyData.eqv (.list (ns.map encN)) (.list (ns.map encN))) else none) = _
  rw [if_pos h1, SeqAt.eqv_refl _ hl]; rfl
theorem res_lay : ∀ r : Res, (encR r).canLay0 = true
  | .done v => by simp only [encR, PyData.canLay0, PyData.canLayAll0, enc_lay v]; decide +kernel
  | .stuck => by simp only [encR, PyData.canLay0, PyData.canLayAll0]; decide +kernel
  | .fuel => by simp only [encR, PyData.canLay0, PyData.canLayAll0]; decide +kernel
def finR : Option Val → Res
  | none => .stuck
  | some v => .done v
/-- a whole run, from no frames -/
theorem Evals.run {ns : List Node} {p : Int} {d c : Nat} {r : Option Val} (h : Evals ns p [] d c r) (hd : d ≤ 1000) (n : Nat) : loop ns n (.eval p []) [] = some (if n < c then .fuel else finR r) := by
  rw [h n [] (by simpa using hd)]
  unfold aft
  split
  · rfl
  · cases r <;> rfl

mutual
theorem eqv_comm' : ∀ a b : PyData, PyData.eqv a b = PyData.eqv b a
  | .none, b => by cases b <;> rfl
  | .bool x, b => by
    cases b <;> first | rfl | (simp only [PyData.eqv]; first | exact Bool.beq_comm | (rename_i j; cases x <;> simp [eq_comm, BEq.comm]))
  | .int i, b => by
    cases b <;> first | rfl | (simp only [PyData.eqv]; first | exact BEq.comm | (rename_i x; cases x <;> simp [eq_comm, BEq.comm]))
  | .str x, b => by cases b <;> first | rfl | (simp only [PyData.eqv]; exact BEq.comm)
  | .list xs, b => by cases b <;> first | rfl | (simp only [PyData.eqv]; exact eqvAll_comm' xs _)
  | .tuple xs, b => by cases b <;> first | rfl | (simp only [PyData.eqv]; exact eqvAll_comm' xs _)
  | .dict _, b => by cases b <;> rfl
theorem eqvAll_comm' : ∀ xs ys : List PyData, PyData.eqvAll xs ys = PyData.eqvAll ys xs
  | [], ys => by cases ys <;> simp [PyData.eqvAll]
  | x :: xs, ys => by
    cases ys with
    | nil => simp [PyData.eqvAll]
    | cons y ys => simp only [PyData.eqvAll, eqv_comm' x y, eqvAll_comm' xs ys]
end
end Mini

namespace Mini
open PySem

theorem nodeTail {pre T : List Node} {i : Nat} {n : Node} (h : T[i]? = some n) (hl : (pre ++ T).length ≤ 1000) : nodeAt (pre ++ T) ((pre.length : Int) + (i : Int)) = some n := by
  have hi := (List.getElem?_eq_some_iff.mp h).1
  rw [List.length_append] at hl
  rw [show ((pre.length : Int) + (i : Int)) = ((pre.length + i : Nat) : Int) from by omega, nodeAt_nat (by omega), List.getElem?_append_right (by omega), Nat.add_sub_cancel_left]
  exact h
def depR : Option Val → Nat
  | none => 1
  | some v => (enc v).depth + 1
theorem depth_fin (r : Option Val) : (encR (finR r)).depth ≤ depR r := by
  cases r with
  | none => simp [finR, encR, PyData.depth, PyData.depthAll, depR]
  | some v => simp [finR, encR, PyData.depth, PyData.depthAll, depR]
theorem eqv_fuel (r : Option Val) : PyData.eqv (encR .fuel) (encR (finR r)) = false := by cases r <;> rfl

inductive Bs where
  | i | b | c
/-- a value's shape: j pairs around a base; or none at all -/
inductive Sh where
  | s
  | v (j : Nat) (b : Bs)
def VSh : Nat → Bs → Val → Prop
  | 0, .i, v => ∃ x, v = .int x
  | 0, .b, v => ∃ x, v = .bool x
  | 0, .c, v => ∃ p e, v = .clo p e
  | j + 1, b, v => ∃ a u, v = .pair a u ∧ VSh j b a

/-- a run that never ends -/
def Div (ns : List Node) (p : Int) (d : Nat) : Prop := ∀ n fs, fs.length + d ≤ 1000 → loop ns n (.eval p []) fs = some .fuel

section
variable {ns : List Node} {p i j k : Int} {d c : Nat} {v : Val}
theorem div_one {t : Tag} (ht : t.pushes = true) (hn : nodeAt ns p = some ⟨t, i, j, k⟩) (h : Div ns i d) : Div ns p (d + 1) := fun n fs hf => by
  cases n with
  | zero => rfl
  | succ n =>
    simp only [loop, stepM, begin_push ht hn (e := []) (by simp) fs (by omega)]
    exact h n (⟨p, [], none⟩ :: fs) (by simp only [List.length_cons]; omega)
theorem div_two {t : Tag} (ht : t.pushes = true) (hn : nodeAt ns p = some ⟨t, i, j, k⟩) (h₁ : Evals ns i [] d c (some v)) (hs : ∀ fs : List Frm, fs.length ≤ 1000 → resume ns v (⟨p, [], none⟩ :: fs) = some (.eval j [], ⟨p, [], some v⟩ :: fs)) (h : Div ns j d) : Div ns p (d + 1) := fun n fs hf => by
  cases n with
  | zero => rfl
  | succ n =>
    simp only [loop, stepM, begin_push ht hn (e := []) (by simp) fs (by omega)]
    show loop ns n (.eval i []) (⟨p, [], none⟩ :: fs) = _
    rw [h₁ n _ (by simp only [List.length_cons]; omega)]
    unfold aft
    split
    · rfl
    · show loop ns (n - c) (.back v) (⟨p, [], none⟩ :: fs) = _
      cases hm : n - c with
      | zero => rfl
      | succ m =>
        simp only [loop, stepM, hs fs (by omega)]
        exact h m _ (by simp only [List.length_cons]; omega)
end

/-- the leaf that calls itself for ever -/
def omegaNs : List Node := [⟨.ref, 0, 0, 0⟩, ⟨.ref, 0, 0, 0⟩, ⟨.app, 0, 1, 0⟩, ⟨.lam, 2, 0, 0⟩, ⟨.ref, 0, 0, 0⟩, ⟨.ref, 0, 0, 0⟩, ⟨.app, 4, 5, 0⟩, ⟨.let_, 3, 6, 0⟩]
section
variable {ns : List Node}
/-- calling the clo of the app at 2 in its own env comes back to itself -/
theorem self_app {p i j : Int} (hn : nodeAt ns p = some ⟨.app, i, j, 0⟩) (hi : nodeAt ns i = some ⟨.ref, 0, 0, 0⟩) (hj : nodeAt ns j = some ⟨.ref, 0, 0, 0⟩) {q : Int} {n : Nat} {fs : List Frm} (hf : fs.length ≤ 900) :
    loop ns n (.eval p [.clo q []]) fs = if n < 5 then some .fuel else loop ns (n - 5) (.eval q [.clo q []]) fs := by
  have hsmall : (0 : Int) ≤ 0 ∧ (0 : Int) < 9223372036854775808 := by omega
  have h0 : fs.length ≤ 1000 := by omega
  have h1 : (⟨p, [.clo q []], none⟩ :: fs : List Frm).length ≤ 1000 := by simp only [List.length_cons]; omega
  have h2 : (⟨p, [.clo q []], some (.clo q [])⟩ :: fs : List Frm).length ≤ 1000 := by simp only [List.length_cons]; omega
  have e1 : ([.clo q []] : List Val).length ≤ 1000 := by simp
  have s1 : begin ns p [.clo q []] fs = some (.eval i [.clo q []], ⟨p, [.clo q []], none⟩ :: fs) := begin_push rfl hn e1 fs h0
  have s2 : begin ns i [.clo q []] (⟨p, [.clo q []], none⟩ :: fs) = some (.back (.clo q []), ⟨p, [.clo q []], none⟩ :: fs) := by
    simp only [begin, e1, h1, hi, and_self, if_true, if_pos hsmall]; rfl
  have s3 : resume ns (.clo q []) (⟨p, [.clo q []], none⟩ :: fs) = some (.eval j [.clo q []], ⟨p, [.clo q []], some (.clo q [])⟩ :: fs) := by
    simp only [resume, e1, h0, hn, and_self, if_true]
  have s4 : begin ns j [.clo q []] (⟨p, [.clo q []], some (.clo q [])⟩ :: fs) = some (.back (.clo q []), ⟨p, [.clo q []], some (.clo q [])⟩ :: fs) := by
    simp only [begin, e1, h2, hj, and_self, if_true, if_pos hsmall]; rfl
  have s5 : resume ns (.clo q []) (⟨p, [.clo q []], some (.clo q [])⟩ :: fs) = some (.eval q [.clo q []], fs) := by
    simp only [resume, e1, h0, hn, and_self, if_true, List.length_nil, Nat.zero_le]
  match n with
  | 0 => rfl
  | 1 => simp only [loop, stepM, s1]; rfl
  | 2 => simp only [loop, stepM, s1, s2]; rfl
  | 3 => simp only [loop, stepM, s1, s2, s3]; rfl
  | 4 => simp only [loop, stepM, s1, s2, s3, s4]; rfl
  | m + 5 =>
    rw [if_neg (by omega), show m + 5 - 5 = m from by omega]
    simp only [loop, stepM, s1, s2, s3, s4, s5]
theorem self_div {q i j : Int} (hn : nodeAt ns q = some ⟨.app, i, j, 0⟩) (hi : nodeAt ns i = some ⟨.ref, 0, 0, 0⟩) (hj : nodeAt ns j = some ⟨.ref, 0, 0, 0⟩) {fs : List Frm} (hf : fs.length ≤ 900) : ∀ n, loop ns n (.eval q [.clo q []]) fs = some .fuel := by
  intro n
  induction n using Nat.strongRecOn with
  | _ n ih =>
    rw [self_app hn hi hj hf]
    split
    · rfl
    · exact ih _ (by omega)
theorem omega_div (T : List Node) (hT : T.length ≤ 100) : Div (omegaNs ++ T) 7 200 := fun n fs hf => by
  have at' : ∀ (i : Nat) n, omegaNs[i]? = some n → nodeAt (omegaNs ++ T) (i : Int) = some n := fun i n e => by
    have hi := (List.getElem?_eq_some_iff.mp e).1
    have : omegaNs.length = 8 := rfl
    rw [nodeAt_nat (by omega), List.getElem?_append_left hi, e]
  have n0 := at' 0 _ rfl
  have n1 := at' 1 _ rfl
  have n2 := at' 2 _ rfl
  have n3 := at' 3 _ rfl
  have n4 := at' 4 _ rfl
  have n5 := at' 5 _ rfl
  have n6 := at' 6 _ rfl
  have n7 := at' 7 _ rfl
  have h0 : fs.length ≤ 1000 := by omega
  have h1 : (⟨7, [], none⟩ :: fs : List Frm).length ≤ 1000 := by simp only [List.length_cons]; omega
  have e0 : ([] : List Val).length ≤ 1000 := by simp
  have s1 : begin (omegaNs ++ T) 7 [] fs = some (.eval 3 [], ⟨7, [], none⟩ :: fs) := begin_push rfl n7 e0 fs h0
  have s2 : begin (omegaNs ++ T) 3 [] (⟨7, [], none⟩ :: fs) = some (.back (.clo 2 []), ⟨7, [], none⟩ :: fs) := by
    have n3' : nodeAt (omegaNs ++ T) 3 = some ⟨.lam, 2, 0, 0⟩ := n3
    simp only [begin, e0, h1, n3', and_self, if_true]
  have s3 : resume (omegaNs ++ T) (.clo 2 []) (⟨7, [], none⟩ :: fs) = some (.eval 6 [.clo 2 []], fs) := by
    have n7' : nodeAt (omegaNs ++ T) 7 = some ⟨.let_, 3, 6, 0⟩ := n7
    simp only [resume, e0, h0, n7', and_self, if_true]
  match n with
  | 0 => rfl
  | 1 => simp only [loop, stepM, s1]
  | 2 => simp only [loop, stepM, s1, s2]
  | m + 3 =>
    simp only [loop, stepM, s1, s2, s3]
    rw [self_app (p := 6) (i := 4) (j := 5) (q := 2) (fs := fs) n6 n4 n5 (by omega)]
    split
    · rfl
    · exact self_div (q := 2) (i := 0) (j := 1) n2 n0 n1 (by omega) _
end

/-! the layers -/
def rowNs (k : Nat) (p : Int) : List Node := match k with
  | 0 => [⟨.num, 7, 0, 0⟩, ⟨.pair, p, p + 1, 0⟩]
  | 1 => [⟨.fst, p, 0, 0⟩]
  | 2 => [⟨.ref, 0, 0, 0⟩, ⟨.let_, p, p + 1, 0⟩]
  | 3 => [⟨.num, 7, 0, 0⟩, ⟨.add, p, p + 1, 0⟩]
  | 4 => [⟨.num, 7, 0, 0⟩, ⟨.less, p + 1, p, 0⟩]
  | 5 => [⟨.num, 7, 0, 0⟩, ⟨.num, 7, 0, 0⟩, ⟨.if_, p, p + 1, p + 2⟩]
  | 6 => [⟨.ref, 0, 0, 0⟩, ⟨.lam, p + 1, 0, 0⟩, ⟨.app, p + 2, p, 0⟩]
  | _ => [⟨.lam, p, 0, 0⟩]
def bef (k : Nat) : Nat := match k with
  | 4 | 6 => 3
  | _ => 1
def beh (k : Nat) : Nat := match k with
  | 0 | 3 => 3
  | 1 | 4 => 1
  | 2 | 5 | 6 => 2
  | _ => 0
def wantOk (k : Nat) : Nat → Bs → Bool
  | 0, .i => match k with | 0 | 2 | 3 | 4 | 6 => true | _ => false
  | 0, .b => match k with | 0 | 2 | 5 | 6 => true | _ => false
  | 0, .c => match k with | 0 | 2 | 6 => true | _ => false
  | _ + 1, _ => match k with | 0 | 1 | 2 | 6 => true | _ => false
def aftSh (k : Nat) (j : Nat) (b : Bs) : Sh := match k with
  | 0 => .v (j + 1) b
  | 1 => .v (j - 1) b
  | 2 | 6 => .v j b
  | 3 | 5 => .v 0 .i
  | 4 => .v 0 .b
  | _ => .v 0 .c
/-- the new cost and shape -/
def newOf (k : Nat) (c : Nat) (sh : Sh) : Nat × Sh := if k = 7 then (1, .v 0 .c) else match sh with
  | .s => (c + bef k, .s)
  | .v j b => if wantOk k j b then (c + bef k + beh k, aftSh k j b) else (c + bef k + 1, .s)
end Mini

set_option linter.constructorNameAsVariable false
namespace Mini
open PySem

/-- what the nodes so far come to: cost, shape, and what any run of a longer list shows -/
inductive Beh (m : Nat) (ns : List Node) : Nat → Sh → Prop where
  | stuck (c : Nat) (hc : c ≤ 1 + 6 * m) (h : ∀ T : List Node, T.length ≤ 100 - 3 * m → Evals (ns ++ T) ((ns.length : Int) - 1) [] (2 * m) c none) : Beh m ns c .s
  | val (c j : Nat) (b : Bs) (v : Val) (hc : c ≤ 1 + 6 * m) (hv : VSh j b v) (hj : j ≤ m) (hd : (enc v).depth ≤ 3 + 2 * m) (h : ∀ T : List Node, T.length ≤ 100 - 3 * m → Evals (ns ++ T) ((ns.length : Int) - 1) [] (2 * m) c (some v)) : Beh m ns c (.v j b)
  | div (c : Nat) (hc : 1000000 ≤ c) (h : ∀ T : List Node, T.length ≤ 100 - 3 * m → Div (ns ++ T) ((ns.length : Int) - 1) (200 + m)) : Beh m ns c .s

theorem depth_pair (a b : Val) : (enc (.pair a b)).depth ≤ max (enc a).depth (enc b).depth + 1 := by
  simp only [enc, PyData.depth, PyData.depthAll]; omega
theorem depth_fst (a b : Val) : (enc a).depth ≤ (enc (.pair a b)).depth := by
  simp only [enc, PyData.depth, PyData.depthAll]; omega
theorem depth_int (x : Int) : (enc (.int x)).depth ≤ 2 := by simp [enc, PyData.depth, PyData.depthAll]
theorem depth_bool (x : Int) : (enc (.bool x)).depth ≤ 2 := by simp [enc, PyData.depth, PyData.depthAll]
theorem depth_clo (p : Int) : (enc (.clo p [])).depth ≤ 2 := by simp [enc, encs, PyData.depth, PyData.depthAll]

theorem row_len (k : Nat) (p : Int) : 1 ≤ (rowNs k p).length ∧ (rowNs k p).length ≤ 3 := by unfold rowNs; split <;> simp

theorem bef_le (k : Nat) : bef k ≤ 3 := by unfold bef; split <;> omega
theorem bef_beh (k : Nat) : bef k + beh k ≤ 5 := by unfold bef beh; split <;> split <;> simp_all
section
variable {m : Nat} {ns : List Node}
theorem row_at {k : Nat} {p : Int} {T : List Node} (hl : ns.length ≤ 100) (hT : T.length ≤ 100) {i : Nat} {n : Node} (h : (rowNs k p)[i]? = some n) : nodeAt (ns ++ rowNs k p ++ T) ((ns.length : Int) + (i : Int)) = some n := by
  have hi := (List.getElem?_eq_some_iff.mp h).1
  rw [List.append_assoc]
  refine nodeTail ?_ ?_
  · rw [List.getElem?_append_left hi]; exact h
  · have := row_len k p
    simp only [List.length_append]; omega

theorem step_ok {k c : Nat} {sh : Sh} (hk : k < 8) (hm : m ≤ 2) (hl : 1 ≤ ns.length ∧ ns.length ≤ 8 + 3 * m) (H : Beh m ns c sh) : Beh (m + 1) (ns ++ rowNs k ((ns.length : Int) - 1)) (newOf k c sh).1 (newOf k c sh).2 := by
  obtain ⟨p, hp⟩ : ∃ p : Int, p = (ns.length : Int) - 1 := ⟨_, rfl⟩
  have A : ∀ T : List Node, T.length ≤ 100 - 3 * (m + 1) → ∀ (i : Nat) n, (rowNs k p)[i]? = some n → nodeAt (ns ++ rowNs k p ++ T) (p + 1 + (i : Int)) = some n := by
    intro T hT i n h
    rw [show p + 1 + (i : Int) = (ns.length : Int) + (i : Int) from by omega]
    exact row_at (by omega) (by omega) h
  have R := row_len k p
  have e0 : ([] : List Val).length ≤ 1000 := by simp
  have lenT : ∀ T : List Node, T.length ≤ 100 - 3 * (m + 1) → (rowNs k p ++ T).length ≤ 100 - 3 * m := by
    intro T hT; simp only [List.length_append]; omega
  rw [← hp]
  have rt : ∀ L : Nat, (rowNs k p).length = L → (((ns ++ rowNs k p).length : Int) - 1) = p + 1 + ((L : Int) - 1) := by
    intro L h; simp only [List.length_append, h]; omega
  by_cases k7 : k = 7
  · subst k7
    have := rt 1 rfl
    refine .val 1 0 .c (.clo p []) (by omega) ⟨_, _, rfl⟩ (by omega) (by have := depth_clo p; omega) fun T hT => ?_
    rw [this]
    exact (ev_lam (A T hT 0 _ rfl) e0).more (by omega)
  unfold newOf
  rw [if_neg k7]
  have seven : ∀ T : List Node, T.length ≤ 100 - 3 * (m + 1) → (k = 0 ∨ k = 3 ∨ k = 4 ∨ k = 5) → Evals (ns ++ rowNs k p ++ T) (p + 1) [] 0 1 (some (.int 7)) := by
    intro T hT h
    have : nodeAt (ns ++ rowNs k p ++ T) (p + 1 + ((0 : Nat) : Int)) = some ⟨.num, 7, 0, 0⟩ := A T hT 0 _ (by rcases h with rfl | rfl | rfl | rfl <;> rfl)
    simp only [Int.natCast_zero, Int.add_zero] at this
    exact ev_num this e0
  cases H with
  | stuck hc h =>
    have h' : ∀ T : List Node, T.length ≤ 100 - 3 * (m + 1) → Evals (ns ++ rowNs k p ++ T) p [] (2 * m) c none := by
      intro T hT; have := h _ (lenT T hT); rw [← hp, ← List.append_assoc] at this; exact this
    have hb := bef_le k
    show Beh (m + 1) (ns ++ rowNs k p) (c + bef k) .s
    refine .stuck _ (by omega) fun T hT => ?_
    have H := h' T hT
    rcases (by omega : k = 0 ∨ k = 1 ∨ k = 2 ∨ k = 3 ∨ k = 4 ∨ k = 5 ∨ k = 6) with rfl | rfl | rfl | rfl | rfl | rfl | rfl
    · rw [rt 2 rfl]; exact (ev_stuck1 rfl (A T hT 1 _ rfl) e0 H).more (by omega)
    · rw [rt 1 rfl]; exact (ev_stuck1 rfl (A T hT 0 _ rfl) e0 H).more (by omega)
    · rw [rt 2 rfl]; exact (ev_stuck1 rfl (A T hT 1 _ rfl) e0 H).more (by omega)
    · rw [rt 2 rfl]; exact (ev_stuck1 rfl (A T hT 1 _ rfl) e0 H).more (by omega)
    · rw [rt 2 rfl]
      have hn := A T hT 1 _ rfl
      have := ev_bin2_stuck rfl hn e0 ((seven T hT (by simp)).more (Nat.zero_le _)) (fun fs hf => by simp only [resume, e0, hf, hn, and_self, if_true]) H
      rw [show 1 + (c + 1) + 1 = c + bef 4 from by show _ = c + 3; omega] at this
      exact this.more (by omega)
    · rw [rt 3 rfl]; exact (ev_stuck1 rfl (A T hT 2 _ rfl) e0 H).more (by omega)
    · rw [rt 3 rfl]
      have hn := A T hT 2 _ rfl
      have h1 := A T hT 1 _ rfl
      have := ev_app_stuck hn e0 ((ev_lam (p := p + 2) (by rw [show p + 2 = p + 1 + ((1 : Nat) : Int) from by omega]; exact h1) e0).more (Nat.zero_le _)) H
      rw [show 1 + (c + 1) + 1 = c + bef 6 from by show _ = c + 3; omega] at this
      exact this.more (by omega)
  | div hc h =>
    have h' : ∀ T : List Node, T.length ≤ 100 - 3 * (m + 1) → Div (ns ++ rowNs k p ++ T) p (200 + m) := by
      intro T hT; have := h _ (lenT T hT); rw [← hp, ← List.append_assoc] at this; exact this
    show Beh (m + 1) (ns ++ rowNs k p) (c + bef k) .s
    refine .div _ (by omega) fun T hT => ?_
    have H := h' T hT
    rcases (by omega : k = 0 ∨ k = 1 ∨ k = 2 ∨ k = 3 ∨ k = 4 ∨ k = 5 ∨ k = 6) with rfl | rfl | rfl | rfl | rfl | rfl | rfl
    · rw [rt 2 rfl]; exact div_one rfl (A T hT 1 _ rfl) H
    · rw [rt 1 rfl]; exact div_one rfl (A T hT 0 _ rfl) H
    · rw [rt 2 rfl]; exact div_one rfl (A T hT 1 _ rfl) H
    · rw [rt 2 rfl]; exact div_one rfl (A T hT 1 _ rfl) H
    · rw [rt 2 rfl]
      have hn := A T hT 1 _ rfl
      have := div_two rfl hn ((seven T hT (by simp)).more (Nat.zero_le _)) (fun fs hf => by simp only [resume, e0, hf, hn, and_self, if_true]) H
      exact this
    · rw [rt 3 rfl]; exact div_one rfl (A T hT 2 _ rfl) H
    · rw [rt 3 rfl]
      have hn := A T hT 2 _ rfl
      have h1 := A T hT 1 _ rfl
      have := div_two rfl hn ((ev_lam (p := p + 2) (by rw [show p + 2 = p + 1 + ((1 : Nat) : Int) from by omega]; exact h1) e0).more (Nat.zero_le _)) (fun fs hf => by simp only [resume, e0, hf, hn, and_self, if_true]) H
      exact this
  | val j b v hc hv hj hd h =>
    have h' : ∀ T : List Node, T.length ≤ 100 - 3 * (m + 1) → Evals (ns ++ rowNs k p ++ T) p [] (2 * m) c (some v) := by
      intro T hT; have := h _ (lenT T hT); rw [← hp, ← List.append_assoc] at this; exact this
    have cb : c + bef k + 1 ≤ 1 + 6 * (m + 1) := by have := bef_le k; omega
    have cB : c + bef k + beh k ≤ 1 + 6 * (m + 1) := by have := bef_beh k; omega
    rcases (by omega : k = 0 ∨ k = 1 ∨ k = 2 ∨ k = 3 ∨ k = 4 ∨ k = 5 ∨ k = 6) with rfl | rfl | rfl | rfl | rfl | rfl | rfl
    · -- pair
      have w : wantOk 0 j b = true := by cases j <;> cases b <;> rfl
      simp only [w, if_true]
      refine .val _ (j + 1) b (.pair v (.int 7)) cB ⟨_, _, rfl, hv⟩ (by omega) (by have := depth_pair v (.int 7); have := depth_int 7; omega) fun T hT => ?_
      rw [rt 2 rfl]
      exact (ev_pair (A T hT 1 _ rfl) e0 (h' T hT) ((seven T hT (by simp)).more (Nat.zero_le _))).more (by omega)
    · -- fst
      cases j with
      | zero =>
        have w : wantOk 1 0 b = false := by cases b <;> rfl
        simp only [w]
        refine .stuck _ cb fun T hT => ?_
        rw [rt 1 rfl]
        have hn := A T hT 0 _ rfl
        exact (ev_bad1 rfl hn e0 (h' T hT) (fun fs hf => by cases b <;> (first | (obtain ⟨x, rfl⟩ := hv) | (obtain ⟨x, y, rfl⟩ := hv)) <;> simp only [resume, e0, hf, hn, and_self, if_true])).more (by omega)
      | succ j =>
        have w : wantOk 1 (j + 1) b = true := rfl
        simp only [w, if_true]
        obtain ⟨a, u, rfl, hv'⟩ := hv
        refine .val _ j b a cB hv' (by omega) (by have := depth_fst a u; omega) fun T hT => ?_
        rw [rt 1 rfl]
        exact (ev_fst (A T hT 0 _ rfl) e0 (h' T hT)).more (by omega)
    · -- let
      have w : wantOk 2 j b = true := by cases j <;> cases b <;> rfl
      simp only [w, if_true]
      refine .val _ j b v cB hv (by omega) (by omega) fun T hT => ?_
      rw [rt 2 rfl]
      have hr := A T hT 0 _ rfl
      simp only [Int.natCast_zero, Int.add_zero] at hr
      exact (ev_let (A T hT 1 _ rfl) e0 (h' T hT) ((ev_ref (e := [v]) hr (by simp) (by omega) rfl).more (Nat.zero_le _))).more (by omega)
    · -- add
      have bad : (∀ x, v ≠ .int x) → wantOk 3 j b = false → ∀ T : List Node, T.length ≤ 100 - 3 * (m + 1) → Evals (ns ++ rowNs 3 p ++ T) (p + 1 + ((2 : Nat) : Int) - 1) [] (2 * (m + 1)) (c + bef 3 + 1) none := by
        intro hx _ T hT
        have hn := A T hT 1 _ rfl
        rw [show p + 1 + ((2 : Nat) : Int) - 1 = p + 1 + ((1 : Nat) : Int) from by omega]
        exact (ev_bad1 rfl hn e0 (h' T hT) (fun fs hf => by cases v <;> first | exact absurd rfl (hx _) | simp only [resume, e0, hf, hn, and_self, if_true])).more (by omega)
      have stk : (∀ x, v ≠ .int x) → wantOk 3 j b = false → Beh (m + 1) (ns ++ rowNs 3 p) (if wantOk 3 j b then (c + bef 3 + beh 3, aftSh 3 j b) else (c + bef 3 + 1, Sh.s)).1 (if wantOk 3 j b then (c + bef 3 + beh 3, aftSh 3 j b) else (c + bef 3 + 1, Sh.s)).2 := by
        intro hx w
        simp only [w]
        refine .stuck _ cb fun T hT => ?_
        rw [rt 2 rfl]
        have := bad hx w T hT
        rw [show p + 1 + (((2 : Nat) : Int) - 1) = p + 1 + ((2 : Nat) : Int) - 1 from by omega]
        exact this
      cases j with
      | succ j => obtain ⟨a, u, rfl, _⟩ := hv; exact stk (fun x h => nomatch h) rfl
      | zero =>
        cases b with
        | b => obtain ⟨x, rfl⟩ := hv; exact stk (fun x h => nomatch h) rfl
        | c => obtain ⟨x, y, rfl⟩ := hv; exact stk (fun x h => nomatch h) rfl
        | i =>
          obtain ⟨x, rfl⟩ := hv
          refine .val _ 0 .i (.int (x + 7)) cB ⟨_, rfl⟩ (by omega) (by have := depth_int (x + 7); omega) fun T hT => ?_
          rw [rt 2 rfl]
          exact (ev_add (A T hT 1 _ rfl) e0 (h' T hT) ((seven T hT (by simp)).more (Nat.zero_le _))).more (by omega)
    · -- less
      have stk : v.isInt = false → wantOk 4 j b = false → Beh (m + 1) (ns ++ rowNs 4 p) (if wantOk 4 j b then (c + bef 4 + beh 4, aftSh 4 j b) else (c + bef 4 + 1, Sh.s)).1 (if wantOk 4 j b then (c + bef 4 + beh 4, aftSh 4 j b) else (c + bef 4 + 1, Sh.s)).2 := by
        intro hx w
        simp only [w]
        refine .stuck _ cb fun T hT => ?_
        rw [rt 2 rfl]
        have := ev_less_bad (A T hT 1 _ rfl) e0 ((seven T hT (by simp)).more (Nat.zero_le _)) (h' T hT) hx
        rw [show 1 + (c + 1 + 1) + 1 = c + bef 4 + 1 from by show _ = c + 3 + 1; omega] at this
        exact this.more (by omega)
      cases j with
      | succ j => obtain ⟨a, u, rfl, _⟩ := hv; exact stk rfl rfl
      | zero =>
        cases b with
        | b => obtain ⟨x, rfl⟩ := hv; exact stk rfl rfl
        | c => obtain ⟨x, y, rfl⟩ := hv; exact stk rfl rfl
        | i =>
          obtain ⟨x, rfl⟩ := hv
          refine .val _ 0 .b (.bool (if 7 < x then 1 else 0)) cB ⟨_, rfl⟩ (by omega) (by have := depth_bool (if 7 < x then 1 else 0); omega) fun T hT => ?_
          rw [rt 2 rfl]
          have := ev_less (A T hT 1 _ rfl) e0 ((seven T hT (by simp)).more (Nat.zero_le _)) (h' T hT)
          rw [show 1 + (c + 1 + 1) + 1 = c + bef 4 + beh 4 from by show _ = c + 3 + 1; omega] at this
          exact this.more (by omega)
    · -- if
      have stk : (∀ x, v ≠ .bool x) → wantOk 5 j b = false → Beh (m + 1) (ns ++ rowNs 5 p) (if wantOk 5 j b then (c + bef 5 + beh 5, aftSh 5 j b) else (c + bef 5 + 1, Sh.s)).1 (if wantOk 5 j b then (c + bef 5 + beh 5, aftSh 5 j b) else (c + bef 5 + 1, Sh.s)).2 := by
        intro hx w
        simp only [w]
        refine .stuck _ cb fun T hT => ?_
        rw [rt 3 rfl]
        have hn := A T hT 2 _ rfl
        exact (ev_bad1 rfl hn e0 (h' T hT) (fun fs hf => by cases v <;> first | exact absurd rfl (hx _) | simp only [resume, e0, hf, hn, and_self, if_true])).more (by omega)
      cases j with
      | succ j => obtain ⟨a, u, rfl, _⟩ := hv; exact stk (fun x h => nomatch h) rfl
      | zero =>
        cases b with
        | i => obtain ⟨x, rfl⟩ := hv; exact stk (fun x h => nomatch h) rfl
        | c => obtain ⟨x, y, rfl⟩ := hv; exact stk (fun x h => nomatch h) rfl
        | b =>
          obtain ⟨x, rfl⟩ := hv
          refine .val _ 0 .i (.int 7) cB ⟨_, rfl⟩ (by omega) (by have := depth_int 7; omega) fun T hT => ?_
          rw [rt 3 rfl]
          have h1 := A T hT 1 _ rfl
          have ev2 : Evals (ns ++ rowNs 5 p ++ T) (if x = 1 then p + 1 else p + 2) [] (2 * m) 1 (some (.int 7)) := by
            split
            · exact (seven T hT (by simp)).more (Nat.zero_le _)
            · exact (ev_num (p := p + 2) (by rw [show p + 2 = p + 1 + ((1 : Nat) : Int) from by omega]; exact h1) e0).more (Nat.zero_le _)
          exact (ev_if (A T hT 2 _ rfl) e0 (h' T hT) ev2).more (by omega)
    · -- app
      have w : wantOk 6 j b = true := by cases j <;> cases b <;> rfl
      simp only [w, if_true]
      refine .val _ j b v cB hv (by omega) (by omega) fun T hT => ?_
      rw [rt 3 rfl]
      have hr := A T hT 0 _ rfl
      simp only [Int.natCast_zero, Int.add_zero] at hr
      have h1 := A T hT 1 _ rfl
      have := ev_app (A T hT 2 _ rfl) e0 e0 ((ev_lam (p := p + 2) (by rw [show p + 2 = p + 1 + ((1 : Nat) : Int) from by omega]; exact h1) e0).more (Nat.zero_le _)) (h' T hT) ((ev_ref (e := [v]) hr (by simp) (by omega) rfl).more (Nat.zero_le _))
      rw [show 1 + (c + (1 + 1) + 1) + 1 = c + bef 6 + beh 6 from by show _ = c + 3 + 2; omega] at this
      exact this.more (by omega)
end
end Mini

set_option linter.constructorNameAsVariable false
namespace Mini
open PySem
local macro_rules | `(tactic| walk_at "evd") => `(tactic| first
  | ((with_reducible apply e_var); exact rfl)
  | with_reducible exact e_int | with_reducible exact e_str | with_reducible apply l_cons | with_reducible exact l_nil
  | with_reducible apply e_bin' | with_reducible apply e_idx' | with_reducible apply e_cmp'
  | with_reducible apply e_tup | with_reducible apply e_lst | with_reducible exact e_none | with_reducible exact e_bool
  | with_reducible apply e_prim1 | with_reducible apply e_prim2 | with_reducible apply e_call | with_reducible apply e_slc' | with_reducible apply e_isBool
  | with_reducible assumption
  | with_reducible apply b_val | with_reducible apply b_bop | with_reducible exact bs_and_nil | with_reducible exact bs_or_nil
  | ((with_reducible apply bs_and_f); (repeat walk_at "evd"); done) | ((with_reducible apply bs_and_t); (case h => (repeat walk_at "evd"); done))
  | ((with_reducible apply bs_or_t); (repeat walk_at "evd"); done) | ((with_reducible apply bs_or_f); (case h => (repeat walk_at "evd"); done))
  | with_reducible apply b_not_t | with_reducible apply b_not_f
  | ((with_reducible apply e_ite_t); (case hc => (repeat walk_at "evd"); done)) | ((with_reducible apply e_ite_f); (case hc => (repeat walk_at "evd"); done))
  | ((with_reducible apply e_bop); (case ha => (repeat walk_at "evd"); done))
  | with_reducible exact v_nil | ((with_reducible apply v_stop); (case hr => exact rfl)) | ((with_reducible apply v_on); (case hr => exact rfl))
  | with_reducible exact ss_nil | with_reducible apply ss_ret | with_reducible apply ss_assign | with_reducible apply ss_unpack
  | ((with_reducible apply ss_ite_t); (case hc => (repeat walk_at "evd"); done)) | ((with_reducible apply ss_ite_f); (case hc => (repeat walk_at "evd"); done))
  | with_reducible exact then_ret | with_reducible apply then_next
  | exact rfl
  | exact Nat.le_of_ble_eq_true rfl)


def n_law_more_fuel_changes_nothing : List Str := ["nodes", "fuel", "more", "end"]
/-- 3 parameters, 1 further names -/
def b_law_more_fuel_changes_nothing : MSs :=
 (.cons (.assign 3 (.call 2 (.cons (.var 0) (.cons (.var 1) .nil))))
 (.cons (.ret (.bop .Or (.cmp .Eq (.idx (.var 3) (.int 0)) (.str ⟨#[102, 117, 101, 108]⟩)) (.cons (.cmp .Eq (.call 2 (.cons (.var 0) (.cons (.bin .Add (.var 1) (.var 2)) .nil))) (.var 3)) .nil)))
 .nil))

def n_law_cell : List Str := ["script", "i"]
/-- 2 parameters, 0 further names -/
def b_law_cell : MSs :=
 (.cons (.ite (.val (.cmp .Lt (.var 1) (.prim .len (.cons (.var 0) .nil))))
 (.cons (.ret (.idx (.var 0) (.var 1)))
 .nil)
 .nil)
 (.cons (.ret (.int 0))
 .nil))

def n_law_layer : List Str := ["k", "p", "shape", "num", "ref", "table"]
/-- 3 parameters, 3 further names -/
def b_law_layer : MSs :=
 (.cons (.assign 3 (.tup (.cons (.str ⟨#[110, 117, 109]⟩) (.cons (.int 7) (.cons (.int 0) (.cons (.int 0) .nil))))))
 (.cons (.assign 4 (.tup (.cons (.str ⟨#[114, 101, 102]⟩) (.cons (.int 0) (.cons (.int 0) (.cons (.int 0) .nil))))))
 (.cons (.assign 5 (.lst (.cons (.tup (.cons (.lst (.cons (.var 3) (.cons (.tup (.cons (.str ⟨#[112, 97, 105, 114]⟩) (.cons (.var 1) (.cons (.bin .Add (.var 1) (.int 1)) (.cons (.int 0) .nil))))) .nil))) (.cons (.int 1) (.cons (.str ⟨#[112, 99, 105, 98]⟩) (.cons (.int 3) (.cons (.bin .Add (.str ⟨#[112]⟩) (.var 2)) .nil)))))) (.cons (.tup (.cons (.lst (.cons (.tup (.cons (.str ⟨#[102, 115, 116]⟩) (.cons (.var 1) (.cons (.int 0) (.cons (.int 0) .nil))))) .nil)) (.cons (.int 1) (.cons (.str ⟨#[112]⟩) (.cons (.int 1) (.cons (.slc (.var 2) (.int 1) .none) .nil)))))) (.cons (.tup (.cons (.lst (.cons (.var 4) (.cons (.tup (.cons (.str ⟨#[108, 101, 116]⟩) (.cons (.var 1) (.cons (.bin .Add (.var 1) (.int 1)) (.cons (.int 0) .nil))))) .nil))) (.cons (.int 1) (.cons (.str ⟨#[112, 99, 105, 98]⟩) (.cons (.int 2) (.cons (.var 2) .nil)))))) (.cons (.tup (.cons (.lst (.cons (.var 3) (.cons (.tup (.cons (.str ⟨#[97, 100, 100]⟩) (.cons (.var 1) (.cons (.bin .Add (.var 1) (.int 1)) (.cons (.int 0) .nil))))) .nil))) (.cons (.int 1) (.cons (.str ⟨#[105]⟩) (.cons (.int 3) (.cons (.str ⟨#[105]⟩) .nil)))))) (.cons (.tup (.cons (.lst (.cons (.var 3) (.cons (.tup (.cons (.str ⟨#[108, 101, 115, 115]⟩) (.cons (.bin .Add (.var 1) (.int 1)) (.cons (.var 1) (.cons (.int 0) .nil))))) .nil))) (.cons (.int 3) (.cons (.str ⟨#[105]⟩) (.cons (.int 1) (.cons (.str ⟨#[98]⟩) .nil)))))) (.cons (.tup (.cons (.lst (.cons (.var 3) (.cons (.var 3) (.cons (.tup (.cons (.str ⟨#[105, 102]⟩) (.cons (.var 1) (.cons (.bin .Add (.var 1) (.int 1)) (.cons (.bin .Add (.var 1) (.int 2)) .nil))))) .nil)))) (.cons (.int 1) (.cons (.str ⟨#[98]⟩) (.cons (.int 2) (.cons (.str ⟨#[105]⟩) .nil)))))) (.cons (.tup (.cons (.lst (.cons (.var 4) (.cons (.tup (.cons (.str ⟨#[108, 97, 109]⟩) (.cons (.bin .Add (.var 1) (.int 1)) (.cons (.int 0) (.cons (.int 0) .nil))))) (.cons (.tup (.cons (.str ⟨#[97, 112, 112]⟩) (.cons (.bin .Add (.var 1) (.int 2)) (.cons (.var 1) (.cons (.int 0) .nil))))) .nil)))) (.cons (.int 3) (.cons (.str ⟨#[112, 99, 105, 98]⟩) (.cons (.int 2) (.cons (.var 2) .nil)))))) (.cons (.tup (.cons (.lst (.cons (.tup (.cons (.str ⟨#[108, 97, 109]⟩) (.cons (.var 1) (.cons (.int 0) (.cons (.int 0) .nil))))) .nil)) (.cons (.int 1) (.cons (.str ⟨#[]⟩) (.cons (.int 0) (.cons (.str ⟨#[99]⟩) .nil)))))) .nil))))))))))
 (.cons (.ret (.idx (.var 5) (.var 0)))
 .nil))))

def n_law_leaf : List Str := ["k", "n", "ref"]
/-- 2 parameters, 1 further names -/
def b_law_leaf : MSs :=
 (.cons (.ite (.val (.cmp .Eq (.var 0) (.int 0)))
 (.cons (.ret (.tup (.cons (.lst (.cons (.tup (.cons (.str ⟨#[110, 117, 109]⟩) (.cons (.var 1) (.cons (.int 0) (.cons (.int 0) .nil))))) .nil)) (.cons (.int 1) (.cons (.str ⟨#[105]⟩) .nil)))))
 .nil)
 .nil)
 (.cons (.ite (.val (.cmp .Eq (.var 0) (.int 1)))
 (.cons (.ret (.tup (.cons (.lst (.cons (.tup (.cons (.str ⟨#[98, 111, 111, 108]⟩) (.cons (.bin .Mod (.var 1) (.int 2)) (.cons (.int 0) (.cons (.int 0) .nil))))) .nil)) (.cons (.int 1) (.cons (.str ⟨#[98]⟩) .nil)))))
 .nil)
 .nil)
 (.cons (.assign 2 (.tup (.cons (.str ⟨#[114, 101, 102]⟩) (.cons (.int 0) (.cons (.int 0) (.cons (.int 0) .nil))))))
 (.cons (.ret (.tup (.cons (.lst (.cons (.var 2) (.cons (.var 2) (.cons (.tup (.cons (.str ⟨#[97, 112, 112]⟩) (.cons (.int 0) (.cons (.int 1) (.cons (.int 0) .nil))))) (.cons (.tup (.cons (.str ⟨#[108, 97, 109]⟩) (.cons (.int 2) (.cons (.int 0) (.cons (.int 0) .nil))))) (.cons (.var 2) (.cons (.var 2) (.cons (.tup (.cons (.str ⟨#[97, 112, 112]⟩) (.cons (.int 4) (.cons (.int 5) (.cons (.int 0) .nil))))) (.cons (.tup (.cons (.str ⟨#[108, 101, 116]⟩) (.cons (.int 3) (.cons (.int 6) (.cons (.int 0) .nil))))) .nil))))))))) (.cons (.int 1000000) (.cons (.str ⟨#[115]⟩) .nil)))))
 .nil))))

def n_law : List Str := ["script", "fuel", "total", "i", "kept", "got", "nodes", "cost", "shape", "k", "added", "before", "wanted", "behind", "after"]
/-- 1 parameters, 14 further names -/
def b_law : MSs :=
 (.cons (.assign 1 (.bin .Mod (.call 4 (.cons (.var 0) (.cons (.int 0) .nil))) (.int 24)))
 (.cons (.assign 2 (.bin .Mod (.call 4 (.cons (.var 0) (.cons (.int 1) .nil))) (.int 24)))
 (.cons (.unpack [6, 7, 8] (.call 6 (.cons (.bin .Mod (.call 4 (.cons (.var 0) (.cons (.int 2) .nil))) (.int 3)) (.cons (.call 4 (.cons (.var 0) (.cons (.int 3) .nil))) .nil))))
 (.cons (.forr 3 (.bin .Mod (.call 4 (.cons (.var 0) (.cons (.int 4) .nil))) (.int 4))
 (.cons (.assign 9 (.bin .Mod (.call 4 (.cons (.var 0) (.cons (.bin .Add (.int 5) (.var 3)) .nil))) (.int 8)))
 (.cons (.unpack [10, 11, 12, 13, 14] (.call 5 (.cons (.var 9) (.cons (.bin .Sub (.prim .len (.cons (.var 6) .nil)) (.int 1)) (.cons (.var 8) .nil)))))
 (.cons (.assign 6 (.bin .Add (.var 6) (.var 10)))
 (.cons (.ite (.val (.cmp .Eq (.var 9) (.int 7)))
 (.cons (.assign 7 (.int 1))
 (.cons (.assign 8 (.var 14))
 .nil))
 (.cons (.ite (.val (.cmp .Eq (.var 8) (.str ⟨#[115]⟩)))
 (.cons (.assign 7 (.bin .Add (.var 7) (.var 11)))
 .nil)
 (.cons (.ite (.val (.cmp .In (.idx (.var 8) (.int 0)) (.var 12)))
 (.cons (.assign 7 (.bin .Add (.bin .Add (.var 7) (.var 11)) (.var 13)))
 (.cons (.assign 8 (.var 14))
 .nil))
 (.cons (.assign 7 (.bin .Add (.bin .Add (.var 7) (.var 11)) (.int 1)))
 (.cons (.assign 8 (.str ⟨#[115]⟩))
 .nil)))
 .nil))
 .nil))
 .nil)))))
 (.cons (.ite (.bop .And (.cons (.val (.cmp .Lt (.var 7) (.int 100))) (.cons (.val (.cmp .Eq (.bin .Mod (.call 4 (.cons (.var 0) (.cons (.int 8) .nil))) (.int 4)) (.int 3))) .nil)))
 (.cons (.assign 2 (.bin .Add (.var 1) (.prim .abs (.cons (.call 4 (.cons (.var 0) (.cons (.int 9) .nil))) .nil))))
 .nil)
 .nil)
 (.cons (.assign 4 (.slc (.var 6) .none .none))
 (.cons (.assign 5 (.call 3 (.cons (.var 6) (.cons (.var 1) (.cons (.bin .Sub (.var 2) (.var 1)) .nil)))))
 (.cons (.ite (.bop .And (.cons (.val (.cmp .GtE (.var 1) (.var 7))) (.cons (.val (.cmp .Lt (.var 2) (.var 7))) .nil)))
 (.cons (.ite (.val (.cmp .IsNot (.var 5) (.bool false)))
 (.cons (.ret (.bool false))
 .nil)
 .nil)
 .nil)
 (.cons (.ite (.val (.cmp .IsNot (.var 5) (.bool true)))
 (.cons (.ret (.bool false))
 .nil)
 .nil)
 .nil))
 (.cons (.ite (.val (.cmp .NotEq (.var 6) (.var 4)))
 (.cons (.ret (.bool false))
 .nil)
 .nil)
 (.cons (.ret (.bool true))
 .nil))))))))))


def f_more : Fn := fun args μ => if args.length = 3 then fnOf [f_begin, f_resume, f_run] 1 b_law_more_fuel_changes_nothing args μ else none
def f_cell : Fn := fun args μ => if args.length = 2 then fnOf [f_begin, f_resume, f_run, f_more] 0 b_law_cell args μ else none
def f_layer : Fn := fun args μ => if args.length = 3 then fnOf [f_begin, f_resume, f_run, f_more, f_cell] 3 b_law_layer args μ else none
def f_leaf : Fn := fun args μ => if args.length = 2 then fnOf [f_begin, f_resume, f_run, f_more, f_cell, f_layer] 1 b_law_leaf args μ else none
def f_law : Fn := fun args μ => if args.length = 1 then fnOf [f_begin, f_resume, f_run, f_more, f_cell, f_layer, f_leaf] 14 b_law args μ else none
theorem f_more_at {args : List MV} {μ : Mu} (h : args.length = 3) : f_more args μ = fnOf [f_begin, f_resume, f_run] 1 b_law_more_fuel_changes_nothing args μ := by unfold f_more; exact if_pos h
theorem f_cell_at {args : List MV} {μ : Mu} (h : args.length = 2) : f_cell args μ = fnOf [f_begin, f_resume, f_run, f_more] 0 b_law_cell args μ := by unfold f_cell; exact if_pos h
theorem f_layer_at {args : List MV} {μ : Mu} (h : args.length = 3) : f_layer args μ = fnOf [f_begin, f_resume, f_run, f_more, f_cell] 3 b_law_layer args μ := by unfold f_layer; exact if_pos h
theorem f_leaf_at {args : List MV} {μ : Mu} (h : args.length = 2) : f_leaf args μ = fnOf [f_begin, f_resume, f_run, f_more, f_cell, f_layer] 1 b_law_leaf args μ := by unfold f_leaf; exact if_pos h
theorem f_law_at {args : List MV} {μ : Mu} (h : args.length = 1) : f_law args μ = fnOf [f_begin, f_resume, f_run, f_more, f_cell, f_layer, f_leaf] 14 b_law args μ := by unfold f_law; exact if_pos h

theorem cell_ok {xs : List Int} {i : Int} (hl : xs.length ≤ 63) (h0 : 0 ≤ i) : f_cell [.d (.list (xs.map .int)), .d (.int i)] [] = some (.int (xs.getD i.toNat 0), []) := by
  rw [f_cell_at rfl]
  have hlen : primD .len [.list (xs.map .int)] = some (.int (xs.length : Int)) := by
    simp only [primD, List.length_map]; rw [if_pos (by omega)]
  unfold b_law_cell
  by_cases hi : i < xs.length
  · have hc : cmpD .Lt (.int i) (.int (xs.length : Int)) = some true := by simp [cmpD, hi]
    have hx : idxD (.list (xs.map .int)) (.int i) = some (.int (xs.getD i.toNat 0)) := idx_list (by omega) (by
      rw [List.getElem?_map, List.getElem?_eq_getElem (by omega), List.getD_eq_getElem?_getD, List.getElem?_eq_getElem (by omega)]; rfl)
    apply fn_d
    · repeat walk_at "evd"
    · rfl
  · have hc : cmpD .Lt (.int i) (.int (xs.length : Int)) = some false := by simp [cmpD]; omega
    apply fn_d
    · repeat walk_at "evd"
    · rw [List.getD_eq_getElem?_getD, List.getElem?_eq_none (by omega)]; rfl
theorem cell_ex {xs : List Int} {i : Int} (hl : xs.length ≤ 63) (h0 : 0 ≤ i) : ∃ c, f_cell [.d (.list (xs.map .int)), .d (.int i)] [] = some (.int c, []) := ⟨_, cell_ok hl h0⟩

def isFuel : Res → Bool
  | .fuel => true
  | _ => false
theorem fuel_idx (a : Res) : ∃ s, idxD (encR a) (.int 0) = some (.str s) ∧ (s == (⟨#[102, 117, 101, 108]⟩ : Str)) = isFuel a := by
  cases a <;> exact ⟨_, rfl, rfl⟩
theorem more_ok {ns : List Node} {k m : Int} {a b : Res} (hl : ns.length ≤ 1000)
    (ha : loop ns k.toNat (.eval ((ns.length : Int) - 1) []) [] = some a) (hb : loop ns (k + m).toNat (.eval ((ns.length : Int) - 1) []) [] = some b) (hd : min (encR b).depth (encR a).depth ≤ 64) :
    f_more [.d (.list (ns.map encN)), .d (.int k), .d (.int m)] [] = some (.bool (isFuel a || PyData.eqv (encR b) (encR a)), []) := by
  rw [f_more_at rfl]
  have hra := run_ok (μ := []) ha hl
  have hrb := run_ok (μ := []) hb hl
  obtain ⟨s, hs, hsf⟩ := fuel_idx a
  have heq : cmpD .Eq (encR b) (encR a) = some (PyData.eqv (encR b) (encR a)) := by
    have h1 : eqOk (encR b) (encR a) = true := by
      unfold eqOk; rw [res_lay, res_lay, Bool.and_self, Bool.true_and]; exact decide_eq_true hd
    have h2 : cmpD .Eq (encR b) (encR a) = if eqOk (encR b) (encR a) then some (PyData.eqv (encR b) (encR a)) else none := by cases b <;> rfl
    rw [h2, if_pos h1]
  have hcs : cmpD .Eq (.str s) (.str ⟨#[102, 117, 101, 108]⟩) = some (isFuel a) := by simp only [cmpD, hsf]
  unfold b_law_more_fuel_changes_nothing
  generalize hA : encR a = A at *
  generalize hB : encR b = B at *
  cases hf : isFuel a with
  | true =>
    rw [hf] at hcs
    apply fn_d
    · apply ss_assign
      · repeat walk_at "evd"
      · apply ss_ret
        apply e_bop
        · repeat walk_at "evd"
        · exact v_stop rfl
    · rfl
  | false =>
    rw [hf] at hcs
    apply fn_d
    · apply ss_assign
      · repeat walk_at "evd"
      · apply ss_ret
        apply e_bop
        · repeat walk_at "evd"
        · apply v_on
          · rfl
          · repeat walk_at "evd"
          · exact v_nil
    · rfl

/-- what the nodes of a behaviour answer to the law's own call -/
theorem more_beh {m : Nat} {ns : List Node} {c : Nat} {sh : Sh} (hm : m ≤ 3) (hl : ns.length ≤ 100) (H : Beh m ns c sh) {f g : Int} (hf : 0 ≤ f ∧ f < 24) (hg : 0 ≤ f + g) :
    f_more [.d (.list (ns.map encN)), .d (.int f), .d (.int g)] [] = some (.bool (!(decide ((c : Int) ≤ f) && decide (f + g < (c : Int)))), []) ∧ (c < 100 ∨ 1000000 ≤ c) := by
  have fin : ∀ (r : Option Val), depR r ≤ 60 → Evals (ns ++ []) ((ns.length : Int) - 1) [] (2 * m) c r → f_more [.d (.list (ns.map encN)), .d (.int f), .d (.int g)] [] = some (.bool (!(decide ((c : Int) ≤ f) && decide (f + g < (c : Int)))), []) := by
    intro r hd h
    rw [List.append_nil] at h
    have d1 := depth_fin r
    have dF : (encR .fuel).depth ≤ 5 := by simp [encR, PyData.depth, PyData.depthAll]
    rw [more_ok (by omega) (h.run (by omega) _) (h.run (by omega) _) (by
      refine Nat.le_trans (Nat.min_le_right _ _) ?_
      split <;> omega)]
    congr 3
    by_cases h1 : f.toNat < c
    · rw [if_pos h1, decide_eq_false (by omega : ¬ (c : Int) ≤ f)]; rfl
    · rw [if_neg h1, decide_eq_true (by omega : (c : Int) ≤ f)]
      by_cases h2 : (f + g).toNat < c
      · rw [if_pos h2, decide_eq_true (by omega : f + g < (c : Int)), eqv_fuel]; cases r <;> rfl
      · rw [if_neg h2, decide_eq_false (by omega : ¬ f + g < (c : Int)), SeqAt.eqv_refl _ (res_lay _)]; cases r <;> rfl
  cases H with
  | stuck hc h => exact ⟨fin _ (by simp [depR]) (h [] (by simp)), by omega⟩
  | val j b v hc hv hj hd h => exact ⟨fin _ (by simp only [depR]; omega) (h [] (by simp)), by omega⟩
  | div hc h =>
    have hD := h [] (by simp)
    rw [List.append_nil] at hD
    refine ⟨?_, by omega⟩
    rw [more_ok (by omega) (hD _ [] (by simp; omega)) (hD _ [] (by simp; omega)) (by simp [encR, PyData.depth, PyData.depthAll]), decide_eq_false (by omega : ¬ (c : Int) ≤ f)]
    rfl

def wantS (k : Nat) : Str := match k with
  | 0 | 2 | 6 => ⟨#[112, 99, 105, 98]⟩
  | 1 => ⟨#[112]⟩
  | 3 | 4 => ⟨#[105]⟩
  | 5 => ⟨#[98]⟩
  | _ => ⟨#[]⟩
def aftS (k : Nat) (S U D : Str) : Str := match k with
  | 0 => U
  | 1 => D
  | 2 | 6 => S
  | 3 | 5 => ⟨#[105]⟩
  | 4 => ⟨#[98]⟩
  | _ => ⟨#[99]⟩
def rowD (k : Nat) (p : Int) (S U D : Str) : PyData := .tuple [.list ((rowNs k p).map encN), .int (bef k), .str (wantS k), .int (beh k), .str (aftS k S U D)]
def rowsD (p : Int) (S U D : Str) : List PyData := [rowD 0 p S U D, rowD 1 p S U D, rowD 2 p S U D, rowD 3 p S U D, rowD 4 p S U D, rowD 5 p S U D, rowD 6 p S U D, rowD 7 p S U D]
set_option maxHeartbeats 2000000 in
theorem layer_ok {k : Nat} {p : Int} {S U D : Str} (hk : k < 8) (hU : binD .Add (.str ⟨#[112]⟩) (.str S) = some (.str U)) (hD : slcD (.str S) (.int 1) .none = some (.str D)) :
    f_layer [.d (.int (k : Int)), .d (.int p), .d (.str S)] [] = some (rowD k p S U D, []) := by
  rw [f_layer_at rfl]
  have hx : idxD (.list (rowsD p S U D)) (.int (k : Int)) = some (rowD k p S U D) := idx_list (by omega) (by
    show (rowsD p S U D)[k]? = _
    rcases (by omega : k = 0 ∨ k = 1 ∨ k = 2 ∨ k = 3 ∨ k = 4 ∨ k = 5 ∨ k = 6 ∨ k = 7) with rfl | rfl | rfl | rfl | rfl | rfl | rfl | rfl <;> rfl)
  unfold b_law_layer
  unfold rowsD at hx
  apply fn_d
  · apply ss_assign
    · repeat walk_at "evd"
    · apply ss_assign
      · repeat walk_at "evd"
      · apply ss_assign
        · repeat walk_at "evd"
        · apply ss_ret
          apply e_idx
          · walk_at "evd"
          · walk_at "evd"
          · exact rfl
          · exact rfl
          · exact hx
  · rfl

def leafNs (k : Nat) (n : Int) : List Node := match k with
  | 0 => [⟨.num, n, 0, 0⟩]
  | 1 => [⟨.bool, n.fmod 2, 0, 0⟩]
  | _ => omegaNs
def leafC (k : Nat) : Nat := match k with
  | 2 => 1000000
  | _ => 1
def leafS (k : Nat) : Sh := match k with
  | 0 => .v 0 .i
  | 1 => .v 0 .b
  | _ => .s
def Bs.code : Bs → Str
  | .i => ⟨#[105]⟩ | .b => ⟨#[98]⟩ | .c => ⟨#[99]⟩
def shS : Sh → Str
  | .s => ⟨#[115]⟩
  | .v 0 .i => ⟨#[105]⟩
  | .v 0 .b => ⟨#[98]⟩
  | .v 0 .c => ⟨#[99]⟩
  | .v 1 .i => ⟨#[112, 105]⟩
  | .v 1 .b => ⟨#[112, 98]⟩
  | .v 1 .c => ⟨#[112, 99]⟩
  | .v 2 .i => ⟨#[112, 112, 105]⟩
  | .v 2 .b => ⟨#[112, 112, 98]⟩
  | .v 2 .c => ⟨#[112, 112, 99]⟩
  | .v _ .i => ⟨#[112, 112, 112, 105]⟩
  | .v _ .b => ⟨#[112, 112, 112, 98]⟩
  | .v _ .c => ⟨#[112, 112, 112, 99]⟩
theorem leaf_ok {k : Nat} {n : Int} (hk : k < 3) : f_leaf [.d (.int (k : Int)), .d (.int n)] [] = some (.tuple [.list ((leafNs k n).map encN), .int (leafC k), .str (shS (leafS k))], []) := by
  rw [f_leaf_at rfl]
  unfold b_law_leaf
  rcases (by omega : k = 0 ∨ k = 1 ∨ k = 2) with rfl | rfl | rfl
  · apply fn_d
    · apply ss_ite_t
      · repeat walk_at "evd"
      · apply ss_ret
        repeat walk_at "evd"
      · exact then_ret
    · rfl
  · apply fn_d
    · apply ss_ite_f
      · repeat walk_at "evd"
      · exact ss_nil
      · apply then_next
        apply ss_ite_t
        · repeat walk_at "evd"
        · apply ss_ret
          repeat walk_at "evd"
        · exact then_ret
    · rfl
  · apply fn_d
    · apply ss_ite_f
      · repeat walk_at "evd"
      · exact ss_nil
      · apply then_next
        apply ss_ite_f
        · repeat walk_at "evd"
        · exact ss_nil
        · apply then_next
          apply ss_assign
          · repeat walk_at "evd"
          · apply ss_ret
            repeat walk_at "evd"
    · rfl
theorem node_zero {n : Node} {T : List Node} : nodeAt ([n] ++ T) ((([n] : List Node).length : Int) - 1) = some n := by simp [nodeAt]
theorem leaf_beh {k : Nat} {n : Int} (hk : k < 3) : Beh 0 (leafNs k n) (leafC k) (leafS k) ∧ 1 ≤ (leafNs k n).length ∧ (leafNs k n).length ≤ 8 := by
  have e0 : ([] : List Val).length ≤ 1000 := by simp
  rcases (by omega : k = 0 ∨ k = 1 ∨ k = 2) with rfl | rfl | rfl
  · refine ⟨.val 1 0 .i (.int n) (by omega) ⟨_, rfl⟩ (by omega) (by have := depth_int n; omega) fun T hT => ?_, by simp [leafNs], by simp [leafNs]⟩
    exact ev_num (j := 0) (k := 0) node_zero e0
  · refine ⟨.val 1 0 .b (.bool (n.fmod 2)) (by omega) ⟨_, rfl⟩ (by omega) (by have := depth_bool (n.fmod 2); omega) fun T hT => ?_, by simp [leafNs], by simp [leafNs]⟩
    exact ev_bool (j := 0) (k := 0) node_zero e0
  · exact ⟨.div _ (by simp [leafC]) fun T hT => omega_div T (by omega), by simp [leafNs, omegaNs], by simp [leafNs, omegaNs]⟩
end Mini

set_option linter.constructorNameAsVariable false
namespace Mini
open PySem
local macro_rules | `(tactic| walk_at "evd") => `(tactic| first
  | ((with_reducible apply e_var); exact rfl)
  | with_reducible exact e_int | with_reducible exact e_str | with_reducible apply l_cons | with_reducible exact l_nil
  | with_reducible apply e_bin' | with_reducible apply e_idx' | with_reducible apply e_cmp'
  | with_reducible apply e_tup | with_reducible apply e_lst | with_reducible exact e_none | with_reducible exact e_bool
  | with_reducible apply e_prim1 | with_reducible apply e_prim2 | with_reducible apply e_call | with_reducible apply e_slc' | with_reducible apply e_isBool
  | with_reducible assumption
  | with_reducible apply b_val | with_reducible apply b_bop | with_reducible exact bs_and_nil | with_reducible exact bs_or_nil
  | ((with_reducible apply bs_and_f); (repeat walk_at "evd"); done) | ((with_reducible apply bs_and_t); (case h => (repeat walk_at "evd"); done))
  | ((with_reducible apply bs_or_t); (repeat walk_at "evd"); done) | ((with_reducible apply bs_or_f); (case h => (repeat walk_at "evd"); done))
  | with_reducible apply b_not_t | with_reducible apply b_not_f
  | ((with_reducible apply e_ite_t); (case hc => (repeat walk_at "evd"); done)) | ((with_reducible apply e_ite_f); (case hc => (repeat walk_at "evd"); done))
  | ((with_reducible apply e_bop); (case ha => (repeat walk_at "evd"); done))
  | with_reducible exact v_nil | ((with_reducible apply v_stop); (case hr => exact rfl)) | ((with_reducible apply v_on); (case hr => exact rfl))
  | with_reducible exact ss_nil | with_reducible apply ss_ret | with_reducible apply ss_assign | with_reducible apply ss_unpack
  | ((with_reducible apply ss_ite_t); (case hc => (repeat walk_at "evd"); done)) | ((with_reducible apply ss_ite_f); (case hc => (repeat walk_at "evd"); done))
  | with_reducible exact then_ret | with_reducible apply then_next
  | exact rfl
  | exact Nat.le_of_ble_eq_true rfl)



def hdS : Nat → Bs → Str
  | 0, b => b.code
  | _ + 1, _ => ⟨#[112]⟩
theorem in_ok {k : Nat} (hk : k < 7) {j : Nat} {b : Bs} (hj : j ≤ 2) : cmpD .In (.str (hdS j b)) (.str (wantS k)) = some (wantOk k j b) := by
  have key : (!(Builtin.Str.occurrences (wantS k) (hdS j b) 0 (wantS k).length 1).isEmpty) = wantOk k j b := by
    rcases (by omega : k = 0 ∨ k = 1 ∨ k = 2 ∨ k = 3 ∨ k = 4 ∨ k = 5 ∨ k = 6) with rfl | rfl | rfl | rfl | rfl | rfl | rfl <;> rcases (by omega : j = 0 ∨ j = 1 ∨ j = 2) with rfl | rfl | rfl <;> cases b <;> decide +kernel
  show some (!(Builtin.Str.occurrences (wantS k) (hdS j b) 0 (wantS k).length 1).isEmpty) = _
  rw [key]
def upS (sh : Sh) : Str := ⟨#[112]⟩ ++ shS sh
def dnS (sh : Sh) : Str := Txt.slice (shS sh) (some 1) none
theorem sh_len (sh : Sh) : (shS sh).length ≤ 4 := by
  unfold shS; split <;> decide
theorem up_ok (sh : Sh) : binD .Add (.str ⟨#[112]⟩) (.str (shS sh)) = some (.str (upS sh)) := by
  have := sh_len sh
  have h1 : (⟨#[112]⟩ : Str).length = 1 := rfl
  simp only [binD, upS]
  rw [if_pos (by omega)]
theorem dn_ok (sh : Sh) : slcD (.str (shS sh)) (.int 1) .none = some (.str (dnS sh)) := by
  have := sh_len sh
  simp only [slcD, dnS]
  rw [if_pos (by omega)]
theorem idx_ok {j : Nat} {b : Bs} (hj : j ≤ 2) : idxD (.str (shS (.v j b))) (.int 0) = some (.str (hdS j b)) := by
  rcases (by omega : j = 0 ∨ j = 1 ∨ j = 2) with rfl | rfl | rfl <;> cases b <;> rfl
theorem ns_ok {j : Nat} {b : Bs} (hj : j ≤ 2) : cmpD .Eq (.str (shS (.v j b))) (.str ⟨#[115]⟩) = some false := by
  rcases (by omega : j = 0 ∨ j = 1 ∨ j = 2) with rfl | rfl | rfl <;> cases b <;> rfl
theorem aft_ok {k j : Nat} {b : Bs} (hk : k < 8) (hj : j ≤ 2) (hw : k = 7 ∨ wantOk k j b = true) : aftS k (shS (.v j b)) (upS (.v j b)) (dnS (.v j b)) = shS (aftSh k j b) := by
  rcases (by omega : k = 0 ∨ k = 1 ∨ k = 2 ∨ k = 3 ∨ k = 4 ∨ k = 5 ∨ k = 6 ∨ k = 7) with rfl | rfl | rfl | rfl | rfl | rfl | rfl | rfl
  · rcases (by omega : j = 0 ∨ j = 1 ∨ j = 2) with rfl | rfl | rfl <;> cases b <;> rfl
  · rcases (by omega : j = 0 ∨ j = 1 ∨ j = 2) with rfl | rfl | rfl <;> cases b <;> first | rfl | (exact absurd hw (by decide))
  all_goals rfl

def bodyS : MSs := (.cons (.assign 9 (.bin .Mod (.call 4 (.cons (.var 0) (.cons (.bin .Add (.int 5) (.var 3)) .nil))) (.int 8)))
 (.cons (.unpack [10, 11, 12, 13, 14] (.call 5 (.cons (.var 9) (.cons (.bin .Sub (.prim .len (.cons (.var 6) .nil)) (.int 1)) (.cons (.var 8) .nil)))))
 (.cons (.assign 6 (.bin .Add (.var 6) (.var 10)))
 (.cons (.ite (.val (.cmp .Eq (.var 9) (.int 7)))
 (.cons (.assign 7 (.int 1))
 (.cons (.assign 8 (.var 14))
 .nil))
 (.cons (.ite (.val (.cmp .Eq (.var 8) (.str ⟨#[115]⟩)))
 (.cons (.assign 7 (.bin .Add (.var 7) (.var 11)))
 .nil)
 (.cons (.ite (.val (.cmp .In (.idx (.var 8) (.int 0)) (.var 12)))
 (.cons (.assign 7 (.bin .Add (.bin .Add (.var 7) (.var 11)) (.var 13)))
 (.cons (.assign 8 (.var 14))
 .nil))
 (.cons (.assign 7 (.bin .Add (.bin .Add (.var 7) (.var 11)) (.int 1)))
 (.cons (.assign 8 (.str ⟨#[115]⟩))
 .nil)))
 .nil))
 .nil))
 .nil))))
def tailS : MSs :=
 (.cons (.ite (.bop .And (.cons (.val (.cmp .Lt (.var 7) (.int 100))) (.cons (.val (.cmp .Eq (.bin .Mod (.call 4 (.cons (.var 0) (.cons (.int 8) .nil))) (.int 4)) (.int 3))) .nil)))
 (.cons (.assign 2 (.bin .Add (.var 1) (.prim .abs (.cons (.call 4 (.cons (.var 0) (.cons (.int 9) .nil))) .nil))))
 .nil)
 .nil)
 (.cons (.assign 4 (.slc (.var 6) .none .none))
 (.cons (.assign 5 (.call 3 (.cons (.var 6) (.cons (.var 1) (.cons (.bin .Sub (.var 2) (.var 1)) .nil)))))
 (.cons (.ite (.bop .And (.cons (.val (.cmp .GtE (.var 1) (.var 7))) (.cons (.val (.cmp .Lt (.var 2) (.var 7))) .nil)))
 (.cons (.ite (.val (.cmp .IsNot (.var 5) (.bool false)))
 (.cons (.ret (.bool false))
 .nil)
 .nil)
 .nil)
 (.cons (.ite (.val (.cmp .IsNot (.var 5) (.bool true)))
 (.cons (.ret (.bool false))
 .nil)
 .nil)
 .nil))
 (.cons (.ite (.val (.cmp .NotEq (.var 6) (.var 4)))
 (.cons (.ret (.bool false))
 .nil)
 .nil)
 (.cons (.ret (.bool true))
 .nil))))))
theorem b_law_eq : b_law = .cons (.assign 1 (.bin .Mod (.call 4 (.cons (.var 0) (.cons (.int 0) .nil))) (.int 24)))
 (.cons (.assign 2 (.bin .Mod (.call 4 (.cons (.var 0) (.cons (.int 1) .nil))) (.int 24)))
 (.cons (.unpack [6, 7, 8] (.call 6 (.cons (.bin .Mod (.call 4 (.cons (.var 0) (.cons (.int 2) .nil))) (.int 3)) (.cons (.call 4 (.cons (.var 0) (.cons (.int 3) .nil))) .nil))))
 (.cons (.forr 3 (.bin .Mod (.call 4 (.cons (.var 0) (.cons (.int 4) .nil))) (.int 4)) bodyS) tailS))) := rfl

section
variable {F : List Fn} {f4 f5 : Fn} {xs : PyData} {fu to i ci k L c c' bf bh : Int} {N A N2 : List PyData} {S S' W AF hd : Str} {t4 t5 t9 t10 t11 t12 t13 t14 : Option MV}
theorem turn_ok (hF4 : F[4]? = some f4) (hF5 : F[5]? = some f5) (hc : f4 [.d xs, .d (.int (5 + i))] [] = some (.int ci, [])) (hm : binD .Mod (.int ci) (.int 8) = some (.int k)) (hlen : primD .len [.list N] = some (.int L))
    (hlay : f5 [.d (.int k), .d (.int (L - 1)), .d (.str S)] [] = some (.tuple [.list A, .int bf, .str W, .int bh, .str AF], [])) (hadd : binD .Add (.list N) (.list A) = some (.list N2))
    (hb : (cmpD .Eq (.int k) (.int 7) = some true ∧ c' = 1 ∧ S' = AF) ∨ (cmpD .Eq (.int k) (.int 7) = some false ∧ cmpD .Eq (.str S) (.str ⟨#[115]⟩) = some true ∧ c' = c + bf ∧ S' = S) ∨
      (cmpD .Eq (.int k) (.int 7) = some false ∧ cmpD .Eq (.str S) (.str ⟨#[115]⟩) = some false ∧ idxD (.str S) (.int 0) = some (.str hd) ∧ cmpD .In (.str hd) (.str W) = some true ∧ c' = c + bf + bh ∧ S' = AF) ∨
      (cmpD .Eq (.int k) (.int 7) = some false ∧ cmpD .Eq (.str S) (.str ⟨#[115]⟩) = some false ∧ idxD (.str S) (.int 0) = some (.str hd) ∧ cmpD .In (.str hd) (.str W) = some false ∧ c' = c + bf + 1 ∧ S' = ⟨#[115]⟩)) :
    evSs F bodyS [some (.d xs), some (.d (.int fu)), some (.d (.int to)), some (.d (.int i)), t4, t5, some (.d (.list (N))), some (.d (.int (c))), some (.d (.str (S))), t9, t10, t11, t12, t13, t14] [] = some (.next, [some (.d xs), some (.d (.int fu)), some (.d (.int to)), some (.d (.int i)), t4, t5, some (.d (.list (N2))), some (.d (.int (c'))), some (.d (.str (S'))), some (.d (.int k)), some (.d (.list A)), some (.d (.int bf)), some (.d (.str W)), some (.d (.int bh)), some (.d (.str AF))], []) := by
  unfold bodyS
  rcases hb with ⟨z1, rfl, rfl⟩ | ⟨z1, z2, rfl, rfl⟩ | ⟨z1, z2, z3, z4, rfl, rfl⟩ | ⟨z1, z2, z3, z4, rfl, rfl⟩
  · apply ss_assign
    · repeat walk_at "evd"
    · apply ss_unpack
      · repeat walk_at "evd"
      · exact rfl
      · apply ss_assign
        · repeat walk_at "evd"
        · apply ss_ite_t
          · repeat walk_at "evd"
          · repeat walk_at "evd"
          · exact then_next ss_nil
  · apply ss_assign
    · repeat walk_at "evd"
    · apply ss_unpack
      · repeat walk_at "evd"
      · exact rfl
      · apply ss_assign
        · repeat walk_at "evd"
        · apply ss_ite_f
          · repeat walk_at "evd"
          · apply ss_ite_t
            · repeat walk_at "evd"
            · repeat walk_at "evd"
            · exact then_next ss_nil
          · exact then_next ss_nil
  · apply ss_assign
    · repeat walk_at "evd"
    · apply ss_unpack
      · repeat walk_at "evd"
      · exact rfl
      · apply ss_assign
        · repeat walk_at "evd"
        · apply ss_ite_f
          · repeat walk_at "evd"
          · apply ss_ite_f
            · repeat walk_at "evd"
            · apply ss_ite_t
              · repeat walk_at "evd"
              · repeat walk_at "evd"
              · exact then_next ss_nil
            · exact then_next ss_nil
          · exact then_next ss_nil
  · apply ss_assign
    · repeat walk_at "evd"
    · apply ss_unpack
      · repeat walk_at "evd"
      · exact rfl
      · apply ss_assign
        · repeat walk_at "evd"
        · apply ss_ite_f
          · repeat walk_at "evd"
          · apply ss_ite_f
            · repeat walk_at "evd"
            · apply ss_ite_f
              · repeat walk_at "evd"
              · repeat walk_at "evd"
              · exact then_next ss_nil
            · exact then_next ss_nil
          · exact then_next ss_nil
end
end Mini

set_option linter.constructorNameAsVariable false
namespace Mini
open PySem
local macro_rules | `(tactic| walk_at "evd") => `(tactic| first
  | ((with_reducible apply e_var); exact rfl)
  | with_reducible exact e_int | with_reducible exact e_str | with_reducible apply l_cons | with_reducible exact l_nil
  | with_reducible apply e_bin' | with_reducible apply e_idx' | with_reducible apply e_cmp'
  | with_reducible apply e_tup | with_reducible apply e_lst | with_reducible exact e_none | with_reducible exact e_bool
  | with_reducible apply e_prim1 | with_reducible apply e_prim2 | with_reducible apply e_call | with_reducible apply e_slc' | with_reducible apply e_isBool
  | with_reducible assumption
  | with_reducible apply b_val | with_reducible apply b_bop | with_reducible exact bs_and_nil | with_reducible exact bs_or_nil
  | ((with_reducible apply bs_and_f); (repeat walk_at "evd"); done) | ((with_reducible apply bs_and_t); (case h => (repeat walk_at "evd"); done))
  | ((with_reducible apply bs_or_t); (repeat walk_at "evd"); done) | ((with_reducible apply bs_or_f); (case h => (repeat walk_at "evd"); done))
  | with_reducible apply b_not_t | with_reducible apply b_not_f
  | ((with_reducible apply e_ite_t); (case hc => (repeat walk_at "evd"); done)) | ((with_reducible apply e_ite_f); (case hc => (repeat walk_at "evd"); done))
  | ((with_reducible apply e_bop); (case ha => (repeat walk_at "evd"); done))
  | with_reducible exact v_nil | ((with_reducible apply v_stop); (case hr => exact rfl)) | ((with_reducible apply v_on); (case hr => exact rfl))
  | with_reducible exact ss_nil | with_reducible apply ss_ret | with_reducible apply ss_assign | with_reducible apply ss_unpack
  | ((with_reducible apply ss_ite_t); (case hc => (repeat walk_at "evd"); done)) | ((with_reducible apply ss_ite_f); (case hc => (repeat walk_at "evd"); done))
  | with_reducible exact then_ret | with_reducible apply then_next
  | exact rfl
  | exact Nat.le_of_ble_eq_true rfl)



theorem fmod_nat (c : Int) (m : Nat) (h : 0 < m) : ∃ k : Nat, k < m ∧ c.fmod (m : Int) = (k : Int) := by
  have h1 := Int.fmod_nonneg_of_pos c (by omega : (0 : Int) < (m : Int))
  have h2 := Int.fmod_lt_of_pos c (by omega : (0 : Int) < (m : Int))
  exact ⟨(c.fmod m).toNat, by omega, by omega⟩
theorem mod_ok (c : Int) (m : Nat) (h : 0 < m) : ∃ k : Nat, k < m ∧ binD .Mod (.int c) (.int (m : Int)) = some (.int (k : Int)) := by
  obtain ⟨k, hk, e⟩ := fmod_nat c m h
  exact ⟨k, hk, by simp only [binD, if_neg (by omega : ¬ (m : Int) = 0), e]⟩
theorem add_nodes {a b : List Node} (h : a.length + b.length ≤ 1000) : binD .Add (.list (a.map encN)) (.list (b.map encN)) = some (.list ((a ++ b).map encN)) := by
  have h1 : (a.map encN).length + (b.map encN).length ≤ 16777216 := by simp; omega
  simp only [binD, if_pos h1, List.map_append]
theorem len_nodes {a : List Node} (h : a.length ≤ 1000) : primD .len [.list (a.map encN)] = some (.int (a.length : Int)) := by
  simp only [primD, List.length_map]; rw [if_pos (by omega)]

theorem loop_ok {xs : List Int} (hl : xs.length ≤ 63) {fu to : Int} {t4 t5 : Option MV} : ∀ (n m : Nat) (ns : List Node) (c : Nat) (sh : Sh) (t3 t9 t10 t11 t12 t13 t14 : Option MV), m + n ≤ 3 → Beh m ns c sh → 1 ≤ ns.length ∧ ns.length ≤ 8 + 3 * m →
    ∃ (ns' : List Node) (c' : Nat) (sh' : Sh) (u3 u9 u10 u11 u12 u13 u14 : Option MV), forF 3 (evSs [f_begin, f_resume, f_run, f_more, f_cell, f_layer, f_leaf] bodyS) n (m : Int) [some (.d (.list (xs.map .int))), some (.d (.int fu)), some (.d (.int to)), t3, t4, t5, some (.d (.list (ns.map encN))), some (.d (.int ((c : Int)))), some (.d (.str (shS sh))), t9, t10, t11, t12, t13, t14] [] = some (.next, [some (.d (.list (xs.map .int))), some (.d (.int fu)), some (.d (.int to)), u3, t4, t5, some (.d (.list (ns'.map encN))), some (.d (.int ((c' : Int)))), some (.d (.str (shS sh'))), u9, u10, u11, u12, u13, u14], []) ∧ Beh (m + n) ns' c' sh' ∧ ns'.length ≤ 8 + 3 * (m + n) := by
  intro n
  induction n with
  | zero => intro m ns c sh t3 t9 t10 t11 t12 t13 t14 hm H h; exact ⟨ns, c, sh, t3, t9, t10, t11, t12, t13, t14, rfl, H, h.2⟩
  | succ n ih =>
    intro m ns c sh t3 t9 t10 t11 t12 t13 t14 hm H h
    obtain ⟨ci, hci⟩ := cell_ex (xs := xs) (i := 5 + (m : Int)) hl (by omega)
    obtain ⟨k, hk, hmod⟩ := mod_ok ci 8 (by omega)
    have hlen := len_nodes (a := ns) (by omega)
    have hlay := layer_ok (k := k) (p := (ns.length : Int) - 1) hk (up_ok sh) (dn_ok sh)
    have hr := row_len k ((ns.length : Int) - 1)
    have hadd := add_nodes (a := ns) (b := rowNs k ((ns.length : Int) - 1)) (by omega)
    have H' := step_ok hk (by omega) h H
    have key : ∃ hd : Str, (cmpD .Eq (.int (k : Int)) (.int 7) = some true ∧ ((newOf k c sh).1 : Int) = 1 ∧ shS (newOf k c sh).2 = aftS k (shS sh) (upS sh) (dnS sh)) ∨ (cmpD .Eq (.int (k : Int)) (.int 7) = some false ∧ cmpD .Eq (.str (shS sh)) (.str ⟨#[115]⟩) = some true ∧ ((newOf k c sh).1 : Int) = (c : Int) + (bef k : Int) ∧ shS (newOf k c sh).2 = shS sh) ∨
      (cmpD .Eq (.int (k : Int)) (.int 7) = some false ∧ cmpD .Eq (.str (shS sh)) (.str ⟨#[115]⟩) = some false ∧ idxD (.str (shS sh)) (.int 0) = some (.str hd) ∧ cmpD .In (.str hd) (.str (wantS k)) = some true ∧ ((newOf k c sh).1 : Int) = (c : Int) + (bef k : Int) + (beh k : Int) ∧ shS (newOf k c sh).2 = aftS k (shS sh) (upS sh) (dnS sh)) ∨
      (cmpD .Eq (.int (k : Int)) (.int 7) = some false ∧ cmpD .Eq (.str (shS sh)) (.str ⟨#[115]⟩) = some false ∧ idxD (.str (shS sh)) (.int 0) = some (.str hd) ∧ cmpD .In (.str hd) (.str (wantS k)) = some false ∧ ((newOf k c sh).1 : Int) = (c : Int) + (bef k : Int) + 1 ∧ shS (newOf k c sh).2 = ⟨#[115]⟩) := by
      by_cases k7 : k = 7
      · subst k7
        exact ⟨default, .inl ⟨rfl, rfl, rfl⟩⟩
      · have z1 : cmpD .Eq (.int (k : Int)) (.int 7) = some false := by simp [cmpD]; omega
        cases sh with
        | s => exact ⟨default, .inr (.inl ⟨z1, rfl, by simp [newOf, k7], by simp [newOf, k7]⟩)⟩
        | v j b =>
          have hj : j ≤ 2 := by cases H with | val j b v hc hv hj hd h => omega
          cases hw : wantOk k j b with
          | true => exact ⟨hdS j b, .inr (.inr (.inl ⟨z1, ns_ok hj, idx_ok hj, by rw [in_ok (by omega) hj, hw], by simp [newOf, k7, hw], by rw [aft_ok hk hj (.inr hw)]; simp [newOf, k7, hw]⟩))⟩
          | false => exact ⟨hdS j b, .inr (.inr (.inr ⟨z1, ns_ok hj, idx_ok hj, by rw [in_ok (by omega) hj, hw], by simp [newOf, k7, hw], by simp [newOf, k7, hw, shS]⟩))⟩
    obtain ⟨hd, key⟩ := key
    have step := turn_ok (F := [f_begin, f_resume, f_run, f_more, f_cell, f_layer, f_leaf]) (fu := fu) (to := to) (t4 := t4) (t5 := t5) (t9 := t9) (t10 := t10) (t11 := t11) (t12 := t12) (t13 := t13) (t14 := t14) rfl rfl hci hmod hlen hlay hadd key
    obtain ⟨ns', c', sh', u3, u9, u10, u11, u12, u13, u14, e, HB, hL⟩ := ih (m + 1) (ns ++ rowNs k ((ns.length : Int) - 1)) (newOf k c sh).1 (newOf k c sh).2 (some (.d (.int (m : Int)))) (some (.d (.int (k : Int)))) (some (.d (.list ((rowNs k ((ns.length : Int) - 1)).map encN)))) (some (.d (.int (bef k : Int)))) (some (.d (.str (wantS k)))) (some (.d (.int (beh k : Int)))) (some (.d (.str (aftS k (shS sh) (upS sh) (dnS sh))))) (by omega) H' (by simp only [List.length_append]; omega)
    refine ⟨ns', c', sh', u3, u9, u10, u11, u12, u13, u14, ?_, by rw [show m + (n + 1) = m + 1 + n from by omega]; exact HB, by rw [show m + (n + 1) = m + 1 + n from by omega]; exact hL⟩
    rw [← e]
    simp only [forF, List.set_cons_succ, List.set_cons_zero]
    rw [step]
    rfl
end Mini

set_option linter.constructorNameAsVariable false
namespace Mini
open PySem
local macro_rules | `(tactic| walk_at "evd") => `(tactic| first
  | ((with_reducible apply e_var); exact rfl)
  | with_reducible exact e_int | with_reducible exact e_str | with_reducible apply l_cons | with_reducible exact l_nil
  | with_reducible apply e_bin' | with_reducible apply e_idx' | with_reducible apply e_cmp'
  | with_reducible apply e_tup | with_reducible apply e_lst | with_reducible exact e_none | with_reducible exact e_bool
  | with_reducible apply e_prim1 | with_reducible apply e_prim2 | with_reducible apply e_call | with_reducible apply e_slc' | with_reducible apply e_isBool
  | with_reducible assumption
  | with_reducible apply b_val | with_reducible apply b_bop | with_reducible exact bs_and_nil | with_reducible exact bs_or_nil
  | ((with_reducible apply bs_and_f); (repeat walk_at "evd"); done) | ((with_reducible apply bs_and_t); (case h => (repeat walk_at "evd"); done))
  | ((with_reducible apply bs_or_t); (repeat walk_at "evd"); done) | ((with_reducible apply bs_or_f); (case h => (repeat walk_at "evd"); done))
  | with_reducible apply b_not_t | with_reducible apply b_not_f
  | ((with_reducible apply e_ite_t); (case hc => (repeat walk_at "evd"); done)) | ((with_reducible apply e_ite_f); (case hc => (repeat walk_at "evd"); done))
  | ((with_reducible apply e_bop); (case ha => (repeat walk_at "evd"); done))
  | with_reducible exact v_nil | ((with_reducible apply v_stop); (case hr => exact rfl)) | ((with_reducible apply v_on); (case hr => exact rfl))
  | with_reducible exact ss_nil | with_reducible apply ss_ret | with_reducible apply ss_assign | with_reducible apply ss_unpack
  | ((with_reducible apply ss_ite_t); (case hc => (repeat walk_at "evd"); done)) | ((with_reducible apply ss_ite_f); (case hc => (repeat walk_at "evd"); done))
  | with_reducible exact then_ret | with_reducible apply then_next
  | exact rfl
  | exact Nat.le_of_ble_eq_true rfl)



theorem ss_for {F : List Fn} {ρ ρ' : Rho} {μ μ₁ μ' : Mu} {e : ME} {i : Nat} {b ss : MSs} {k : Int} {r : Option (Out × Rho × Mu)} (h : evE F e ρ μ = some (.d (.int k), μ₁)) (hk : 0 ≤ k ∧ k < 4611686018427387904) (hf : forF i (evSs F b) k.toNat 0 ρ μ₁ = some (.next, ρ', μ')) (hr : evSs F ss ρ' μ' = r) :
    evSs F (.cons (.forr i e b) ss) ρ μ = r := by
  simp only [evSs, evS, h, if_pos hk, hf, Option.bind_some]; exact hr
def endS : MSs :=
 (.cons (.assign 4 (.slc (.var 6) .none .none))
 (.cons (.assign 5 (.call 3 (.cons (.var 6) (.cons (.var 1) (.cons (.bin .Sub (.var 2) (.var 1)) .nil)))))
 (.cons (.ite (.bop .And (.cons (.val (.cmp .GtE (.var 1) (.var 7))) (.cons (.val (.cmp .Lt (.var 2) (.var 7))) .nil)))
 (.cons (.ite (.val (.cmp .IsNot (.var 5) (.bool false)))
 (.cons (.ret (.bool false))
 .nil)
 .nil)
 .nil)
 (.cons (.ite (.val (.cmp .IsNot (.var 5) (.bool true)))
 (.cons (.ret (.bool false))
 .nil)
 .nil)
 .nil))
 (.cons (.ite (.val (.cmp .NotEq (.var 6) (.var 4)))
 (.cons (.ret (.bool false))
 .nil)
 .nil)
 (.cons (.ret (.bool true))
 .nil)))))
def moreS (rest : MSs) : MSs :=
 (.cons (.ite (.bop .And (.cons (.val (.cmp .Lt (.var 7) (.int 100))) (.cons (.val (.cmp .Eq (.bin .Mod (.call 4 (.cons (.var 0) (.cons (.int 8) .nil))) (.int 4)) (.int 3))) .nil)))
 (.cons (.assign 2 (.bin .Add (.var 1) (.prim .abs (.cons (.call 4 (.cons (.var 0) (.cons (.int 9) .nil))) .nil))))
 .nil)
 .nil) rest)
theorem tail_eq : tailS = moreS endS := rfl

section
variable {F : List Fn} {rest : MSs} {r : Option (Out × Rho × Mu)} {f3 f4 : Fn} {xs S : PyData} {fu to c c8 c9 m8 ab : Int} {N : List PyData} {g : Bool} {u3 u4 u5 u9 u10 u11 u12 u13 u14 : Option MV}
theorem end_ok (hF3 : F[3]? = some f3) (hs : slcD (.list N) .none .none = some (.list N)) (hg : f3 [.d (.list N), .d (.int fu), .d (.int (to - fu))] [] = some (.bool g, [])) (hN : cmpD .NotEq (.list N) (.list N) = some false)
    (hb : (cmpD .GtE (.int fu) (.int c) = some false ∧ g = true) ∨ (cmpD .GtE (.int fu) (.int c) = some true ∧ cmpD .Lt (.int to) (.int c) = some false ∧ g = true) ∨ (cmpD .GtE (.int fu) (.int c) = some true ∧ cmpD .Lt (.int to) (.int c) = some true ∧ g = false)) :
    evSs F endS [some (.d xs), some (.d (.int fu)), some (.d (.int (to))), u3, u4, u5, some (.d (.list N)), some (.d (.int c)), some (.d S), u9, u10, u11, u12, u13, u14] [] = some (.ret (.d (.bool true)), [some (.d xs), some (.d (.int fu)), some (.d (.int (to))), u3, some (.d (.list N)), some (.d (.bool g)), some (.d (.list N)), some (.d (.int c)), some (.d S), u9, u10, u11, u12, u13, u14], []) := by
  unfold endS
  apply ss_assign
  · repeat walk_at "evd"
  · apply ss_assign
    · repeat walk_at "evd"
    · rcases hb with ⟨z1, rfl⟩ | ⟨z1, z2, rfl⟩ | ⟨z1, z2, rfl⟩
      · apply ss_ite_f
        · apply b_bop
          apply bs_and_f
          repeat walk_at "evd"
        · apply ss_ite_f
          · repeat walk_at "evd"
          · exact ss_nil
          · exact then_next ss_nil
        · apply then_next
          apply ss_ite_f
          · repeat walk_at "evd"
          · exact ss_nil
          · exact then_next (ss_ret e_bool)
      · apply ss_ite_f
        · apply b_bop
          apply bs_and_t
          · repeat walk_at "evd"
          · apply bs_and_f
            repeat walk_at "evd"
        · apply ss_ite_f
          · repeat walk_at "evd"
          · exact ss_nil
          · exact then_next ss_nil
        · apply then_next
          apply ss_ite_f
          · repeat walk_at "evd"
          · exact ss_nil
          · exact then_next (ss_ret e_bool)
      · apply ss_ite_t
        · apply b_bop
          apply bs_and_t
          · repeat walk_at "evd"
          · apply bs_and_t
            · repeat walk_at "evd"
            · exact bs_and_nil
        · apply ss_ite_f
          · repeat walk_at "evd"
          · exact ss_nil
          · exact then_next ss_nil
        · apply then_next
          apply ss_ite_f
          · repeat walk_at "evd"
          · exact ss_nil
          · exact then_next (ss_ret e_bool)
theorem more_no1 (hF4 : F[4]? = some f4) (hc : cmpD .Lt (.int c) (.int 100) = some false) (hr : evSs F rest [some (.d xs), some (.d (.int fu)), some (.d (.int (to))), u3, u4, u5, some (.d (.list N)), some (.d (.int c)), some (.d S), u9, u10, u11, u12, u13, u14] [] = r) : evSs F (moreS rest) [some (.d xs), some (.d (.int fu)), some (.d (.int (to))), u3, u4, u5, some (.d (.list N)), some (.d (.int c)), some (.d S), u9, u10, u11, u12, u13, u14] [] = r := by
  unfold moreS
  apply ss_ite_f
  · apply b_bop
    apply bs_and_f
    repeat walk_at "evd"
  · exact ss_nil
  · exact hr
theorem more_no2 (hF4 : F[4]? = some f4) (hc : cmpD .Lt (.int c) (.int 100) = some true) (h8 : f4 [.d xs, .d (.int 8)] [] = some (.int c8, [])) (hm : binD .Mod (.int c8) (.int 4) = some (.int m8)) (hn : cmpD .Eq (.int m8) (.int 3) = some false) (hr : evSs F rest [some (.d xs), some (.d (.int fu)), some (.d (.int (to))), u3, u4, u5, some (.d (.list N)), some (.d (.int c)), some (.d S), u9, u10, u11, u12, u13, u14] [] = r) : evSs F (moreS rest) [some (.d xs), some (.d (.int fu)), some (.d (.int (to))), u3, u4, u5, some (.d (.list N)), some (.d (.int c)), some (.d S), u9, u10, u11, u12, u13, u14] [] = r := by
  unfold moreS
  apply ss_ite_f
  · apply b_bop
    apply bs_and_t
    · repeat walk_at "evd"
    · apply bs_and_f
      repeat walk_at "evd"
  · exact ss_nil
  · exact hr
theorem more_yes (hF4 : F[4]? = some f4) (hc : cmpD .Lt (.int c) (.int 100) = some true) (h8 : f4 [.d xs, .d (.int 8)] [] = some (.int c8, [])) (hm : binD .Mod (.int c8) (.int 4) = some (.int m8)) (hn : cmpD .Eq (.int m8) (.int 3) = some true) (h9 : f4 [.d xs, .d (.int 9)] [] = some (.int c9, [])) (ha : primD .abs [.int c9] = some (.int ab))
    (hr : evSs F rest [some (.d xs), some (.d (.int fu)), some (.d (.int (fu + ab))), u3, u4, u5, some (.d (.list N)), some (.d (.int c)), some (.d S), u9, u10, u11, u12, u13, u14] [] = r) : evSs F (moreS rest) [some (.d xs), some (.d (.int fu)), some (.d (.int (to))), u3, u4, u5, some (.d (.list N)), some (.d (.int c)), some (.d S), u9, u10, u11, u12, u13, u14] [] = r := by
  unfold moreS
  apply ss_ite_t
  · apply b_bop
    apply bs_and_t
    · repeat walk_at "evd"
    · apply bs_and_t
      · repeat walk_at "evd"
      · exact bs_and_nil
  · apply ss_assign
    · repeat walk_at "evd"
    · exact ss_nil
  · exact hr
end

theorem law_ok (xs : List Int) (hl : xs.length ≤ 63) : f_law [.d (.list (xs.map .int))] [] = some (.bool true, []) := by
  rw [f_law_at rfl]
  obtain ⟨c0, hc0⟩ := cell_ex (xs := xs) (i := 0) hl (by omega)
  obtain ⟨c1, hc1⟩ := cell_ex (xs := xs) (i := 1) hl (by omega)
  obtain ⟨c2, hc2⟩ := cell_ex (xs := xs) (i := 2) hl (by omega)
  obtain ⟨c3, hc3⟩ := cell_ex (xs := xs) (i := 3) hl (by omega)
  obtain ⟨c4, hc4⟩ := cell_ex (xs := xs) (i := 4) hl (by omega)
  obtain ⟨c8, hc8⟩ := cell_ex (xs := xs) (i := 8) hl (by omega)
  obtain ⟨c9, hc9⟩ := cell_ex (xs := xs) (i := 9) hl (by omega)
  obtain ⟨fu, hfu, e0⟩ := mod_ok c0 24 (by omega)
  obtain ⟨to, hto, e1⟩ := mod_ok c1 24 (by omega)
  obtain ⟨kl, hkl, e2⟩ := mod_ok c2 3 (by omega)
  obtain ⟨nl, hnl, e4⟩ := mod_ok c4 4 (by omega)
  obtain ⟨m8, hm8, e8⟩ := mod_ok c8 4 (by omega)
  replace e0 : binD .Mod (.int c0) (.int 24) = some (.int (fu : Int)) := e0
  replace e1 : binD .Mod (.int c1) (.int 24) = some (.int (to : Int)) := e1
  replace e2 : binD .Mod (.int c2) (.int 3) = some (.int (kl : Int)) := e2
  replace e4 : binD .Mod (.int c4) (.int 4) = some (.int (nl : Int)) := e4
  replace e8 : binD .Mod (.int c8) (.int 4) = some (.int (m8 : Int)) := e8
  have lf := leaf_ok (n := c3) hkl
  obtain ⟨HL, hL1, hL2⟩ := leaf_beh (n := c3) hkl
  obtain ⟨ns, c, sh, u3, u9, u10, u11, u12, u13, u14, hfor, HB, hN⟩ := loop_ok hl (fu := (fu : Int)) (to := (to : Int)) (t4 := none) (t5 := none) nl 0 _ _ _ none none none none none none none (by omega) HL ⟨hL1, by omega⟩
  have hs := slc_all (xs := ns.map encN) (by simp; omega)
  have hlast : ∀ T : Int, 0 ≤ T → (1000000 ≤ c → T < 24) → ∃ ρ, evSs [f_begin, f_resume, f_run, f_more, f_cell, f_layer, f_leaf] endS [some (.d (.list (xs.map .int))), some (.d (.int (fu : Int))), some (.d (.int (T))), u3, none, none, some (.d (.list (ns.map encN))), some (.d (.int (c : Int))), some (.d (.str (shS sh))), u9, u10, u11, u12, u13, u14] [] = some (.ret (.d (.bool true)), ρ, []) ∧ (c < 100 ∨ 1000000 ≤ c) := by
    intro T hT _
    obtain ⟨hm, hc⟩ := more_beh (by omega) (by omega) HB (f := (fu : Int)) (g := T - (fu : Int)) (by omega) (by omega)
    rw [show (fu : Int) + (T - (fu : Int)) = T from by omega] at hm
    refine ⟨_, end_ok rfl hs hm (nodes_same ns) ?_, hc⟩
    by_cases h1 : (c : Int) ≤ (fu : Int)
    · by_cases h2 : T < (c : Int)
      · exact .inr (.inr ⟨by simp only [cmpD, decide_eq_true h1], by simp only [cmpD, decide_eq_true h2], by rw [decide_eq_true h1, decide_eq_true h2]; rfl⟩)
      · exact .inr (.inl ⟨by simp only [cmpD, decide_eq_true h1], by simp only [cmpD, decide_eq_false h2], by rw [decide_eq_false h2, Bool.and_false]; rfl⟩)
    · exact .inl ⟨by simp only [cmpD, decide_eq_false h1], by rw [decide_eq_false h1]; rfl⟩
  obtain ⟨ρ0, hl0, hcc⟩ := hlast (to : Int) (by omega) (by omega)
  have htail : ∃ ρ, evSs [f_begin, f_resume, f_run, f_more, f_cell, f_layer, f_leaf] tailS [some (.d (.list (xs.map .int))), some (.d (.int (fu : Int))), some (.d (.int (to : Int))), u3, none, none, some (.d (.list (ns.map encN))), some (.d (.int (c : Int))), some (.d (.str (shS sh))), u9, u10, u11, u12, u13, u14] [] = some (.ret (.d (.bool true)), ρ, []) := by
    rw [tail_eq]
    by_cases h1 : c < 100
    · have z1 : cmpD .Lt (.int (c : Int)) (.int 100) = some true := by simp [cmpD]; omega
      by_cases h2 : m8 = 3
      · have z2 : cmpD .Eq (.int (m8 : Int)) (.int 3) = some true := by simp [cmpD, h2]
        obtain ⟨ρ1, hl1, _⟩ := hlast ((fu : Int) + (if c9 < 0 then -c9 else c9)) (by split <;> omega) (by omega)
        exact ⟨ρ1, more_yes rfl z1 hc8 e8 z2 hc9 rfl hl1⟩
      · have z2 : cmpD .Eq (.int (m8 : Int)) (.int 3) = some false := by simp [cmpD]; omega
        exact ⟨ρ0, more_no2 rfl z1 hc8 e8 z2 hl0⟩
    · have z1 : cmpD .Lt (.int (c : Int)) (.int 100) = some false := by simp [cmpD]; omega
      exact ⟨ρ0, more_no1 (f4 := f_cell) rfl z1 hl0⟩
  obtain ⟨ρ, htail⟩ := htail
  rw [b_law_eq]
  refine fn_d (x := .bool true) (ρ' := ρ) (μ' := []) ?_ rfl
  apply ss_assign
  · repeat walk_at "evd"
  · apply ss_assign
    · repeat walk_at "evd"
    · apply ss_unpack
      · repeat walk_at "evd"
      · exact rfl
      · apply ss_for
        · repeat walk_at "evd"
        · omega
        · exact hfor
        · exact htail
end Mini

namespace Mini
open PySem PySem.W PyProof.Rows
def fds30 : List FD := [⟨"begin_node", 4, 1, n_begin_node, b_begin_node⟩, ⟨"resume_frame", 3, 6, n_resume_frame, b_resume_frame⟩, ⟨"run", 2, 2, n_run, b_run⟩, ⟨"law_more_fuel_changes_nothing", 3, 1, n_law_more_fuel_changes_nothing, b_law_more_fuel_changes_nothing⟩, ⟨"_law_cell", 2, 0, n_law_cell, b_law_cell⟩, ⟨"_law_layer", 3, 3, n_law_layer, b_law_layer⟩, ⟨"_law_leaf", 2, 1, n_law_leaf, b_law_leaf⟩, ⟨"law", 1, 14, n_law, b_law⟩]
theorem sem30 : (sems fds30 [])[7]? = some (("law" : Str), f_law) := rfl
end Mini
open PySem PySem.W PyProof.Rows
set_option maxRecDepth 100000 in
set_option maxHeartbeats 8000000 in
theorem PySem.Challenge.cw_k13_0030_holds : PySem.Challenge.rw_k13_0030.Holds := by
  w_on; o_law; k_head; (case hw => w_witness2)
  k_fill
  intro w s₀ s₁ mg mb G Y fa o pm cd doc dV kV ho hd hcd hD hmg hg args vals as hpre hlay hrd hwl hlo
  refine Ground.open G ?_
  intro T B D TE TW
  wrow_args hpre hlay hrd hwl hlo
  rename_i ns _ _ _ _ _ _ _ a vs _ hL _ _ _ hI _ hc _
  have hl : ns.length ≤ 63 := by omega
  refine Mini.law_call T Mini.fds30 ?_ ?_ ?_ rfl hmg ⟨7, Mini.sem30⟩ hL hI (Mini.law_ok ns hl) ?_
  · decide +kernel
  · decide +kernel
  · decide
  · intro h' tk hk
    exact Mini.law_good hg hk
