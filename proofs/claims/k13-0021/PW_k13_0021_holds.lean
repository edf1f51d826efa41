import PyProof.Rows.All
import Wide.All
import OpenK.AllK
import Wide.FinOn
import PyProof.Lay0
import PyProof.EqLayable
import PyProof.StrBlockI
import PyProof.Cells
import PyProof.Rows.Tup
import PyProof.Rows.News
import PyProof.PlainList
import PyProof.Rows.StrTemp
import PyProof.Rows.StrRules
import PyProof.Rows.RuleB_mod
import PyProof.Rows.RuleC_int
import PyProof.Rows.RuleN_abs
import PyProof.Rows.RuleB_floordiv
import PyProof.Rows.RuleB_mul
import PyProof.Rows.RuleB_small
import PyProof.Rows.RuleB_rshift
import PyProof.NoPylong
import PyProof.CallStr
import PyProof.Rows.SeqMore
import PyProof.Rows.IntRules
import PyProof.DefCall
import PyProof.WalkInts
import PyProof.LetGo
import PyProof.RulesDel
import PyProof.RulesDelMore
import PyProof.SliceMore
import PyProof.SliceSyntax
import PyProof.IsiPairs
import PyProof.MakeMany
import PyProof.IsRules
import PyProof.StrBlockH
import PyProof.ForRange
import PyProof.Rows.TupAssign
import PyProof.RulesMatch
import PyProof.ForAppend
import PyProof.Raises
import PyProof.TupleIter
import PyProof.RangeIter
import PyProof.DelItemList
import PyProof.CompFree
import PyProof.CompUse
import PyProof.WalksMore
import PyProof.SliceList
import PyProof.Ops
import Open.Row
import PyProof.Rows.Walk
import PyProof.StrLaws
import PySem.Challenge.RW_k13_0021
set_option Elab.async false

namespace Mini
open PySem

/-- the lists that a run may change, by number -/
abbrev Mu := List (List PyData)
/-- a value: plain data, or a numbered list -/
inductive MV where
  | d (x : PyData)
  | r (i : Nat)
abbrev Rho := List (Option MV)
abbrev Fn := List MV → Mu → Option (PyData × Mu)

inductive Prim where
  | len | abs | max

def Prim.id : Prim → String
  | .len => "len" | .abs => "abs" | .max => "max"
def Prim.name : Prim → Str
  | .len => "len" | .abs => "abs" | .max => "max"

mutual
inductive ME where
  | var (i : Nat)
  | none
  | bool (b : Bool)
  | int (n : Int)
  | str (x : Str)
  | bin (op : Operator) (a b : ME)
  | cmp (op : CmpOp) (a b : ME)
  | bop (op : BoolOp) (e : ME) (es : MEs)
  | ite (c : MT) (a b : ME)
  | tup (es : MEs)
  | lst (es : MEs)
  | idx (a b : ME)
  | slc (a lo hi : ME)
  | call (f : Nat) (args : MEs)
  | prim (p : Prim) (args : MEs)
  | isBool (a : ME)
  | strOf (a : ME)
inductive MEs where
  | nil
  | cons (e : ME) (es : MEs)
/-- tests -/
inductive MT where
  | val (e : ME)
  | not (t : MT)
  | bop (op : BoolOp) (ts : MTs)
inductive MTs where
  | nil
  | cons (t : MT) (ts : MTs)
end

mutual
inductive MS where
  | assign (i : Nat) (e : ME)
  | newlist (i : Nat) (es : MEs)
  | unpack (is : List Nat) (e : ME)
  | append (i : Nat) (e : ME)
  | delat (i : Nat) (e : ME)
  | ite (c : MT) (a b : MSs)
  | whl (bound : Rho → Mu → Nat) (c : MT) (body : MSs)
  | forr (i : Nat) (e : ME) (body : MSs)
  | ret (e : ME)
  | cont
  | compr (i : Nat) (caps : List Nat) (e elt : ME)
  | delfrom (i : Nat) (e : ME)
  | fore (i : Nat) (e : ME) (body : MSs)
inductive MSs where
  | nil
  | cons (s : MS) (ss : MSs)
end

def rd (μ : Mu) : MV → Option PyData
  | .d x => some x
  | .r i => (μ[i]?).map .list

def binD : Operator → PyData → PyData → Option PyData
  | .Add, .int a, .int b => some (.int (a + b))
  | .Add, .str x, .str y => if x.length + y.length ≤ 16777216 then some (.str (x ++ y)) else none
  | .Add, .list xs, .list ys => if xs.length + ys.length ≤ 16777216 then some (.list (xs ++ ys)) else none
  | .Sub, .int a, .int b => some (.int (a - b))
  | .Mod, .int a, .int b => if b = 0 then none else some (.int (a.fmod b))
  | .FloorDiv, .int a, .int b => if 0 < b ∧ b < 1073741824 then some (.int (a.fdiv b)) else none
  | .Mult, .int a, .int b => if 0 ≤ a ∧ a < 1073741824 then some (.int (a * b)) else none
  | .Pow, .int a, .int b => if 0 ≤ a ∧ a < 1073741824 ∧ 0 ≤ b ∧ b ≤ 1000 then some (.int (a ^ b.toNat)) else none
  | .RShift, .int a, .int b => if 0 ≤ b then some (.int (a.fdiv (2 ^ b.toNat))) else none
  | _, _, _ => none

def isD : PyData → PyData → Option Bool
  | .none, .none => some true
  | .bool a, .bool b => some (a == b)
  | .none, .bool _ => some false
  | .bool _, .none => some false
  | .none, .tuple _ => some false
  | .tuple _, .none => some false
  | .none, .list _ => some false
  | .list _, .none => some false
  | _, _ => none

/-- what == may be asked of: the lesser depth counts -/
def eqOk (a b : PyData) : Bool := a.canLay0 && b.canLay0 && decide (min a.depth b.depth ≤ 64)

def cmpD : CmpOp → PyData → PyData → Option Bool
  | .Eq, .int a, .int b => some (a == b)
  | .Eq, .str a, .str b => some (a == b)
  | .NotEq, .int a, .int b => some (a != b)
  | .NotEq, .str a, .str b => some (a != b)
  | .Eq, a, b => if eqOk a b then some (PyData.eqv a b) else none
  | .NotEq, a, b => if eqOk a b then some (!PyData.eqv a b) else none
  | .Lt, .int a, .int b => some (decide (a < b))
  | .Gt, .int a, .int b => some (decide (b < a))
  | .LtE, .int a, .int b => some (decide (a ≤ b))
  | .GtE, .int a, .int b => some (decide (b ≤ a))
  | .Is, a, b => isD a b
  | .IsNot, a, b => (isD a b).map (!·)
  | .In, .str y, .str x => some (!(Builtin.Str.occurrences x y 0 x.length 1).isEmpty)
  | _, _, _ => none

def idxD : PyData → PyData → Option PyData
  | .list xs, .int k => if 0 ≤ k ∧ k < 9223372036854775808 then xs[k.toNat]? else none
  | .tuple xs, .int k => if 0 ≤ k ∧ k < 9223372036854775808 then xs[k.toNat]? else none
  | .str x, .int k => if 0 ≤ k ∧ k < 9223372036854775808 then (x.cps[k.toNat]?).map fun c => .str ⟨#[c]⟩ else none
  | _, _ => none

/-- a bound of a slice: none, or an int that is not negative -/
def loD : PyData → Option Nat
  | .none => some 0
  | .int k => if 0 ≤ k then some k.toNat else none
  | _ => none
def hiD (n : Nat) : PyData → Option Nat
  | .none => some n
  | .int k => if 0 ≤ k then some k.toNat else none
  | _ => none
def slcD : PyData → PyData → PyData → Option PyData
  | .list xs, lo, hi => do
    let a ← loD lo
    let b ← hiD xs.length hi
    if xs.length ≤ 16777216 then some (.list ((xs.take b).drop a)) else none
  | .str x, .int i, .none => if x.length ≤ 16777216 then some (.str (Txt.slice x (some i) none)) else none
  | _, _, _ => none

def primD : Prim → List PyData → Option PyData
  | .len, [.list xs] => if xs.length ≤ 16777216 then some (.int xs.length) else none
  | .abs, [.int a] => some (.int (if a < 0 then -a else a))
  | .max, [.int a, .int b] => some (.int (if b > a then b else a))
  | _, _ => none

def allD : List MV → Option (List PyData)
  | [] => some []
  | .d x :: r => (allD r).map (x :: ·)
  | .r _ :: _ => none

def rdAll (μ : Mu) : List MV → Option (List PyData)
  | [] => some []
  | v :: r => do
    let x ← rd μ v
    let xs ← rdAll μ r
    some (x :: xs)

/-- str(an int) -/
def strD : PyData → Option PyData
  | .int k => if k.natAbs.log2 < 1920 then some (.str (Str.ofString (toString k))) else none
  | _ => none

def truth : PyData → Option Bool
  | .bool b => some b
  | _ => none

mutual
def evE (F : List Fn) : ME → Rho → Mu → Option (MV × Mu)
  | .var i, ρ, μ => (ρ[i]?.join).map (·, μ)
  | .none, _, μ => some (.d .none, μ)
  | .bool b, _, μ => some (.d (.bool b), μ)
  | .int n, _, μ => some (.d (.int n), μ)
  | .str x, _, μ => some (.d (.str x), μ)
  | .bin op a b, ρ, μ =>
    (evE F a ρ μ).bind fun p => (evE F b ρ p.2).bind fun q => (rd q.2 p.1).bind fun x => (rd q.2 q.1).bind fun y => (binD op x y).map fun z => (.d z, q.2)
  | .cmp op a b, ρ, μ =>
    (evE F a ρ μ).bind fun p => (evE F b ρ p.2).bind fun q => (rd q.2 p.1).bind fun x => (rd q.2 q.1).bind fun y => (cmpD op x y).map fun z => (.d (.bool z), q.2)
  | .bop op e es, ρ, μ => (evE F e ρ μ).bind fun p => evV F op es p ρ
  | .ite c a b, ρ, μ => (evB F c ρ μ).bind fun p => if p.1 then evE F a ρ p.2 else evE F b ρ p.2
  | .tup es, ρ, μ => (evL F es ρ μ).bind fun p => (allD p.1).bind fun xs => if xs.length ≤ 16777216 then some (.d (.tuple xs), p.2) else none
  | .lst es, ρ, μ => (evL F es ρ μ).bind fun p => (allD p.1).bind fun xs => if xs.length ≤ 16777216 then some (.d (.list xs), p.2) else none
  | .idx a b, ρ, μ =>
    (evE F a ρ μ).bind fun p => (evE F b ρ p.2).bind fun q => (rd q.2 p.1).bind fun x => (rd q.2 q.1).bind fun y => (idxD x y).map fun z => (.d z, q.2)
  | .slc a lo hi, ρ, μ =>
    (evE F a ρ μ).bind fun p => (evE F lo ρ p.2).bind fun q => (evE F hi ρ q.2).bind fun r => (rd r.2 p.1).bind fun x => (rd r.2 q.1).bind fun y => (rd r.2 r.1).bind fun z => (slcD x y z).map fun u => (.d u, r.2)
  | .call f args, ρ, μ => (evL F args ρ μ).bind fun p => (F[f]?).bind fun fn => (fn p.1 p.2).map fun q => (.d q.1, q.2)
  | .prim k args, ρ, μ => (evL F args ρ μ).bind fun p => (rdAll p.2 p.1).bind fun xs => (primD k xs).map fun z => (.d z, p.2)
  | .isBool a, ρ, μ => (evE F a ρ μ).bind fun p => match p.1 with
    | .d (.bool _) => some (.d (.bool true), p.2)
    | _ => none
  | .strOf a, ρ, μ => (evE F a ρ μ).bind fun p => (rd p.2 p.1).bind fun x => (strD x).map fun z => (.d z, p.2)
def evL (F : List Fn) : MEs → Rho → Mu → Option (List MV × Mu)
  | .nil, _, μ => some ([], μ)
  | .cons e es, ρ, μ => (evE F e ρ μ).bind fun p => (evL F es ρ p.2).map fun q => (p.1 :: q.1, q.2)
def evV (F : List Fn) (op : BoolOp) : MEs → MV × Mu → Rho → Option (MV × Mu)
  | .nil, p, _ => some p
  | .cons e es, p, ρ => (rd p.2 p.1).bind fun x => (truth x).bind fun b => if b == (op == .Or) then some p else (evE F e ρ p.2).bind fun q => evV F op es q ρ
def evB (F : List Fn) : MT → Rho → Mu → Option (Bool × Mu)
  | .val e, ρ, μ => (evE F e ρ μ).bind fun p => (rd p.2 p.1).bind fun x => (truth x).map (·, p.2)
  | .not a, ρ, μ => (evB F a ρ μ).map fun p => (!p.1, p.2)
  | .bop op ts, ρ, μ => evBs F op ts ρ μ
def evBs (F : List Fn) (op : BoolOp) : MTs → Rho → Mu → Option (Bool × Mu)
  | .nil, _, μ => some (op == .And, μ)
  | .cons e es, ρ, μ => (evB F e ρ μ).bind fun p => if p.1 == (op == .Or) then some p else evBs F op es ρ p.2
end

inductive Out where
  | next
  | cont
  | ret (v : MV)

def whileF (t : Rho → Mu → Option (Bool × Mu)) (b : Rho → Mu → Option (Out × Rho × Mu)) : Nat → Rho → Mu → Option (Out × Rho × Mu)
  | 0, _, _ => none
  | n + 1, ρ, μ => (t ρ μ).bind fun p => if p.1 then (b ρ p.2).bind fun q => match q.1 with
      | .next => whileF t b n q.2.1 q.2.2
      | .cont => whileF t b n q.2.1 q.2.2
      | .ret v => some (.ret v, q.2.1, q.2.2)
    else some (.next, ρ, p.2)

/-- for x in the ints from k on, n of them -/
def forF (i : Nat) (b : Rho → Mu → Option (Out × Rho × Mu)) : Nat → Int → Rho → Mu → Option (Out × Rho × Mu)
  | 0, _, ρ, μ => some (.next, ρ, μ)
  | n + 1, k, ρ, μ => (b (ρ.set i (some (.d (.int k)))) μ).bind fun q => match q.1 with
      | .next => forF i b n (k + 1) q.2.1 q.2.2
      | .cont => forF i b n (k + 1) q.2.1 q.2.2
      | .ret v => some (.ret v, q.2.1, q.2.2)

/-- for x in the items of a list that stays -/
def foreF (i : Nat) (b : Rho → Mu → Option (Out × Rho × Mu)) : List PyData → Rho → Mu → Option (Out × Rho × Mu)
  | [], ρ, μ => some (.next, ρ, μ)
  | x :: xs, ρ, μ => (b (ρ.set i (some (.d x))) μ).bind fun q => match q.1 with
      | .next => foreF i b xs q.2.1 q.2.2
      | .cont => foreF i b xs q.2.1 q.2.2
      | .ret v => some (.ret v, q.2.1, q.2.2)

/-- the items of a comprehension over range -/
def compF (sem : Rho → Mu → Option (MV × Mu)) (cap : Rho) : Nat → Int → Mu → Option (List PyData × Mu)
  | 0, _, μ => some ([], μ)
  | n + 1, k, μ => (sem (some (.d (.int k)) :: cap) μ).bind fun p => match p.1 with
    | .d x => (compF sem cap n (k + 1) p.2).map fun q => (x :: q.1, q.2)
    | .r _ => none

def setAll : List Nat → List PyData → Rho → Option Rho
  | [], [], ρ => some ρ
  | i :: is, x :: xs, ρ => setAll is xs (ρ.set i (some (.d x)))
  | _, _, _ => none

mutual
def evS (F : List Fn) : MS → Rho → Mu → Option (Out × Rho × Mu)
  | .assign i e, ρ, μ => (evE F e ρ μ).map fun p => (.next, ρ.set i (some p.1), p.2)
  | .newlist i es, ρ, μ => (evL F es ρ μ).bind fun p => (allD p.1).bind fun xs => if xs.length ≤ 16777216 then some (.next, ρ.set i (some (.r p.2.length)), p.2 ++ [xs]) else none
  | .unpack is e, ρ, μ => (evE F e ρ μ).bind fun p => match p.1 with
    | .d (.tuple xs) => (setAll is xs ρ).map fun ρ' => (.next, ρ', p.2)
    | _ => none
  | .append i e, ρ, μ => match ρ[i]?.join with
    | some (.r j) => (evE F e ρ μ).bind fun p => match p.1, p.2[j]? with
      | .d x, some xs => if xs.length ≤ 16777216 then some (.next, ρ, p.2.set j (xs ++ [x])) else none
      | _, _ => none
    | _ => none
  | .delat i e, ρ, μ => match ρ[i]?.join with
    | some (.r j) => (evE F e ρ μ).bind fun p => match p.1, p.2[j]? with
      | .d (.int k), some xs => if 0 ≤ k ∧ k < xs.length ∧ xs.length ≤ 16777216 then some (.next, ρ, p.2.set j (xs.eraseIdx k.toNat)) else none
      | _, _ => none
    | _ => none
  | .ite c a b, ρ, μ => (evB F c ρ μ).bind fun p => if p.1 then evSs F a ρ p.2 else evSs F b ρ p.2
  | .whl n c b, ρ, μ => whileF (evB F c) (evSs F b) (n ρ μ) ρ μ
  | .forr i e b, ρ, μ => (evE F e ρ μ).bind fun p => match p.1 with
    | .d (.int k) => if 0 ≤ k ∧ k < 4611686018427387904 then forF i (evSs F b) k.toNat 0 ρ p.2 else none
    | _ => none
  | .ret e, ρ, μ => (evE F e ρ μ).map fun p => (.ret p.1, ρ, p.2)
  | .cont, ρ, μ => some (.cont, ρ, μ)
  | .compr i caps e elt, ρ, μ => (evE F e ρ μ).bind fun p => match p.1 with
    | .d (.int k) => if 0 ≤ k ∧ k ≤ 16777216 then (compF (evE F elt) (caps.map fun j => ρ[j]?.join) k.toNat 0 p.2).map fun q => (.next, ρ.set i (some (.d (.list q.1))), q.2) else none
    | _ => none
  | .delfrom i e, ρ, μ => match ρ[i]?.join with
    | some (.r j) => (evE F e ρ μ).bind fun p => match p.1, p.2[j]? with
      | .d (.int k), some xs => if 0 ≤ k ∧ xs.length ≤ 16777216 then some (.next, ρ, p.2.set j (xs.take k.toNat)) else none
      | _, _ => none
    | _ => none
  | .fore i e b, ρ, μ => (evE F e ρ μ).bind fun p => match p.1 with
    | .d (.list xs) => foreF i (evSs F b) xs ρ p.2
    | _ => none
def evSs (F : List Fn) : MSs → Rho → Mu → Option (Out × Rho × Mu)
  | .nil, ρ, μ => some (.next, ρ, μ)
  | .cons s ss, ρ, μ => (evS F s ρ μ).bind fun q => match q.1 with
    | .next => evSs F ss q.2.1 q.2.2
    | .cont => some q
    | .ret _ => some q
end

/-- a while's turns at most: one more than an int slot says -/
def intAt (i : Nat) (ρ : Rho) (_ : Mu) : Nat := match ρ[i]?.join with
  | some (.d (.int k)) => k.toNat + 1
  | _ => 0

/-- what a call of a def gives: its slots are its parameters, then its other locals -/
def fnOf (F : List Fn) (n : Nat) (body : MSs) : Fn := fun args μ =>
  (evSs F body (args.map some ++ List.replicate n none) μ).bind fun q => match q.1 with
    | .next => some (.none, q.2.2.take μ.length)
    | .cont => none
    | .ret (.d x) => some (x, q.2.2.take μ.length)
    | .ret (.r i) => if μ.length ≤ i then (q.2.2[i]?).map fun xs => (.list xs, q.2.2.take μ.length) else none

end Mini

namespace Mini
open PySem PySem.Spec PyProof.Rows

mutual
/-- the value is that data in this heap; none of its objects is one of ψ -/
def VR (ψ : List Addr) (h : Heap) : PyData → Value → Prop
  | .none, v => v = .none
  | .bool b, v => v = .bool b
  | .int i, v => ∃ t, v = .int i t
  | .str x, v => ∃ t, v = .str x t
  | .list xs, v => ∃ a vs, v = .ref a ∧ h.IsList a vs ∧ a ∉ ψ ∧ VRs ψ h xs vs.toList
  | .tuple xs, v => ∃ a vs, v = .ref a ∧ IsTup h a vs ∧ a ∉ ψ ∧ VRs ψ h xs vs.toList
  | .dict _, _ => False
def VRs (ψ : List Addr) (h : Heap) : List PyData → List Value → Prop
  | [], vs => vs = []
  | x :: xs, vs => ∃ v ws, vs = v :: ws ∧ VR ψ h x v ∧ VRs ψ h xs ws
end

def Keep (κ : List Addr) (h h' : Heap) : Prop := ∀ b o, h.get? b = some o → b ∉ κ → h'.get? b = some o
theorem Keep.refl (κ : List Addr) (h : Heap) : Keep κ h h := fun _ _ e _ => e
theorem Keep.trans {κ : List Addr} {h₁ h₂ h₃ : Heap} (x : Keep κ h₁ h₂) (y : Keep κ h₂ h₃) : Keep κ h₁ h₃ := fun b o e n => y b o (x b o e n) n
theorem Keep.of {κ : List Addr} {h h' : Heap} (x : ∀ b o, h.get? b = some o → h'.get? b = some o) : Keep κ h h' := fun b o e _ => x b o e
theorem Keep.push {κ : List Addr} {h h' : Heap} (x : Keep κ h h') (o : Obj) : Keep κ h (h'.push o) := fun b o' e n => Heap.get?_push_of_some o (x b o' e n)
theorem Keep.more {κ κ' : List Addr} {h h' : Heap} (x : Keep κ h h') (s : ∀ a ∈ κ, a ∈ κ') : Keep κ' h h' := fun b o e n => x b o e fun m => n (s b m)
theorem Keep.isList {κ : List Addr} {h h' : Heap} {a : Addr} {vs : Array Value} (k : Keep κ h h') (x : h.IsList a vs) (n : a ∉ κ) : h'.IsList a vs := let ⟨o, e, r⟩ := x; ⟨o, k a o e n, r⟩
theorem Keep.isTup {κ : List Addr} {h h' : Heap} {a : Addr} {vs : Array Value} (k : Keep κ h h') (x : IsTup h a vs) (n : a ∉ κ) : IsTup h' a vs := let ⟨o, e, r⟩ := x; ⟨o, k a o e n, r⟩

mutual
theorem VR.keep {κ ψ ψ' : List Addr} {h h' : Heap} (k : Keep κ h h') (s : ∀ a, a ∉ ψ → (∃ o, h.get? a = some o) → a ∉ ψ' ∧ a ∉ κ) : ∀ {x : PyData} {v : Value}, VR ψ h x v → VR ψ' h' x v
  | .none, _, e => e
  | .bool _, _, e => e
  | .int _, _, e => e
  | .str _, _, e => e
  | .list _, _, ⟨a, vs, e, hl, n, r⟩ => by
    have q := s a n (by obtain ⟨o, ho, _⟩ := hl; exact ⟨o, ho⟩)
    exact ⟨a, vs, e, k.isList hl q.2, q.1, VRs.keep k s r⟩
  | .tuple _, _, ⟨a, vs, e, hl, n, r⟩ => by
    have q := s a n (by obtain ⟨o, ho, _⟩ := hl; exact ⟨o, ho⟩)
    exact ⟨a, vs, e, k.isTup hl q.2, q.1, VRs.keep k s r⟩
  | .dict _, _, e => e
theorem VRs.keep {κ ψ ψ' : List Addr} {h h' : Heap} (k : Keep κ h h') (s : ∀ a, a ∉ ψ → (∃ o, h.get? a = some o) → a ∉ ψ' ∧ a ∉ κ) : ∀ {xs : List PyData} {vs : List Value}, VRs ψ h xs vs → VRs ψ' h' xs vs
  | [], _, e => e
  | _ :: _, _, ⟨v, ws, e, hv, r⟩ => ⟨v, ws, e, VR.keep k s hv, VRs.keep k s r⟩
end
theorem VR.kept {κ ψ : List Addr} {h h' : Heap} (k : Keep κ h h') (s : ∀ a ∈ κ, a ∈ ψ) {x : PyData} {v : Value} (e : VR ψ h x v) : VR ψ h' x v := VR.keep k (fun a n _ => ⟨n, fun m => n (s a m)⟩) e
theorem VRs.kept {κ ψ : List Addr} {h h' : Heap} (k : Keep κ h h') (s : ∀ a ∈ κ, a ∈ ψ) {xs : List PyData} {vs : List Value} (e : VRs ψ h xs vs) : VRs ψ h' xs vs := VRs.keep k (fun a n _ => ⟨n, fun m => n (s a m)⟩) e

theorem VRs.length {ψ : List Addr} {h : Heap} : ∀ {xs : List PyData} {vs : List Value}, VRs ψ h xs vs → vs.length = xs.length
  | [], _, e => by cases e; rfl
  | _ :: _, _, ⟨v, ws, e, _, r⟩ => by subst e; rw [List.length_cons, List.length_cons, VRs.length r]
theorem VRs.get {ψ : List Addr} {h : Heap} : ∀ {xs : List PyData} {vs : List Value} {i : Nat} {x : PyData}, VRs ψ h xs vs → xs[i]? = some x → ∃ v, vs[i]? = some v ∧ VR ψ h x v
  | [], _, _, _, _, e => by cases e
  | _ :: _, _, 0, _, ⟨v, ws, e, hv, _⟩, q => by subst e; cases q; exact ⟨v, rfl, hv⟩
  | _ :: _, _, i + 1, _, ⟨v, ws, e, _, r⟩, q => by
    subst e
    obtain ⟨u, h1, h2⟩ := VRs.get (i := i) r (by simpa using q)
    exact ⟨u, by simpa using h1, h2⟩
theorem VRs.append {ψ : List Addr} {h : Heap} : ∀ {xs ys : List PyData} {vs ws : List Value}, VRs ψ h xs vs → VRs ψ h ys ws → VRs ψ h (xs ++ ys) (vs ++ ws)
  | [], _, _, _, e, r => by cases e; exact r
  | _ :: _, _, _, _, ⟨v, us, e, hv, q⟩, r => by subst e; exact ⟨v, us ++ _, rfl, hv, VRs.append q r⟩
theorem VRs.take {ψ : List Addr} {h : Heap} : ∀ {xs : List PyData} {vs : List Value} (n : Nat), VRs ψ h xs vs → VRs ψ h (xs.take n) (vs.take n)
  | [], _, n, e => by cases e; cases n <;> rfl
  | _ :: _, _, 0, _ => rfl
  | _ :: _, _, n + 1, ⟨v, ws, e, hv, r⟩ => by subst e; exact ⟨v, ws.take n, rfl, hv, VRs.take n r⟩
theorem VRs.drop {ψ : List Addr} {h : Heap} : ∀ {xs : List PyData} {vs : List Value} (n : Nat), VRs ψ h xs vs → VRs ψ h (xs.drop n) (vs.drop n)
  | [], _, n, e => by cases e; cases n <;> rfl
  | _ :: _, _, 0, e => e
  | _ :: _, _, n + 1, ⟨v, ws, e, hv, r⟩ => by subst e; exact VRs.drop n r
theorem VRs.erase {ψ : List Addr} {h : Heap} : ∀ {xs : List PyData} {vs : List Value} (n : Nat), VRs ψ h xs vs → VRs ψ h (xs.eraseIdx n) (vs.eraseIdx n)
  | [], _, n, e => by cases e; rfl
  | _ :: _, _, 0, ⟨v, ws, e, hv, r⟩ => by subst e; exact r
  | _ :: _, _, n + 1, ⟨v, ws, e, hv, r⟩ => by subst e; exact ⟨v, ws.eraseIdx n, rfl, hv, VRs.erase n r⟩
theorem VRs.one {ψ : List Addr} {h : Heap} {x : PyData} {v : Value} (e : VR ψ h x v) : VRs ψ h [x] [v] := ⟨v, [], rfl, e, rfl⟩

mutual
theorem VR.reads {ψ : List Addr} {h : Heap} : ∀ {x : PyData} {v : Value}, VR ψ h x v → ∃ as, Reads h v x as
  | .none, _, e => by rw [show _ = Value.none from e]; exact ⟨_, .none⟩
  | .bool b, _, e => by rw [show _ = Value.bool b from e]; exact ⟨_, .bool b⟩
  | .int i, _, ⟨t, e⟩ => by subst e; exact ⟨_, .int i t⟩
  | .str x, _, ⟨t, e⟩ => by subst e; exact ⟨_, .str x t⟩
  | .list _, _, ⟨a, vs, e, ⟨o, ho, hc, n, hd⟩, _, r⟩ => by subst e; obtain ⟨as, q⟩ := VRs.reads r; exact ⟨_, .list ho hc hd q⟩
  | .tuple _, _, ⟨a, vs, e, ⟨o, ho, hc, n, hd⟩, _, r⟩ => by subst e; obtain ⟨as, q⟩ := VRs.reads r; exact ⟨_, .tuple ho hc hd q⟩
  | .dict _, _, e => e.elim
theorem VRs.reads {ψ : List Addr} {h : Heap} : ∀ {xs : List PyData} {vs : List Value}, VRs ψ h xs vs → ∃ as, ReadsAll h vs xs as
  | [], _, e => by cases e; exact ⟨_, .nil⟩
  | _ :: _, _, ⟨v, ws, e, hv, r⟩ => by
    subst e
    obtain ⟨as, q⟩ := VR.reads hv
    obtain ⟨bs, p⟩ := VRs.reads r
    exact ⟨_, .cons q p⟩
end

def MVR (ψ φ : List Addr) (h : Heap) : MV → Value → Prop
  | .d x, v => VR ψ h x v
  | .r i, v => ∃ a, v = .ref a ∧ φ[i]? = some a
theorem MVR.kept {κ ψ φ : List Addr} {h h' : Heap} (k : Keep κ h h') (s : ∀ a ∈ κ, a ∈ ψ) : ∀ {x : MV} {v : Value}, MVR ψ φ h x v → MVR ψ φ h' x v
  | .d _, _, e => VR.kept k s e
  | .r _, _, e => e
def MVRs (ψ φ : List Addr) (h : Heap) : List MV → List Value → Prop
  | [], vs => vs = []
  | x :: xs, vs => ∃ v ws, vs = v :: ws ∧ MVR ψ φ h x v ∧ MVRs ψ φ h xs ws
theorem MVRs.length {ψ φ : List Addr} {h : Heap} : ∀ {xs : List MV} {vs : List Value}, MVRs ψ φ h xs vs → vs.length = xs.length
  | [], _, e => by cases e; rfl
  | _ :: _, _, ⟨v, ws, e, _, r⟩ => by subst e; rw [List.length_cons, List.length_cons, MVRs.length r]
theorem MVRs.get {ψ φ : List Addr} {h : Heap} : ∀ {xs : List MV} {vs : List Value} {i : Nat} {x : MV}, MVRs ψ φ h xs vs → xs[i]? = some x → ∃ v, vs[i]? = some v ∧ MVR ψ φ h x v
  | [], _, _, _, _, e => by cases e
  | _ :: _, _, 0, _, ⟨v, ws, e, hv, _⟩, q => by subst e; cases q; exact ⟨v, rfl, hv⟩
  | _ :: _, _, i + 1, _, ⟨v, ws, e, _, r⟩, q => by
    subst e
    obtain ⟨u, h1, h2⟩ := MVRs.get (i := i) r (by simpa using q)
    exact ⟨u, by simpa using h1, h2⟩
theorem MVRs.allD {ψ φ : List Addr} {h : Heap} : ∀ {ms : List MV} {vs : List Value} {xs : List PyData}, MVRs ψ φ h ms vs → allD ms = some xs → VRs ψ h xs vs
  | [], _, _, e, q => by cases e; cases q; rfl
  | .d x :: r, _, _, ⟨v, ws, e, hv, hr⟩, q => by
    subst e
    unfold Mini.allD at q
    cases hq : Mini.allD r with
    | none => rw [hq] at q; cases q
    | some ys => rw [hq] at q; cases q; exact ⟨v, ws, rfl, hv, MVRs.allD hr hq⟩
  | .r _ :: _, _, _, _, q => by cases q

/-- the numbered lists lie at φ; all that lay in h₀ lies there still -/
structure St (h₀ : Heap) (ψ φ : List Addr) (μ : Mu) (h : Heap) : Prop where
  base : ∀ b o, h₀.get? b = some o → h.get? b = some o
  off : ∀ a ∈ ψ, h₀.get? a = none
  live : ∀ a ∈ ψ, ∃ o, h.get? a = some o
  sub : ∀ a ∈ φ, a ∈ ψ
  nd : φ.Nodup
  len : φ.length = μ.length
  lst : ∀ (i : Nat) a xs, φ[i]? = some a → μ[i]? = some xs → ∃ vs, h.PlainList a vs ∧ VRs ψ h xs vs.toList
section
variable {h₀ h h' : Heap} {ψ φ : List Addr} {μ : Mu}
theorem St.fresh (S : St h₀ ψ φ μ h) : h.objs.size ∉ ψ := fun hm => by
  obtain ⟨o, ho⟩ := S.live _ hm
  exact absurd (Heap.lt_size ho) (Nat.lt_irrefl _)
theorem St.grow (S : St h₀ ψ φ μ h) (k : ∀ b o, h.get? b = some o → h'.get? b = some o) : St h₀ ψ φ μ h' :=
  ⟨fun b o e => k b o (S.base b o e), S.off, fun a m => let ⟨o, e⟩ := S.live a m; ⟨o, k a o e⟩, S.sub, S.nd, S.len, fun i a xs e q => let ⟨vs, hp, hv⟩ := S.lst i a xs e q; ⟨vs, hp.at (k a), hv.kept (κ := []) (.of k) (fun _ m => nomatch m)⟩⟩
theorem St.push (S : St h₀ ψ φ μ h) (o : Obj) : St h₀ ψ φ μ (h.push o) := S.grow fun _ _ e => Heap.get?_push_of_some o e
/-- one list is changed -/
theorem St.set (S : St h₀ ψ φ μ h) {j : Nat} {a : Addr} {xs : List PyData} {vs : Array Value} (hj : φ[j]? = some a) (hp : h'.PlainList a vs) (hs : Heap.SameBut a h h') (hv : VRs ψ h xs vs.toList) : St h₀ ψ φ (μ.set j xs) h' ∧ Keep φ h h' := by
  have ha : a ∈ φ := List.mem_of_getElem? hj
  have k : Keep φ h h' := fun b o e n => (hs.2 b (fun q => n (q ▸ ha))).trans e
  refine ⟨⟨fun b o e => ?_, S.off, fun b hb => ?_, S.sub, S.nd, by rw [List.length_set]; exact S.len, fun i b ys e q => ?_⟩, k⟩
  · exact k b o (S.base b o e) fun hb => by rw [S.off b (S.sub b hb)] at e; cases e
  · by_cases hba : b = a
    · subst hba; obtain ⟨n, e⟩ := hp; exact ⟨_, e⟩
    · obtain ⟨o, e⟩ := S.live b hb; exact ⟨o, (hs.2 b hba).trans e⟩
  · by_cases hij : j = i
    · subst hij
      rw [hj] at e; cases e
      rw [List.getElem?_set] at q
      split at q
      · split at q
        · cases q; exact ⟨vs, hp, hv.kept k S.sub⟩
        · cases q
      · exact absurd rfl ‹_›
    · rw [List.getElem?_set, if_neg hij] at q
      obtain ⟨us, hu, hr⟩ := S.lst i b ys e q
      refine ⟨us, ?_, hr.kept k S.sub⟩
      refine hu.at fun o ho => (hs.2 b fun z => hij ?_).trans ho
      subst z
      exact (List.getElem?_inj (List.getElem?_eq_some_iff.mp hj).1 S.nd).mp (hj.trans e.symm)
/-- an object of ψ that is no list of φ is changed (the frame's slots) -/
theorem St.other (S : St h₀ ψ φ μ h) {L : Addr} (hL : L ∈ ψ) (hn : L ∉ φ) (hl : ∃ o, h'.get? L = some o) (hs : Heap.SameBut L h h') : St h₀ ψ φ μ h' := by
  have k : Keep [L] h h' := fun b o e n => (hs.2 b (fun q => n (q ▸ List.mem_singleton.mpr rfl))).trans e
  have ks : ∀ a ∈ [L], a ∈ ψ := fun a m => List.mem_singleton.mp m ▸ hL
  refine ⟨fun b o e => ?_, S.off, fun b hb => ?_, S.sub, S.nd, S.len, fun i b ys e q => ?_⟩
  · exact k b o (S.base b o e) fun hb => by rw [List.mem_singleton.mp hb, S.off L hL] at e; cases e
  · by_cases hba : b = L
    · subst hba; exact hl
    · obtain ⟨o, e⟩ := S.live b hb; exact ⟨o, (hs.2 b hba).trans e⟩
  · obtain ⟨us, hu, hr⟩ := S.lst i b ys e q
    refine ⟨us, ?_, hr.kept k ks⟩
    exact hu.at fun o ho => (hs.2 b fun z => hn (z ▸ List.mem_of_getElem? e)).trans ho
/-- one list more -/
theorem St.more (S : St h₀ ψ φ μ h) {a : Addr} {xs : List PyData} {vs : Array Value} (hp : h.PlainList a vs) (ha : a ∉ ψ) (h0 : h₀.get? a = none) (hd : ∀ x v, VR ψ h x v → VR (a :: ψ) h x v) (hv : VRs (a :: ψ) h xs vs.toList)
    (hds : ∀ x v, VRs ψ h x v → VRs (a :: ψ) h x v) : St h₀ (a :: ψ) (φ ++ [a]) (μ ++ [xs]) h := by
  have _ := hd
  have ha' : a ∉ φ := fun m => ha (S.sub a m)
  refine ⟨S.base, fun b hb => ?_, fun b hb => ?_, fun b hb => ?_, ?_, by simp [S.len], fun i b ys e q => ?_⟩
  · rcases List.mem_cons.mp hb with rfl | hb
    · exact h0
    · exact S.off b hb
  · rcases List.mem_cons.mp hb with rfl | hb
    · obtain ⟨n, e⟩ := hp; exact ⟨_, e⟩
    · exact S.live b hb
  · rcases List.mem_append.mp hb with hb | hb
    · exact .tail _ (S.sub b hb)
    · rw [List.mem_singleton.mp hb]; exact .head _
  · exact List.nodup_append.mpr ⟨S.nd, by simp, fun x hx y hy => by rw [List.mem_singleton.mp hy]; exact fun z => ha' (z ▸ hx)⟩
  · by_cases hi : i < φ.length
    · rw [List.getElem?_append_left hi] at e
      rw [List.getElem?_append_left (S.len ▸ hi)] at q
      obtain ⟨us, hu, hr⟩ := S.lst i b ys e q
      exact ⟨us, hu, hds _ _ hr⟩
    · rw [List.getElem?_append_right (Nat.le_of_not_lt hi)] at e
      rw [List.getElem?_append_right (S.len ▸ Nat.le_of_not_lt hi)] at q
      have e0 : i - φ.length = 0 := by
        cases hq : i - φ.length with
        | zero => rfl
        | succ n => rw [hq] at e; cases e
      rw [e0] at e
      rw [← S.len, e0] at q
      cases e; cases q
      exact ⟨vs, hp, hv⟩
end

structure MC where
  names : List Str
  scope : Scope
  fns : List Str
/-- a frame: its env, and the objects that are its own (the slots' namespace, the cells) -/
structure FV where
  env : Env
  own : List Addr
def Holds (C : MC) (V : FV) (m : Str → Option Value) (h : Heap) (x : Str) (v : Value) : Prop :=
  (C.scope.names.lookup x = some .local ∧ m x = some v) ∨ (C.scope.names.lookup x = some .cell ∧ ∃ c, V.env.cells.lookup x = some c ∧ h.IsCell c (some v))
structure LocS (C : MC) (V : FV) (ψ φ : List Addr) (ρ : Rho) (h : Heap) (m : Str → Option Value) : Prop where
  ns : h.Ns V.env.locals m
  kind : V.env.scope.kind = .function
  kinds : V.env.scope.names = C.scope.names
  globals : V.env.globals = mainGlobals
  builtins : V.env.builtins = builtinsNs
  lo : V.env.locals ∈ V.own
  own : ∀ a ∈ V.own, a ∈ ψ ∧ a ∉ φ
  cells : ∀ x, C.scope.names.lookup x = some .cell → ∃ c v₀, V.env.cells.lookup x = some c ∧ c ∈ V.own ∧ c ≠ V.env.locals ∧ h.IsCell c v₀
  inj : ∀ x y c, V.env.cells.lookup x = some c → V.env.cells.lookup y = some c → x = y
  val : ∀ (i : Nat) mv, ρ[i]? = some (some mv) → ∃ x v, C.names[i]? = some x ∧ Holds C V m h x v ∧ MVR ψ φ h mv v
/-- the frame's slots -/
def Loc (C : MC) (V : FV) (ψ φ : List Addr) (ρ : Rho) (h : Heap) : Prop := ∃ m, LocS C V ψ φ ρ h m
section
variable {C : MC} {V : FV} {ψ φ κ : List Addr} {ρ : Rho} {h h' : Heap} {m : Str → Option Value}
theorem ns_keep (k : Keep κ h h') {L : Addr} (hn : h.Ns L m) (hL : L ∉ κ) : h'.Ns L m := by
  obtain ⟨o, es, ep, ho, r⟩ := hn
  exact ⟨o, es, ep, k _ _ ho hL, r⟩
theorem cell_keep (k : Keep κ h h') {c : Addr} {v : Option Value} (hn : h.IsCell c v) (hL : c ∉ κ) : h'.IsCell c v := by
  obtain ⟨o, ho, r⟩ := hn
  exact ⟨o, k _ _ ho hL, r⟩
/-- nothing of the frame's own is touched -/
theorem LocS.move (X : LocS C V ψ φ ρ h m) (k : Keep κ h h') (hk : ∀ a ∈ V.own, a ∉ κ) {ψ' φ' : List Addr} (ho : ∀ a ∈ V.own, a ∈ ψ' ∧ a ∉ φ') (hv : ∀ mv v, MVR ψ φ h mv v → MVR ψ' φ' h' mv v) : LocS C V ψ' φ' ρ h' m := by
  refine ⟨ns_keep k X.ns (hk _ X.lo), X.kind, X.kinds, X.globals, X.builtins, X.lo, ho, fun x hx => ?_, X.inj, fun i mv e => ?_⟩
  · obtain ⟨c, v₀, h1, h2, h3, h4⟩ := X.cells x hx
    exact ⟨c, v₀, h1, h2, h3, cell_keep k h4 (hk c h2)⟩
  · obtain ⟨x, v, h1, h2, h3⟩ := X.val i mv e
    refine ⟨x, v, h1, ?_, hv mv v h3⟩
    rcases h2 with h2 | ⟨h2, c, h4, h5⟩
    · exact .inl h2
    · refine .inr ⟨h2, c, h4, cell_keep k h5 (hk c ?_)⟩
      obtain ⟨c', v₀, e1, e2, _⟩ := X.cells x h2
      rw [h4] at e1; cases e1; exact e2
theorem Loc.kept (X : Loc C V ψ φ ρ h) (k : Keep φ h h') (s : ∀ a ∈ φ, a ∈ ψ) : Loc C V ψ φ ρ h' := by
  obtain ⟨m, X⟩ := X
  exact ⟨m, X.move k (fun a ha => (X.own a ha).2) X.own fun _ _ e => e.kept k s⟩
theorem Loc.keptBy (X : Loc C V ψ φ ρ h) (k : Keep κ h h') (s : ∀ a ∈ κ, a ∈ ψ) (hL : ∀ a ∈ V.own, a ∉ κ) : Loc C V ψ φ ρ h' := by
  obtain ⟨m, X⟩ := X
  exact ⟨m, X.move k hL X.own fun _ _ e => e.kept k s⟩
theorem Loc.get (X : Loc C V ψ φ ρ h) {i : Nat} {x : Str} {mv : MV} (hx : C.names[i]? = some x) (hv : ρ[i]?.join = some mv) :
    ∃ m v, LocS C V ψ φ ρ h m ∧ Holds C V m h x v ∧ MVR ψ φ h mv v := by
  obtain ⟨m, X⟩ := X
  have e : ρ[i]? = some (some mv) := by
    cases q : ρ[i]? with
    | none => rw [q] at hv; cases hv
    | some o => rw [q] at hv; cases o with
      | none => cases hv
      | some z => cases hv; rfl
  obtain ⟨y, v, h1, h2, h3⟩ := X.val i mv e
  rw [hx] at h1; cases h1
  exact ⟨m, v, X, h2, h3⟩
end
end Mini

namespace Mini
open PySem PySem.Spec PyProof.Rows

def MC.loc (C : MC) (i : Nat) (x : Str) : Bool := decide (C.names[i]? = some x) && (decide (C.scope.names.lookup x = some .local) || decide (C.scope.names.lookup x = some .cell)) && !(x == ("__debug__" : Str))
def MC.glob (C : MC) (x : Str) : Bool := decide (C.scope.names.lookup x = some .globalImplicit) && !(x == ("__debug__" : Str))

def notSlice : Expr → Bool
  | .Slice .. => false
  | _ => true
def notStar : Expr → Bool
  | .Starred .. => false
  | _ => true
def notComp : Expr → Bool
  | .ListComp .. | .SetComp .. | .DictComp .. => false
  | _ => true
/-- a test that is asked as a value or as one comparison -/
def plainTest : Expr → Bool
  | .UnaryOp .. | .BoolOp .. | .IfExp .. => false
  | _ => true

mutual
def matchE (C : MC) : ME → Expr → Bool
  | .var i, e => match e with | .Name x _ => C.loc i x | _ => false
  | .none, e => match e with | .Constant c _ _ => decide (c = .none) | _ => false
  | .bool b, e => match e with | .Constant c _ _ => decide (c = .bool b) | _ => false
  | .int n, e => match e with | .Constant c _ _ => decide (c = .int n) | _ => false
  | .str s, e => match e with | .Constant c _ _ => decide (c = .str s) | _ => false
  | .bin op a b, e => match e with | .BinOp l op' r _ => decide (op = op') && matchE C a l && matchE C b r | _ => false
  | .cmp op a b, e => match e with | .Compare l [op'] [r] _ => decide (op = op') && !behindInMarks op' r && matchE C a l && matchE C b r | _ => false
  | .bop op a es, e => match e with | .BoolOp op' (x :: xs) _ => decide (op = op') && matchE C a x && matchEs C es xs | _ => false
  | .ite c a b, e => match e with | .IfExp t x y _ => matchT C c t && matchE C a x && matchE C b y | _ => false
  | .tup es, e => match e with | .Tuple xs _ _ => matchEs C es xs | _ => false
  | .lst es, e => match e with | .List xs _ => matchEs C es xs | _ => false
  | .idx a b, e => match e with | .Subscript v i _ => notSlice i && matchE C a v && matchE C b i | _ => false
  | .slc a lo hi, e => match e with
    | .Subscript v (.Slice l u none _) _ => matchE C a v && (match l with | none => (match lo with | .none => true | _ => false) | some x => matchE C lo x) &&
        (match u with | none => (match hi with | .none => true | _ => false) | some x => matchE C hi x)
    | _ => false
  | .call f es, e => match e with | .Call (.Name x _) (y :: ys) [] _ => decide (C.fns[f]? = some x) && C.glob x && matchEs C es (y :: ys) | _ => false
  | .prim p es, e => match e with | .Call (.Name x _) (y :: ys) [] _ => decide (x = p.name) && C.glob x && matchEs C es (y :: ys) | _ => false
  | .isBool a, e => match e with | .Call (.Name x _) [y, .Name z _] [] _ => decide (x = ("isinstance" : Str)) && C.glob x && decide (z = ("bool" : Str)) && C.glob z && notStar y && matchE C a y | _ => false
  | .strOf a, e => match e with | .Call (.Name x _) [y] [] _ => decide (x = ("str" : Str)) && C.glob x && notStar y && matchE C a y | _ => false
def matchEs (C : MC) : MEs → List Expr → Bool
  | .nil, xs => match xs with | [] => true | _ => false
  | .cons e es, xs => match xs with | x :: xs => notStar x && matchE C e x && matchEs C es xs | _ => false
def matchT (C : MC) : MT → Expr → Bool
  | .val e, x => plainTest x && matchE C e x
  | .not t, x => match x with | .UnaryOp .Not y _ => matchT C t y | _ => false
  | .bop op ts, x => match x with | .BoolOp op' ys _ => decide (op = op') && matchTs C ts ys | _ => false
def matchTs (C : MC) : MTs → List Expr → Bool
  | .nil, xs => match xs with | [] => true | _ => false
  | .cons t ts, xs => match xs with | x :: xs => matchT C t x && matchTs C ts xs | _ => false
end

def relabelS (scope outer : Scope) : Scope :=
  { scope with names := scope.names.map fun (n, k) => if (k == .free && outer.names.lookup n == some .cell) then (n, .cell) else (n, k) }
/-- the names in a comprehension: its variable, then what it takes from around -/
def compC (C : MC) (scope : Scope) (x : Str) (caps : List Nat) : MC := ⟨x :: caps.filterMap (C.names[·]?), relabelS scope C.scope, C.fns⟩
def compOk (C : MC) (scope : Scope) (x : Str) (caps : List Nat) : Bool :=
  decide (scope.kind = .function) && decide ((caps.filterMap (C.names[·]?)).length = caps.length) && (caps.filterMap (C.names[·]?)).all (fun z => decide (C.scope.names.lookup z = some .cell) && decide ((relabelS scope C.scope).names.lookup z = some .cell)) &&
  decide (x :: caps.filterMap (C.names[·]?)).Nodup && decide (scope.names.lookup x = some .local) &&
  scope.names.all fun z => decide (z.2 ≠ .cell) && (decide (z.2 ≠ .local) || decide (scope.names.lookup z.1 = some .local)) && (decide (z.2 ≠ .free) || decide (C.scope.names.lookup z.1 = some .cell))

def namesOk (C : MC) : List Nat → List Expr → Bool
  | [], xs => match xs with | [] => true | _ => false
  | i :: is, xs => match xs with | .Name x _ :: xs => C.loc i x && namesOk C is xs | _ => false

mutual
def matchS (C : MC) : MS → Stmt → Bool
  | .assign i e, s => match s with | .Assign [.Name x _] v _ => C.loc i x && notComp v && matchE C e v | _ => false
  | .newlist i es, s => match s with | .Assign [.Name x _] (.List xs _) _ => C.loc i x && matchEs C es xs | _ => false
  | .unpack is e, s => match s with | .Assign [.Tuple ts _ _] v _ => namesOk C is ts && notComp v && (match v with | .Tuple .. => false | _ => true) && matchE C e v | _ => false
  | .append i e, s => match s with
    | .Expr (.Call (.Attribute (.Name x _) m apos) [y] [] pos) _ => C.loc i x && decide (m = ("append" : Str)) && decide (apos.endLine = pos.line) && notStar y && matchE C e y
    | _ => false
  | .delat i e, s => match s with | .Delete [.Subscript (.Name x _) k _] _ => C.loc i x && notSlice k && matchE C e k | _ => false
  | .ite c a b, s => match s with | .If t x y _ => matchT C c t && matchSs C a x && matchSs C b y | _ => false
  | .whl _ c b, s => match s with | .While t x [] _ => matchT C c t && matchSs C b x | _ => false
  | .forr i e b, s => match s with
    | .For (.Name x _) (.Call (.Name r _) [y] [] _) ys [] _ => C.loc i x && decide (r = ("range" : Str)) && C.glob r && notStar y && matchE C e y && matchSs C b ys
    | _ => false
  | .ret e, s => match s with | .Return (some x) _ => matchE C e x | _ => false
  | .cont, s => match s with | .Continue _ => true | _ => false
  | .compr i caps e elt, s => match s with
    | .Assign [.Name y py] (.ListComp el [⟨.Name x _, .Call (.Name r _) [a] [] _, [], 0⟩] scope pos) _ => C.loc i y && decide (C.scope.names.lookup y = some .local) && (py.line == pos.line) && !(scope.names.any fun (n, k) => n == y && (k == .local || k == .cell)) &&
        decide (r = ("range" : Str)) && C.glob r && notStar a && matchE C e a && compOk C scope x caps && matchE (compC C scope x caps) elt el
    | _ => false
  | .delfrom i e, s => match s with | .Delete [.Subscript (.Name x _) (.Slice (some lo) none none _) _] _ => C.loc i x && matchE C e lo | _ => false
  | .fore i e b, s => match s with | .For (.Name x _) (.Name y py) ys [] _ => C.loc i x && matchE C e (.Name y py) && matchSs C b ys | _ => false
def matchSs (C : MC) : MSs → List Stmt → Bool
  | .nil, xs => match xs with | [] => true | _ => false
  | .cons s ss, xs => match xs with | x :: xs => matchS C s x && matchSs C ss xs | _ => false
end
end Mini

namespace Mini
open PySem PySem.Spec PySem.Calls PyProof.Rows

structure Room (n : Nat) (A : Around) : Prop where
  handled : A.handled = none
  depth : A.depth + n < recursionLimit
  units : A.units + 4 * n + 70 < cLine

def FnOK (prog : Program) (w : World) (h₀ : Heap) (mg : Str → Option Value) (n : Nat) (x : Str) (f : Fn) : Prop :=
  ∃ a o fd, mg x = some (.ref a) ∧ h₀.get? a = some o ∧ o.data = .func fd ∧
    ∀ (A : Around) (s : Shared) (ψ φ : List Addr) (μ : Mu) (mvs : List MV) (vs : List Value) (d : PyData) (μ' : Mu) (R : Result → Shared → Prop), Room n A → St h₀ ψ φ μ s.heap → MVRs ψ φ s.heap mvs vs → f mvs μ = some (d, μ') →
      (∀ v h' tk, VR ψ h' d v → St h₀ ψ φ μ' h' → Keep φ s.heap h' → R (.ok (.ret v)) { s with heap := h', toks := tk }) →
      codeAny (model prog w) A (.call (.ref a) ⟨vs, []⟩) R s

def builtinsUsed : List (Str × Value) := [("len", .builtin "len"), ("abs", .builtin "abs"), ("max", .builtin "max"), ("isinstance", .builtin "isinstance"), ("bool", .type "bool"), ("range", .type "range"), ("str", .type "str")]

structure GF (prog : Program) (w : World) (h₀ : Heap) (mg mb : Str → Option Value) (fs : List (Str × Fn)) (n : Nat) : Prop where
  g : h₀.Ns mainGlobals mg
  b : h₀.Ns builtinsNs mb
  nolimit : h₀.NoLimit
  bi : ∀ p ∈ builtinsUsed, mg p.1 = none ∧ mb p.1 = some p.2
  fn : ∀ (i : Nat) x f, fs[i]? = some (x, f) → FnOK prog w h₀ mg n x f

structure Cx (prog : Program) (w : World) where
  h₀ : Heap
  mg : Str → Option Value
  mb : Str → Option Value
  fs : List (Str × Fn)
  n : Nat
  C : MC
  G : GF prog w h₀ mg mb fs n
  hf : C.fns = fs.map (·.1)
  hk : C.scope.kind = .function
  nd : C.names.Nodup
def Cx.F {prog : Program} {w : World} (X : Cx prog w) : List Fn := X.fs.map (·.2)

variable {prog : Program} {w : World}

def SE (X : Cx prog w) (e : Expr) (sem : Rho → Mu → Option (MV × Mu)) : Prop :=
  ∀ ρ μ p, sem ρ μ = some p → ∀ (A : Around) (s : Shared) (ψ φ : List Addr) (V : FV) (E : Value → Shared → Prop) (Q : Value → Shared → Prop),
    Room X.n A → St X.h₀ ψ φ μ s.heap → Loc X.C V ψ φ ρ s.heap →
    (∀ v h' tk, MVR ψ φ h' p.1 v → St X.h₀ ψ φ p.2 h' → Keep φ s.heap h' → Q v { s with heap := h', toks := tk }) →
    wpAny (model prog w) A (eval e (V.env)) Q E s
def SB (X : Cx prog w) (e : Expr) (sem : Rho → Mu → Option (Bool × Mu)) : Prop :=
  ∀ ρ μ p, sem ρ μ = some p → ∀ (A : Around) (s : Shared) (ψ φ : List Addr) (V : FV) (E : Value → Shared → Prop) (Q : Bool → Shared → Prop),
    Room X.n A → St X.h₀ ψ φ μ s.heap → Loc X.C V ψ φ ρ s.heap →
    (∀ h' tk, St X.h₀ ψ φ p.2 h' → Keep φ s.heap h' → Q p.1 { s with heap := h', toks := tk }) →
    wpAny (model prog w) A (isTrue e (V.env) (eval e (V.env))) Q E s
def SL (X : Cx prog w) (es : List Expr) (sem : Rho → Mu → Option (List MV × Mu)) : Prop :=
  ∀ ρ μ p, sem ρ μ = some p → ∀ (A : Around) (s : Shared) (ψ φ : List Addr) (V : FV) (pos : Pos) (E : Value → Shared → Prop) (Q : List Value → Shared → Prop),
    Room X.n A → St X.h₀ ψ φ μ s.heap → Loc X.C V ψ φ ρ s.heap →
    (∀ vs h' tk, MVRs ψ φ h' p.1 vs → St X.h₀ ψ φ p.2 h' → Keep φ s.heap h' → Q vs { s with heap := h', toks := tk }) →
    wpAny (model prog w) A (spliced (backTo pos (starEach es (V.env)))) Q E s

/-- a value to be read: it may be one of the numbered lists itself -/
def RR (ψ : List Addr) (h : Heap) : PyData → Value → Prop
  | .list xs, v => ∃ a vs, v = .ref a ∧ h.IsList a vs ∧ VRs ψ h xs vs.toList
  | x, v => VR ψ h x v
theorem VR.rr {ψ : List Addr} {h : Heap} : ∀ {x : PyData} {v : Value}, VR ψ h x v → RR ψ h x v
  | .none, _, e => e
  | .bool _, _, e => e
  | .int _, _, e => e
  | .str _, _, e => e
  | .list _, _, ⟨a, vs, e, hl, _, r⟩ => ⟨a, vs, e, hl, r⟩
  | .tuple _, _, e => e
  | .dict _, _, e => e
theorem MVR.rr {h₀ : Heap} {ψ φ : List Addr} {μ : Mu} {h : Heap} (S : St h₀ ψ φ μ h) {mv : MV} {v : Value} {x : PyData} (e : MVR ψ φ h mv v) (hr : rd μ mv = some x) : RR ψ h x v := by
  cases mv with
  | d y => cases hr; exact VR.rr e
  | r i =>
    obtain ⟨a, rfl, ha⟩ := e
    obtain ⟨xs, hx, rfl⟩ := Option.map_eq_some_iff.mp hr
    obtain ⟨vs, hp, hv⟩ := S.lst i a xs ha hx
    exact ⟨a, vs, rfl, hp.isList, hv⟩
theorem RR.reads {ψ : List Addr} {h : Heap} : ∀ {x : PyData} {v : Value}, RR ψ h x v → ∃ as, Reads h v x as
  | .none, _, e => VR.reads (ψ := ψ) (x := .none) e
  | .bool _, _, e => VR.reads (ψ := ψ) (x := .bool _) e
  | .int _, _, e => VR.reads (ψ := ψ) (x := .int _) e
  | .str _, _, e => VR.reads (ψ := ψ) (x := .str _) e
  | .list _, _, ⟨a, vs, e, ⟨o, ho, hc, n, hd⟩, r⟩ => by subst e; obtain ⟨as, q⟩ := VRs.reads r; exact ⟨_, .list ho hc hd q⟩
  | .tuple _, _, e => VR.reads (ψ := ψ) (x := .tuple _) e
  | .dict _, _, e => VR.reads (ψ := ψ) (x := .dict _) e

section ops
variable {A : Around} {E : Value → Shared → Prop} {s : Shared} {ψ : List Addr} {x y z : PyData} {u v : Value}

theorem add_lists_any {l b : Addr} {vs ws : Array Value} {Q : Value → Shared → Prop} (hl : s.heap.IsList l vs) (hb : s.heap.IsList b ws)
    (h : Q (.ref s.heap.objs.size) { s with heap := s.heap.push { cls := .type "list", data := .seq (vs ++ ws) } })
    (hsz : vs.size + ws.size ≤ sizeLine) : wpAny (model prog w) A (binaryOp .Add (.ref l) (.ref b)) Q E s := by
  obtain ⟨⟨cls, dd, data, sl⟩, ho, hc, n, hd⟩ := id hl
  obtain ⟨⟨cls2, dd2, data2, sl2⟩, ho2, hc2, n2, hd2⟩ := id hb
  simp only at hc hd hc2 hd2
  subst hc hd hc2 hd2
  exact concat_meets ⟨_, ho, rfl⟩ ⟨_, ho2, rfl⟩ noFill_list_add seq_list_add PySem.F.slot_list_add PySem.F.entry_list_add (PySem.F.args_list_add_2 _ _) (list_addW l b vs ws n n2 dd dd2 sl sl2 hsz) ⟨ho, ho2, h⟩

theorem VRs.size {h : Heap} {xs : List PyData} {vs : Array Value} (e : VRs ψ h xs vs.toList) : vs.size = xs.length := by rw [← e.length, Array.length_toList]

theorem bits_small {a : Int} (h0 : 0 ≤ a) (h1 : a < 1073741824) : Builtin.Int.intBits a ≤ 64 := by
  unfold Builtin.Int.intBits
  split
  · omega
  · rename_i hz
    have hz' : a.natAbs ≠ 0 := fun e => hz (by simp; omega)
    have h2 : a.natAbs.log2 < 30 := (Nat.log2_lt hz').mpr (by omega)
    omega

theorem bin_sound {op : Operator} {Q : Value → Shared → Prop} (hz : binD op x y = some z) (ru : RR ψ s.heap x u) (rv : RR ψ s.heap y v) (hfr : s.heap.objs.size ∉ ψ)
    (hq : ∀ r h' tk, VR ψ h' z r → (∀ b o, s.heap.get? b = some o → h'.get? b = some o) → Q r { s with heap := h', toks := tk }) : wpAny (model prog w) A (binaryOp op u v) Q E s := by
  unfold binD at hz
  split at hz
  · obtain ⟨t, rfl⟩ := ru; obtain ⟨t', rfl⟩ := rv; cases hz
    exact PyProof.Rows.add_int (hq _ s.heap _ ⟨_, rfl⟩ fun _ _ e => e)
  · obtain ⟨t, rfl⟩ := ru; obtain ⟨t', rfl⟩ := rv
    split at hz
    · cases hz
      exact PyProof.Rows.add_str (fun t' tk => hq _ s.heap tk ⟨_, rfl⟩ fun _ _ e => e) (by rename_i hs; exact hs)
    · cases hz
  · obtain ⟨a, vs, rfl, hl, hv⟩ := ru; obtain ⟨b, ws, rfl, hb, hw⟩ := rv
    split at hz
    · cases hz
      rename_i hs
      refine add_lists_any hl hb (hq _ _ s.toks ⟨_, _, rfl, ⟨_, Heap.get?_push_size _ rfl, rfl, 0, rfl⟩, hfr, ?_⟩ fun _ _ e => Heap.get?_push_of_some _ e) (by rw [hv.size, hw.size]; exact hs)
      have k : Keep [] s.heap (s.heap.push { cls := .type "list", data := .seq (vs ++ ws) }) := .of fun _ _ e => Heap.get?_push_of_some _ e
      rw [Array.toList_append]
      exact (hv.kept k fun _ m => nomatch m).append (hw.kept k fun _ m => nomatch m)
    · cases hz
  · obtain ⟨t, rfl⟩ := ru; obtain ⟨t', rfl⟩ := rv; cases hz
    exact PyProof.Rows.sub_int (hq _ s.heap _ ⟨_, rfl⟩ fun _ _ e => e)
  · obtain ⟨t, rfl⟩ := ru; obtain ⟨t', rfl⟩ := rv
    split at hz
    · cases hz
    · cases hz
      rename_i hb
      exact PyProof.Rows.mod_int' hb (hq _ s.heap _ ⟨_, rfl⟩ fun _ _ e => e)
  · obtain ⟨t, rfl⟩ := ru; obtain ⟨t', rfl⟩ := rv
    split at hz
    · cases hz
      rename_i hb
      exact PyProof.Rows.floordiv_int (by omega) (hq _ s.heap _ ⟨_, rfl⟩ fun _ _ e => e) (.inl (PyProof.noPylong_small (by omega)))
    · cases hz
  · obtain ⟨t, rfl⟩ := ru; obtain ⟨t', rfl⟩ := rv
    split at hz
    · cases hz
      rename_i hb
      exact PyProof.Rows.mul_int (hq _ s.heap _ ⟨_, rfl⟩ fun _ _ e => e) (IntMulOk.of_left (bits_small hb.1 hb.2))
    · cases hz
  · obtain ⟨t, rfl⟩ := ru; obtain ⟨t', rfl⟩ := rv
    split at hz
    · cases hz
      rename_i hb
      exact PyProof.Rows.pow_int_small hb.2.2.1 (by omega) (by omega) (hq _ s.heap _ ⟨_, rfl⟩ fun _ _ e => e)
    · cases hz
  · obtain ⟨t, rfl⟩ := ru; obtain ⟨t', rfl⟩ := rv
    split at hz
    · cases hz
      rename_i hb
      exact PyProof.Rows.rshift_int hb (hq _ s.heap _ ⟨_, rfl⟩ fun _ _ e => e)
    · cases hz
  · cases hz

theorem is_sound {b : Bool} (hz : isD x y = some b) (ru : RR ψ s.heap x u) (rv : RR ψ s.heap y v) : plainIs u v = true ∧ (u == v) = b := by
  unfold isD at hz
  split at hz
  · cases hz; cases ru; cases rv; exact ⟨rfl, rfl⟩
  · cases hz; cases ru; cases rv; refine ⟨rfl, ?_⟩; rename_i a b; cases a <;> cases b <;> rfl
  · cases hz; cases ru; cases rv; exact ⟨rfl, rfl⟩
  · cases hz; cases ru; cases rv; exact ⟨rfl, rfl⟩
  · cases hz; cases ru; obtain ⟨a, vs, rfl, _⟩ := rv; exact ⟨rfl, rfl⟩
  · cases hz; cases rv; obtain ⟨a, vs, rfl, _⟩ := ru; exact ⟨rfl, rfl⟩
  · cases hz; cases ru; obtain ⟨a, vs, rfl, _⟩ := rv; exact ⟨rfl, rfl⟩
  · cases hz; cases rv; obtain ⟨a, vs, rfl, _⟩ := ru; exact ⟨rfl, rfl⟩
  · cases hz

theorem eqOk_spec {a b : PyData} (h : eqOk a b = true) : a.canLay0 = true ∧ b.canLay0 = true ∧ min a.depth b.depth ≤ 64 := by
  unfold eqOk at h
  simp only [Bool.and_eq_true, decide_eq_true_eq] at h
  exact ⟨h.1.1, h.1.2, h.2⟩

theorem cmp_sound {op : CmpOp} {b : Bool} {Q : Value → Shared → Prop} (hz : cmpD op x y = some b) (ru : RR ψ s.heap x u) (rv : RR ψ s.heap y v) (hu : A.units + 64 < cLine)
    (hq : Q (.bool b) s) : wpAny (model prog w) A (compareOp op u v) Q E s := by
  unfold cmpD at hz
  split at hz
  · obtain ⟨t, rfl⟩ := ru; obtain ⟨t', rfl⟩ := rv; cases hz; exact PyProof.Rows.eq_int hq
  · obtain ⟨t, rfl⟩ := ru; obtain ⟨t', rfl⟩ := rv; cases hz; exact PyProof.Rows.eq_str hq
  · obtain ⟨t, rfl⟩ := ru; obtain ⟨t', rfl⟩ := rv; cases hz; exact PyProof.Rows.ne_int hq
  · obtain ⟨t, rfl⟩ := ru; obtain ⟨t', rfl⟩ := rv; cases hz; exact PyProof.Rows.ne_str hq
  · split at hz
    · cases hz
      rename_i hs
      obtain ⟨h1, h2, h3⟩ := eqOk_spec hs
      obtain ⟨as, ra⟩ := ru.reads
      obtain ⟨bs, rb⟩ := rv.reads
      exact SeqAt.compareEq_reads ra rb h1 h2 (by omega) hq
    · cases hz
  · split at hz
    · cases hz
      rename_i hs
      obtain ⟨h1, h2, h3⟩ := eqOk_spec hs
      obtain ⟨as, ra⟩ := ru.reads
      obtain ⟨bs, rb⟩ := rv.reads
      exact SeqAt.compareNe_reads ra rb h1 h2 (by omega) hq
    · cases hz
  · obtain ⟨t, rfl⟩ := ru; obtain ⟨t', rfl⟩ := rv; cases hz; exact PyProof.Rows.lt_int hq
  · obtain ⟨t, rfl⟩ := ru; obtain ⟨t', rfl⟩ := rv; cases hz; exact PyProof.Rows.gt_int hq
  · obtain ⟨t, rfl⟩ := ru; obtain ⟨t', rfl⟩ := rv; cases hz; exact PyProof.Rows.le_int hq
  · obtain ⟨t, rfl⟩ := ru; obtain ⟨t', rfl⟩ := rv; cases hz; exact PyProof.Rows.ge_int hq
  · obtain ⟨h1, h2⟩ := is_sound hz ru rv
    exact wpAny_is_plain h1 (by rw [h2]; exact hq)
  · obtain ⟨c, hc, rfl⟩ := Option.map_eq_some_iff.mp hz
    obtain ⟨h1, h2⟩ := is_sound hc ru rv
    exact wpAny_isNot_plain h1 (by rw [h2]; exact hq)
  · obtain ⟨t, rfl⟩ := ru; obtain ⟨t', rfl⟩ := rv; cases hz; exact PyProof.Rows.in_str hq
  · cases hz

theorem sub_plain {i : Expr} (hi : notSlice i = true) (o k : Value) : subscripted i false o k = operate [o, k] (getItem o k) := by
  cases i <;> first | rfl | cases hi

theorem seqIndex_nat {k : Int} {n : Nat} (h0 : 0 ≤ k) (h1 : k.toNat < n) : seqIndex? k n = some k.toNat := by
  unfold seqIndex?
  have h2 : ¬ k < 0 := by omega
  simp only [h2, if_false]
  first | rfl | (split <;> first | rfl | omega) | (simp; omega)

theorem idx_sound {value i : Expr} {Q : Value → Shared → Prop} (hz : idxD x y = some z) (ru : RR ψ s.heap x u) (rv : RR ψ s.heap y v) (hi : notSlice i = true)
    (hq : ∀ r tk, VR ψ s.heap z r → Q r { s with toks := tk }) : wpAny (model prog w) A (subscriptTail value i u v) Q E s := by
  unfold idxD at hz
  split at hz
  · obtain ⟨a, vs, rfl, hl, hv⟩ := ru; obtain ⟨t, rfl⟩ := rv
    split at hz
    · rename_i hb
      obtain ⟨r, hr, hvr⟩ := hv.get hz
      exact tail_any hl.typeIs slot_list_getitem.lookup (wpAny_getItem_list hl hb.1 hb.2 (by simpa using hr) (hq r s.toks hvr)) (sub_plain hi _ _)
    · cases hz
  · obtain ⟨a, vs, rfl, hl, _, hv⟩ := ru; obtain ⟨t, rfl⟩ := rv
    split at hz
    · rename_i hb
      obtain ⟨r, hr, hvr⟩ := hv.get hz
      have hlt := (List.getElem?_eq_some_iff.mp hr).1
      rw [Array.length_toList] at hlt
      exact tail_any hl.typeIs slot_tuple_getitem.lookup (PyProof.Rows.getItem_tuple hl (by omega) hb.2 (seqIndex_nat hb.1 hlt) (by simpa using hr) (hq r s.toks hvr)) (sub_plain hi _ _)
    · cases hz
  · obtain ⟨t, rfl⟩ := ru; obtain ⟨t', rfl⟩ := rv
    split at hz
    · rename_i x' k' hb
      obtain ⟨c, hc, rfl⟩ := Option.map_eq_some_iff.mp hz
      have hlt : k'.toNat < x'.cps.size := (Array.getElem?_eq_some_iff.mp hc).1
      refine tail_any (typeIs_str s x' t) slot_str_getitem.lookup (PyProof.Rows.getItem_str (c := c) (by simp; omega) ?_ (hq _ _ ⟨_, rfl⟩)) (sub_plain hi _ _)
      rw [seqIndex_nat hb.1 (by exact hlt)]
      exact hc
    · cases hz
  · cases hz

/-- a bound of a slice -/
theorem part_lo {a : Nat} (hz : loD x = some a) (r : VR ψ s.heap x v) : ∃ lo, IsPart v lo ∧ lo.elim 0 (fun k => k.toNat) = a ∧ ∀ k, lo = some k → 0 ≤ k := by
  unfold loD at hz
  split at hz
  · cases hz; cases r; exact ⟨none, .none, rfl, fun _ e => nomatch e⟩
  · obtain ⟨t, rfl⟩ := r
    split at hz
    · cases hz; rename_i k hk; exact ⟨some k, .int k t, rfl, fun _ e => by cases e; exact hk⟩
    · cases hz
  · cases hz
theorem part_hi {n a : Nat} (hz : hiD n x = some a) (r : VR ψ s.heap x v) : ∃ hi, IsPart v hi ∧ hi.elim n (fun k => k.toNat) = a ∧ ∀ k, hi = some k → 0 ≤ k := by
  unfold hiD at hz
  split at hz
  · cases hz; cases r; exact ⟨none, .none, rfl, fun _ e => nomatch e⟩
  · obtain ⟨t, rfl⟩ := r
    split at hz
    · cases hz; rename_i k hk; exact ⟨some k, .int k t, rfl, fun _ e => by cases e; exact hk⟩
    · cases hz
  · cases hz
theorem clip_pos {n : Nat} {k : Int} (h : 0 ≤ k) : clipAt n k = min k.toNat n := by
  have := clipAt_nat n k.toNat
  rw [Int.toNat_of_nonneg h] at this
  exact this
theorem pick_eq (items : Array Value) {lo hi : Option Int} (hl : ∀ k, lo = some k → 0 ≤ k) (hh : ∀ k, hi = some k → 0 ≤ k) :
    (slicePick items lo hi none).toList = (items.toList.take (hi.elim items.size (fun k => k.toNat))).drop (lo.elim 0 (fun k => k.toNat)) := by
  rw [slicePick_plain, List.toList_toArray, List.drop_take]
  have e1 : lo.elim 0 (clipAt items.size) = min (lo.elim 0 (fun k => k.toNat)) items.size := by
    cases lo with
    | none => simp
    | some k => exact clip_pos (hl k rfl)
  have e2 : hi.elim items.size (clipAt items.size) = min (hi.elim items.size (fun k => k.toNat)) items.size := by
    cases hi with
    | none => simp
    | some k => exact clip_pos (hh k rfl)
  rw [e1, e2]
  generalize lo.elim 0 (fun k => k.toNat) = a
  generalize hi.elim items.size (fun k => k.toNat) = b
  have hn : items.toList.length = items.size := Array.length_toList
  apply List.ext_getElem?
  intro i
  rw [List.getElem?_take, List.getElem?_take, List.getElem?_drop, List.getElem?_drop]
  by_cases ha : a ≤ items.size
  · rw [Nat.min_eq_left ha]
    by_cases hb : b ≤ items.size
    · rw [Nat.min_eq_left hb]
    · rw [Nat.min_eq_right (by omega)]
      by_cases h1 : i < items.size - a
      · rw [if_pos h1, if_pos (by omega)]
      · rw [if_neg h1, List.getElem?_eq_none (by omega)]; simp
  · have hm : min a items.size = items.size := Nat.min_eq_right (by omega)
    have hm2 : min b items.size ≤ items.size := Nat.min_le_right _ _
    rw [hm, if_neg (by omega), List.getElem?_eq_none (i := a + i) (by omega)]; simp

theorem slc_sound {value : Expr} {l r : Option Expr} {p : Pos} {vl vr : Value} {Q : Value → Shared → Prop} {d : PyData} (hz : slcD x y z = some d) (ru : RR ψ s.heap x u) (rl : VR ψ s.heap y vl) (rr : VR ψ s.heap z vr) (hfr : ∀ a ∈ ψ, a < s.heap.objs.size)
    (hq : ∀ r h' tk, VR ψ h' d r → (∀ b o, s.heap.get? b = some o → h'.get? b = some o) → Q r { s with heap := h', toks := tk }) :
    wpAny (model prog w) A (subscriptTail value (.Slice l r none p) u (.ref s.heap.objs.size)) Q E { s with heap := s.heap.push { cls := .type "slice", data := .fields #[vl, vr, .none] } } := by
  have kp : ∀ b o, s.heap.get? b = some o → (s.heap.push { cls := .type "slice", data := .fields #[vl, vr, .none] }).get? b = some o := fun _ _ e => Heap.get?_push_of_some _ e
  unfold slcD at hz
  split at hz
  · obtain ⟨a, vs, rfl, hl, hv⟩ := ru
    obtain ⟨i, hi, hz⟩ := Option.bind_eq_some_iff.mp hz
    obtain ⟨j, hj, hz⟩ := Option.bind_eq_some_iff.mp hz
    split at hz
    · cases hz
      rename_i hs
      obtain ⟨lo, pl, el, nl⟩ := part_lo hi rl
      obtain ⟨hi', pr, er, nr⟩ := part_hi hj rr
      have hl' : (s.heap.push { cls := .type "slice", data := .fields #[vl, vr, .none] }).IsList a vs := hl.push _
      have kk : ∀ b o, s.heap.get? b = some o → ((s.heap.push { cls := .type "slice", data := .fields #[vl, vr, .none] }).push { cls := .type "list", data := .seq (slicePick vs lo hi' none) }).get? b = some o := fun b o e => Heap.get?_push_of_some _ (kp b o e)
      refine tail_any (ops := [.ref s.heap.objs.size, .ref a]) hl'.typeIs slot_list_getitem.lookup (wpAny_getItem_list_slice hl' ⟨_, Heap.get?_push_size _ rfl, rfl, rfl⟩ pl pr .none (by intro e; cases e) ?_ ?_) rfl
      · refine hq _ _ s.toks ⟨_, _, rfl, ⟨_, Heap.get?_push_size _ rfl, rfl, 0, rfl⟩, ?_, ?_⟩ kk
        · intro hm
          have h1 : (s.heap.push { cls := .type "slice", data := .fields #[vl, vr, .none] }).objs.size < s.heap.objs.size := hfr _ hm
          rw [Heap.size_push] at h1
          exact absurd h1 (by omega)
        · rw [pick_eq vs nl nr, el, hv.size, er]
          exact ((hv.kept (κ := []) (.of kk) fun _ m => nomatch m).take _).drop _
      · show vs.size ≤ sizeLine
        rw [hv.size]; assumption
    · cases hz
  · obtain ⟨t, rfl⟩ := ru; obtain ⟨t', rfl⟩ := rl; cases rr
    split at hz
    · cases hz
      rename_i hs
      obtain ⟨T, id, h1, h2, h3⟩ := SBH.sliceItem_sn (prog := prog) (w := w) (A := A) (E := E) (s := s) (t := t) (P := fun h' => ∀ b o, s.heap.get? b = some o → h'.get? b = some o) (ui := t') (Q := Q)
        (fun h' o k b o' e => Heap.get?_push_of_some _ (k b o' e)) (fun _ _ e => e) (fun h' t'' k hk => hq _ h' k ⟨_, rfl⟩ hk) hs
      exact tail_any (ops := [.ref s.heap.objs.size, .str _ t]) h2 h1 h3 rfl
    · cases hz
  · cases hz

theorem prim_sound {k : Prim} {vs : List Value} {xs : List PyData} {Q : Value → Shared → Prop} (hA : A.handled = none) (hz : primD k xs = some z) (rs : vs.length = xs.length) (rr : ∀ (i : Nat) x v, xs[i]? = some x → vs[i]? = some v → RR ψ s.heap x v)
    (hq : ∀ r h' tk, VR ψ h' z r → (∀ b o, s.heap.get? b = some o → h'.get? b = some o) → Q r { s with heap := h', toks := tk }) :
    wpAny (model prog w) A (call (.builtin k.id) vs) Q E s := by
  unfold primD at hz
  split at hz
  · split at hz
    · cases hz
      rename_i hs
      match vs, rs with
      | [v], _ =>
        obtain ⟨a, us, rfl, hl, hv⟩ := rr 0 _ v rfl rfl
        exact PyProof.Rows.len_list hl (by rw [hv.size]; omega) (hq _ s.heap _ ⟨s.toks + 1, by rw [hv.size]⟩ fun _ _ e => e)
    · cases hz
  · cases hz
    match vs, rs with
    | [v], _ =>
      obtain ⟨t, rfl⟩ := rr 0 _ v rfl rfl
      exact PyProof.Rows.call_abs_int fun t' tk => hq _ s.heap tk ⟨_, rfl⟩ fun _ _ e => e
  · cases hz
    match vs, rs with
    | [v, v'], _ =>
      obtain ⟨t, rfl⟩ := rr 0 _ v rfl rfl
      obtain ⟨t', rfl⟩ := rr 1 _ v' rfl rfl
      refine max_two_ints hA fun h' tk hk => ?_
      split
      · rename_i hb; exact hq _ h' tk ⟨t', by rw [if_pos hb]⟩ hk
      · rename_i hb; exact hq _ h' tk ⟨t, by rw [if_neg hb]⟩ hk
  · cases hz
end ops
end Mini

namespace Mini
open PySem PySem.Spec PySem.Calls PyProof.Rows
variable {prog : Program} {w : World}

theorem MC.loc_spec {C : MC} {i : Nat} {x : Str} (h : C.loc i x = true) : C.names[i]? = some x ∧ (C.scope.names.lookup x = some .local ∨ C.scope.names.lookup x = some .cell) ∧ (x == ("__debug__" : Str)) = false := by
  unfold MC.loc at h
  simp only [Bool.and_eq_true, Bool.or_eq_true, decide_eq_true_eq, Bool.not_eq_true'] at h
  exact ⟨h.1.1, h.1.2, h.2⟩
theorem MC.glob_spec {C : MC} {x : Str} (h : C.glob x = true) : C.scope.names.lookup x = some .globalImplicit ∧ (x == ("__debug__" : Str)) = false := by
  unfold MC.glob at h
  simp only [Bool.and_eq_true, decide_eq_true_eq, Bool.not_eq_true'] at h
  exact h
theorem star_cons {x : Expr} {xs : List Expr} {env : Env} (h : notStar x = true) : starEach (x :: xs) env = (false, eval x env) :: starEach xs env := by
  cases x <;> first | rfl | cases h
theorem back_cons {t : Sem Value} {r : List (Bool × Sem Value)} {pos : Pos} : backTo pos ((false, t) :: r) = (false, t) :: backTo pos r := rfl

theorem matchEs_star {C : MC} {es : MEs} {y : Expr} {ys : List Expr} (h : matchEs C es (y :: ys) = true) : notStar y = true := by
  cases es with
  | nil => cases h
  | cons e es =>
    have h' : (notStar y && matchE C e y && matchEs C es ys) = true := h
    simp only [Bool.and_eq_true] at h'
    exact h'.1.1
theorem prim_used (k : Prim) : (k.name, Value.builtin k.id) ∈ builtinsUsed := by cases k <;> simp [builtinsUsed, Prim.name, Prim.id]

theorem Room.units64 {n : Nat} {A : Around} (h : Room n A) : A.units + 64 < cLine := by have := h.units; omega

theorem wp_boolOp {M : Model} {A : Around} {pos : Pos} {op : BoolOp} {x y : Sem Value} {rest : List (Sem Value)} {Q : Value → Shared → Prop} {E : Value → Shared → Prop} {s : Shared}
    (h : wpAny M A x (fun v s₁ => wpAny M A (truthy v) (fun t s₂ => if t == (op == .Or) then Q v s₂ else wpAny M A (boolOp pos op (y :: rest)) Q E s₂) E s₁) E s) : wpAny M A (boolOp pos op (x :: y :: rest)) Q E s := by
  show wpAny M A (do let v ← x; standAt pos; let t ← holding [v] (truthy v); match op, t with | .And, false | .Or, true => pure v | _, _ => boolOp pos op (y :: rest)) Q E s
  refine wpAny_bind (wpAny_mono h (fun v s₁ h₁ => wpAny_bind (wpAny_standAt (wpAny_bind (wpAny_holding (wpAny_mono h₁ (fun t s₂ h₂ => ?_) fun _ _ e => e))))) fun _ _ e => e)
  cases op <;> cases t <;> first | exact wpAny_pure h₂ | exact h₂

theorem isTrue_plain' {x : Expr} {env : Env} {whole : Sem Value} (h : plainTest x = true) (hc : ∀ l o c p, x ≠ .Compare l o c p) : isTrue x env whole = (do let v ← whole; standAt x.pos; holding [v] (truthy v)) := by
  cases x <;> first | exact absurd rfl (hc _ _ _ _) | rfl | cases h

theorem plain_args {C : MC} {pos : Pos} {env : Env} : ∀ {es : MEs} {ys : List Expr}, matchEs C es ys = true → (backTo pos (starEach ys env)).any (·.1) = false
  | .nil, [], _ => rfl
  | .nil, _ :: _, h => by cases h
  | .cons _ _, [], h => by cases h
  | .cons e es, y :: ys, h => by
    have h' : (notStar y && matchE C e y && matchEs C es ys) = true := h
    simp only [Bool.and_eq_true] at h'
    rw [star_cons h'.1.1, back_cons, List.any_cons, plain_args h'.2]; rfl

section
variable {X : Cx prog w}

theorem SE.two {e₁ e₂ : Expr} {s₁ s₂ : Rho → Mu → Option (MV × Mu)} (h₁ : SE X e₁ s₁) (h₂ : SE X e₂ s₂) {ρ : Rho} {μ : Mu} {p q : MV × Mu} (hp : s₁ ρ μ = some p) (hq : s₂ ρ p.2 = some q)
    {A : Around} {s : Shared} {ψ φ : List Addr} {V : FV} {E : Value → Shared → Prop} {K : Value → Value → Shared → Prop}
    (hR : Room X.n A) (S : St X.h₀ ψ φ μ s.heap) (hL : Loc X.C V ψ φ ρ s.heap)
    (k : ∀ u v h' tk, MVR ψ φ h' p.1 u → MVR ψ φ h' q.1 v → St X.h₀ ψ φ q.2 h' → Keep φ s.heap h' → K u v { s with heap := h', toks := tk }) :
    wpAny (model prog w) A (eval e₁ (V.env)) (fun u s' => wpAny (model prog w) A (eval e₂ (V.env)) (fun v s'' => K u v s'') E s') E s :=
  h₁ ρ μ p hp A s ψ φ V E _ hR S hL fun u h' tk hu S' k' =>
    h₂ ρ p.2 q hq A { s with heap := h', toks := tk } ψ φ V E _ hR S' (hL.kept k' S'.sub) fun v h'' tk' hv S'' k'' => k u v h'' tk' (hu.kept k'' S'.sub) hv S'' (k'.trans k'')

theorem St.lts {h₀ h : Heap} {ψ φ : List Addr} {μ : Mu} (S : St h₀ ψ φ μ h) : ∀ a ∈ ψ, a < h.objs.size := fun a m => let ⟨_, e⟩ := S.live a m; Heap.lt_size e

theorem allD_length : ∀ {ms : List MV} {xs : List PyData}, allD ms = some xs → xs.length = ms.length
  | [], _, e => by cases e; rfl
  | .d x :: r, _, e => by
    obtain ⟨ys, hy, rfl⟩ := Option.map_eq_some_iff.mp e
    rw [List.length_cons, List.length_cons, allD_length hy]
  | .r _ :: _, _, e => by cases e
theorem rdAll_rr {h₀ h : Heap} {ψ φ : List Addr} {μ : Mu} (S : St h₀ ψ φ μ h) : ∀ {ms : List MV} {vs : List Value} {xs : List PyData}, MVRs ψ φ h ms vs → rdAll μ ms = some xs → vs.length = xs.length ∧ ∀ (i : Nat) x v, xs[i]? = some x → vs[i]? = some v → RR ψ h x v
  | [], _, _, e, q => by cases e; cases q; exact ⟨rfl, fun i x v e => by cases e⟩
  | m :: ms, _, _, ⟨v, ws, e, hv, r⟩, q => by
    subst e
    simp only [rdAll, Option.bind_eq_bind, Option.bind_eq_some_iff, Option.some.injEq] at q
    obtain ⟨x, hx, xs, hxs, rfl⟩ := q
    obtain ⟨h1, h2⟩ := rdAll_rr S r hxs
    refine ⟨by rw [List.length_cons, List.length_cons, h1], fun i y u e1 e2 => ?_⟩
    cases i with
    | zero => cases e1; cases e2; exact hv.rr S hx
    | succ i => exact h2 i y u (by simpa using e1) (by simpa using e2)

theorem LocS.kindOf {C : MC} {V : FV} {ψ φ : List Addr} {ρ : Rho} {h : Heap} {m : Str → Option Value} (l : LocS C V ψ φ ρ h m) {x : Str} {k : NameKind} (e : C.scope.names.lookup x = some k) : V.env.kindOf x = some k := by
  unfold Env.kindOf; rw [l.kinds]; exact e
theorem ld_glob {x : Str} {p : Pos} {v : Value} {A : Around} {s : Shared} {V : FV} {E Q : Value → Shared → Prop} {ψ φ : List Addr} {ρ : Rho} (hL : Loc X.C V ψ φ ρ s.heap) (base : ∀ b o, X.h₀.get? b = some o → s.heap.get? b = some o)
    (hx : X.C.glob x = true) (hv : X.mg x = some v) (h : Q v s) : wpAny (model prog w) A (eval (.Name x p) (V.env)) Q E s :=
  let ⟨_, l⟩ := hL
  Name_function_global l.kind (l.kindOf (MC.glob_spec hx).1) (loadGlobal_global (env := V.env) (l.globals ▸ X.G.g.keeps base) hv h) (MC.glob_spec hx).2
theorem ld_bi {x : Str} {p : Pos} {v : Value} {A : Around} {s : Shared} {V : FV} {E Q : Value → Shared → Prop} {ψ φ : List Addr} {ρ : Rho} (hL : Loc X.C V ψ φ ρ s.heap) (base : ∀ b o, X.h₀.get? b = some o → s.heap.get? b = some o)
    (hx : X.C.glob x = true) (hv : (x, v) ∈ builtinsUsed) (h : Q v s) : wpAny (model prog w) A (eval (.Name x p) (V.env)) Q E s :=
  let ⟨_, l⟩ := hL
  Name_function_global l.kind (l.kindOf (MC.glob_spec hx).1) (loadGlobal_builtin (env := V.env) (l.globals ▸ X.G.g.keeps base) (X.G.bi _ hv).1 (l.builtins ▸ X.G.b.keeps base) (X.G.bi _ hv).2 h) (MC.glob_spec hx).2
end

set_option maxHeartbeats 1000000 in
mutual
theorem soundE (X : Cx prog w) : ∀ (me : ME) (e : Expr), matchE X.C me e = true → SE X e (evE X.F me)
  | .var i, e, hm => by
    unfold matchE at hm
    split at hm
    · intro ρ μ q h A s ψ φ V E Q hR S hL k
      obtain ⟨h1, h2, h3⟩ := MC.loc_spec hm
      simp only [evE] at h
      obtain ⟨mv, hv, rfl⟩ := Option.map_eq_some_iff.mp h
      obtain ⟨m, v, l, hx, hr⟩ := hL.get h1 hv
      rcases hx with ⟨e1, e2⟩ | ⟨e1, c, e2, e3⟩
      · exact wpAny_Name (wpAny_loadName_local l.kind (l.kindOf e1) l.ns e2 (k v s.heap s.toks hr S (Keep.refl _ _))) h3
      · exact wpAny_Name (wpAny_loadName_cell l.kind (l.kindOf e1) e2 e3 (k v s.heap s.toks hr S (Keep.refl _ _))) h3
    · cases hm
  | .none, e, hm => by
    unfold matchE at hm
    split at hm
    · intro ρ μ q h A s ψ φ V E Q hR S hL k
      cases of_decide_eq_true hm
      simp only [evE, Option.some.injEq] at h
      subst h
      exact wpAny_Constant_none (k _ s.heap s.toks rfl S (Keep.refl _ _))
    · cases hm
  | .bool b, e, hm => by
    unfold matchE at hm
    split at hm
    · intro ρ μ q h A s ψ φ V E Q hR S hL k
      cases of_decide_eq_true hm
      simp only [evE, Option.some.injEq] at h
      subst h
      exact wpAny_Constant_bool (k _ s.heap s.toks rfl S (Keep.refl _ _))
    · cases hm
  | .int n, e, hm => by
    unfold matchE at hm
    split at hm
    · intro ρ μ q h A s ψ φ V E Q hR S hL k
      cases of_decide_eq_true hm
      simp only [evE, Option.some.injEq] at h
      subst h
      exact wpAny_Constant_int (k _ s.heap _ ⟨_, rfl⟩ S (Keep.refl _ _))
    · cases hm
  | .str n, e, hm => by
    unfold matchE at hm
    split at hm
    · intro ρ μ q h A s ψ φ V E Q hR S hL k
      cases of_decide_eq_true hm
      simp only [evE, Option.some.injEq] at h
      subst h
      exact wpAny_Constant_str (k _ s.heap _ ⟨_, rfl⟩ S (Keep.refl _ _))
    · cases hm
  | .bin op a b, e, hm => by
    unfold matchE at hm
    split at hm
    · intro ρ μ q h A s ψ φ V E Q hR S hL k
      simp only [Bool.and_eq_true, decide_eq_true_eq] at hm
      obtain ⟨⟨rfl, ha⟩, hb⟩ := hm
      simp only [evE, Option.bind_eq_some_iff, Option.map_eq_some_iff] at h
      obtain ⟨p1, h1, p2, h2, x, hx, y, hy, z, hz, rfl⟩ := h
      refine wpAny_BinOp (SE.two (soundE X a _ ha) (soundE X b _ hb) h1 h2 hR S hL fun u v h' tk hu hv S' k' => ?_)
      exact bin_sound hz (hu.rr S' hx) (hv.rr S' hy) S'.fresh fun r h'' tk' hr kk => k r h'' tk' hr (S'.grow kk) (k'.trans (.of kk))
    · cases hm
  | .cmp op a b, e, hm => by
    unfold matchE at hm
    split at hm
    · intro ρ μ q h A s ψ φ V E Q hR S hL k
      simp only [Bool.and_eq_true, decide_eq_true_eq, Bool.not_eq_true'] at hm
      obtain ⟨⟨⟨rfl, hbm⟩, ha⟩, hb⟩ := hm
      simp only [evE, Option.bind_eq_some_iff, Option.map_eq_some_iff] at h
      obtain ⟨p1, h1, p2, h2, x, hx, y, hy, z, hz, rfl⟩ := h
      refine wpAny_Compare1 (SE.two (soundE X a _ ha) (soundE X b _ hb) h1 h2 hR S hL fun u v h' tk hu hv S' k' => ?_) hbm
      exact cmp_sound hz (hu.rr S' hx) (hv.rr S' hy) hR.units64 (k _ h' tk rfl S' k')
    · cases hm
  | .bop op a es, e, hm => by
    unfold matchE at hm
    split at hm
    · intro ρ μ q h A s ψ φ V E Q hR S hL k
      simp only [Bool.and_eq_true, decide_eq_true_eq] at hm
      obtain ⟨⟨rfl, ha⟩, hb⟩ := hm
      simp only [evE, Option.bind_eq_some_iff] at h
      obtain ⟨p, h1, h2⟩ := h
      exact soundV X es _ hb _ p ρ q h2 A s ψ φ V E Q _ _ hR hL S.sub (fun K hK => soundE X a _ ha ρ μ p h1 A s ψ φ V E K hR S hL hK) k
    · cases hm
  | .ite c a b, e, hm => by
    unfold matchE at hm
    split at hm
    · intro ρ μ q h A s ψ φ V E Q hR S hL k
      simp only [Bool.and_eq_true] at hm
      obtain ⟨⟨hc, ha⟩, hb⟩ := hm
      simp only [evE, Option.bind_eq_some_iff] at h
      obtain ⟨p, h1, h2⟩ := h
      refine wpAny_IfExp (soundT X c _ hc ρ μ p h1 A s ψ φ V E _ hR S hL fun h' tk S' k' => ?_)
      cases hp : p.1 with
      | true =>
        rw [hp] at h2
        simp only [if_true] at h2 ⊢
        exact soundE X a _ ha ρ p.2 q h2 A { s with heap := h', toks := tk } ψ φ V E Q hR S' (hL.kept k' S.sub) fun v h'' tk' hv S'' k'' => k v h'' tk' hv S'' (k'.trans k'')
      | false =>
        rw [hp] at h2
        simp only [Bool.false_eq_true, if_false] at h2 ⊢
        exact soundE X b _ hb ρ p.2 q h2 A { s with heap := h', toks := tk } ψ φ V E Q hR S' (hL.kept k' S.sub) fun v h'' tk' hv S'' k'' => k v h'' tk' hv S'' (k'.trans k'')
    · cases hm
  | .tup es, e, hm => by
    unfold matchE at hm
    split at hm
    · intro ρ μ q h A s ψ φ V E Q hR S hL k
      simp only [evE, Option.bind_eq_some_iff] at h
      obtain ⟨p, h1, xs, hx, h2⟩ := h
      split at h2
      · cases h2
        rename_i hs
        refine wpAny_Tuple (soundL X es _ hm ρ μ p h1 A s ψ φ V _ E _ hR S hL fun vs h' tk hv S' k' => ⟨?_, ?_⟩)
        · rw [hv.length, ← allD_length hx]; exact hs
        · refine k _ _ tk ⟨_, _, rfl, ⟨_, Heap.get?_push_size _ rfl, rfl, 0, rfl⟩, S'.fresh, ?_⟩ (S'.push _) (k'.push _)
          exact (hv.allD hx).kept (κ := []) (.of fun _ _ e => Heap.get?_push_of_some _ e) fun _ m => nomatch m
      · cases h2
    · cases hm
  | .lst es, e, hm => by
    unfold matchE at hm
    split at hm
    · intro ρ μ q h A s ψ φ V E Q hR S hL k
      simp only [evE, Option.bind_eq_some_iff] at h
      obtain ⟨p, h1, xs, hx, h2⟩ := h
      split at h2
      · cases h2
        rename_i hs
        refine wpAny_List (soundL X es _ hm ρ μ p h1 A s ψ φ V _ E _ hR S hL fun vs h' tk hv S' k' => ⟨?_, ?_⟩)
        · rw [hv.length, ← allD_length hx]; exact hs
        · refine k _ _ tk ⟨_, _, rfl, ⟨_, Heap.get?_push_size _ rfl, rfl, 0, rfl⟩, S'.fresh, ?_⟩ (S'.push _) (k'.push _)
          exact (hv.allD hx).kept (κ := []) (.of fun _ _ e => Heap.get?_push_of_some _ e) fun _ m => nomatch m
      · cases h2
    · cases hm
  | .idx a b, e, hm => by
    unfold matchE at hm
    split at hm
    · intro ρ μ q h A s ψ φ V E Q hR S hL k
      simp only [Bool.and_eq_true] at hm
      obtain ⟨⟨hi, ha⟩, hb⟩ := hm
      simp only [evE, Option.bind_eq_some_iff, Option.map_eq_some_iff] at h
      obtain ⟨p1, h1, p2, h2, x, hx, y, hy, z, hz, rfl⟩ := h
      refine Subscript_ (SE.two (soundE X a _ ha) (soundE X b _ hb) h1 h2 hR S hL fun u v h' tk hu hv S' k' => ?_)
      exact idx_sound hz (hu.rr S' hx) (hv.rr S' hy) hi fun r tk' hr => k r h' tk' hr S' k'
    · cases hm
  | .slc a lo hi, e, hm => by
    unfold matchE at hm
    split at hm
    · rename_i v0 l0 u0 p0 p1
      intro ρ μ q h A s ψ φ V E Q hR S hL k
      simp only [Bool.and_eq_true] at hm
      obtain ⟨⟨ha, hl⟩, hu⟩ := hm
      simp only [evE, Option.bind_eq_some_iff, Option.map_eq_some_iff] at h
      obtain ⟨p1, h1, p2, h2, p3, h3, x, hx, y, hy, z, hz, d, hd, rfl⟩ := h
      have part : ∀ (m : ME) (o : Option Expr), ((∃ x, o = some x ∧ matchE X.C m x = true ∧ SE X x (evE X.F m)) ∨ (o = none ∧ m = .none)) → ∀ μ p, evE X.F m ρ μ = some p →
          ∀ (s : Shared) (Q : Value → Shared → Prop), St X.h₀ ψ φ μ s.heap → Loc X.C V ψ φ ρ s.heap → (∀ v h' tk, MVR ψ φ h' p.1 v → St X.h₀ ψ φ p.2 h' → Keep φ s.heap h' → Q v { s with heap := h', toks := tk }) →
          wpAny (model prog w) A (evalPart o (V.env)) Q E s := by
        intro m o ho μ p hp s Q S hL k
        rcases ho with ⟨x, rfl, _, hs⟩ | ⟨rfl, rfl⟩
        · exact hs ρ μ p hp A s ψ φ V E Q hR S hL k
        · simp only [evE, Option.some.injEq] at hp
          subst hp
          exact wpAny_pure (k _ s.heap s.toks rfl S (Keep.refl _ _))
      have hl' : (∃ x, l0 = some x ∧ matchE X.C lo x = true ∧ SE X x (evE X.F lo)) ∨ (l0 = none ∧ lo = .none) := by
        cases l0 with
        | none => refine .inr ⟨rfl, ?_⟩; cases lo <;> first | rfl | cases hl
        | some x => exact .inl ⟨x, rfl, hl, soundE X lo x hl⟩
      have hu' : (∃ x, u0 = some x ∧ matchE X.C hi x = true ∧ SE X x (evE X.F hi)) ∨ (u0 = none ∧ hi = .none) := by
        cases u0 with
        | none => refine .inr ⟨rfl, ?_⟩; cases hi <;> first | rfl | cases hu
        | some x => exact .inl ⟨x, rfl, hu, soundE X hi x hu⟩
      refine Subscript_ (soundE X a _ ha ρ μ p1 h1 A s ψ φ V E _ hR S hL fun o h' tk ho S' k' => ?_)
      refine wpAny_Slice (part lo l0 hl' p1.2 p2 h2 { s with heap := h', toks := tk } _ S' (hL.kept k' S.sub) fun vl h'' tk' hvl S'' k'' => ?_)
      refine part hi u0 hu' p2.2 p3 h3 { s with heap := h'', toks := tk' } _ S'' (hL.kept (k'.trans k'') S.sub) fun vu h3' tk3 hvu S3 k3 => ?_
      refine wpAny_pure ?_
      have hy' : ∃ m, p2.1 = .d m := by
        cases hp : p2.1 with
        | d m => exact ⟨m, rfl⟩
        | r i =>
          rw [hp] at hy
          obtain ⟨xs, _, rfl⟩ := Option.map_eq_some_iff.mp hy
          exfalso
          unfold slcD at hd
          split at hd
          · simp [loD] at hd
          · rename_i e; cases e
          · cases hd
      have hz' : ∃ m, p3.1 = .d m := by
        cases hp : p3.1 with
        | d m => exact ⟨m, rfl⟩
        | r i =>
          rw [hp] at hz
          obtain ⟨xs, _, rfl⟩ := Option.map_eq_some_iff.mp hz
          exfalso
          unfold slcD at hd
          split at hd
          · simp [hiD] at hd
          · rename_i e; cases e
          · cases hd
      obtain ⟨y', ey⟩ := hy'
      obtain ⟨z', ez⟩ := hz'
      rw [ey] at hy hvl
      rw [ez] at hz hvu
      cases hy; cases hz
      exact slc_sound (s := { s with heap := h3', toks := tk3 }) hd ((ho.kept (k''.trans k3) S.sub).rr S3 hx) (VR.kept k3 S.sub hvl) hvu S3.lts fun r h4 tk4 hr kk => k r h4 tk4 hr (S3.grow kk) ((k'.trans (k''.trans k3)).trans (.of kk))
    · cases hm
  | .call g es, e, hm => by
    unfold matchE at hm
    split at hm
    · rename_i x p0 y ys p1
      intro ρ μ q h A s ψ φ V E Q hR S hL k
      simp only [Bool.and_eq_true, decide_eq_true_eq] at hm
      obtain ⟨⟨hg, hx⟩, he⟩ := hm
      simp only [evE, Option.bind_eq_some_iff, Option.map_eq_some_iff] at h
      obtain ⟨p, h1, fn, hfn, r, hr, rfl⟩ := h
      have hfs : ∃ z, X.fs[g]? = some z ∧ z.1 = x ∧ z.2 = fn := by
        rw [X.hf, List.getElem?_map] at hg
        unfold Cx.F at hfn
        rw [List.getElem?_map] at hfn
        cases hz : X.fs[g]? with
        | none => rw [hz] at hg; cases hg
        | some z =>
          rw [hz] at hg hfn
          exact ⟨z, rfl, Option.some.inj hg, Option.some.inj hfn⟩
      obtain ⟨z, hz, rfl, rfl⟩ := hfs
      obtain ⟨a, o, fd, hmg, hao, hod, hcall⟩ := X.G.fn g z.1 z.2 hz
      have hstar := matchEs_star he
      refine wpAny_Call_NameR (ld_glob hL S.base hx hmg (callWith_function (o := o) (fd := fd) ?_))
      have hsp := soundL X es _ he ρ μ p h1 A s ψ φ V p1 E (fun vs s₁ => (s₁.heap.get? a = some o ∧ o.data = .func fd) ∧ wpAny (model prog w) A (call (.ref a) ([] ++ vs) []) Q E s₁) hR S hL fun vs h' tk hv S' k' =>
        ⟨⟨S'.base a o hao, hod⟩, wpAny_call (hcall A { s with heap := h', toks := tk } ψ φ p.2 p.1 vs r.1 r.2 _ hR S' hv hr fun v h'' tk' hv' S'' k'' => k v h'' tk' hv' S'' (k'.trans k''))⟩
      rw [star_cons hstar, back_cons] at hsp ⊢
      exact evalArgs_plain hsp
    · cases hm
  | .prim k0 es, e, hm => by
    unfold matchE at hm
    split at hm
    · rename_i x p0 y ys p1
      intro ρ μ q h A s ψ φ V E Q hR S hL k
      simp only [Bool.and_eq_true, decide_eq_true_eq] at hm
      obtain ⟨⟨rfl, hx⟩, he⟩ := hm
      simp only [evE, Option.bind_eq_some_iff, Option.map_eq_some_iff] at h
      obtain ⟨p, h1, xs, hxs, z, hz, rfl⟩ := h
      have hstar := matchEs_star he
      refine wpAny_Call_NameR (ld_bi (v := .builtin k0.id) hL S.base hx (prim_used k0) (callWith_builtin ?_ ?_))
      · exact plain_args he
      · have hsp := soundL X es _ he ρ μ p h1 A s ψ φ V p1 E (fun vs s₁ => wpAny (model prog w) A (call (.builtin k0.id) ([] ++ vs) []) Q E s₁) hR S hL fun vs h' tk hv S' k' => by
          obtain ⟨hl1, hl2⟩ := rdAll_rr S' hv hxs
          exact prim_sound (s := { s with heap := h', toks := tk }) hR.handled hz hl1 hl2 fun r h'' tk' hr kk => k r h'' tk' hr (S'.grow kk) (k'.trans (.of kk))
        rw [star_cons hstar, back_cons] at hsp ⊢
        exact evalArgs_plain hsp
    · cases hm
  | .isBool a, e, hm => by
    unfold matchE at hm
    split at hm
    · rename_i x p0 y z p3 p1
      intro ρ μ q h A s ψ φ V E Q hR S hL k
      simp only [Bool.and_eq_true, decide_eq_true_eq] at hm
      obtain ⟨⟨⟨⟨⟨rfl, hx⟩, rfl⟩, hz⟩, hst⟩, ha⟩ := hm
      simp only [evE, Option.bind_eq_some_iff] at h
      obtain ⟨p, h1, h2⟩ := h
      refine wpAny_Call_NameR (ld_bi (v := .builtin "isinstance") hL S.base hx (by simp [builtinsUsed]) (callWith_builtin ?_ ?_))
      · rw [star_cons hst, back_cons]; rfl
      · rw [star_cons hst, back_cons]
        refine evalArgs_plain (spliced_cons (soundE X a y ha ρ μ p h1 A s ψ φ V E _ hR S hL fun v h' tk hv S' k' => ?_))
        refine spliced_cons (ld_bi (v := .type "bool") (hL.kept k' S.sub) S'.base hz (by simp [builtinsUsed]) (spliced_nil ?_))
        split at h2
        · cases h2
          rename_i b hp
          rw [hp] at hv
          cases hv
          exact IsiPair.bool_bool (k _ h' tk rfl S' k')
        · cases h2
    · cases hm
  | .strOf a, e, hm => by
    unfold matchE at hm
    split at hm
    · rename_i x0 p0 y0 p1
      simp only [Bool.and_eq_true, decide_eq_true_eq] at hm
      obtain ⟨⟨⟨rfl, hx⟩, hst⟩, ha⟩ := hm
      intro ρ μ q h A s ψ φ V E Q hR S hL k
      simp only [evE, Option.bind_eq_some_iff, Option.map_eq_some_iff] at h
      obtain ⟨p, h1, d, h2, z, h3, rfl⟩ := h
      refine wpAny_Call_NameR (ld_bi (v := .type "str") hL S.base hx (by simp [builtinsUsed]) ?_)
      rw [star_cons hst, back_cons]
      refine PySem.callWith_type rfl (evalArgs_plain (spliced_cons (soundE X a y0 ha ρ μ p h1 A s ψ φ V E _ hR S hL fun v h' tk hv S' k' => spliced_nil ?_)))
      have hr := hv.rr S' h2
      unfold strD at h3
      split at h3
      · split at h3
        · rename_i hlog
          cases h3
          obtain ⟨t, rfl⟩ := hr
          exact PySem.P.str_of_int (s := { s with heap := h', toks := tk }) hlog (k _ h' (tk + 1) ⟨_, rfl⟩ S' k')
        · cases h3
      · cases h3
    · cases hm
theorem soundL (X : Cx prog w) : ∀ (es : MEs) (xs : List Expr), matchEs X.C es xs = true → SL X xs (evL X.F es)
  | .nil, xs, hm => by
    unfold matchEs at hm
    split at hm
    · intro ρ μ q h A s ψ φ V pos E Q hR S hL k
      simp only [evL, Option.some.injEq] at h
      subst h
      exact spliced_nil (k [] s.heap s.toks rfl S (Keep.refl _ _))
    · cases hm
  | .cons e es, xs, hm => by
    unfold matchEs at hm
    split at hm
    · intro ρ μ q h A s ψ φ V pos E Q hR S hL k
      simp only [Bool.and_eq_true] at hm
      obtain ⟨⟨hst, he⟩, hes⟩ := hm
      simp only [evL, Option.bind_eq_some_iff, Option.map_eq_some_iff] at h
      obtain ⟨p, h1, r, h2, rfl⟩ := h
      rw [star_cons hst, back_cons]
      refine spliced_cons (soundE X e _ he ρ μ p h1 A s ψ φ V E _ hR S hL fun v h' tk hv S' k' => ?_)
      exact soundL X es _ hes ρ p.2 r h2 A { s with heap := h', toks := tk } ψ φ V pos E _ hR S' (hL.kept k' S.sub) fun vs h'' tk' hvs S'' k'' =>
        k (v :: vs) h'' tk' ⟨v, vs, rfl, hv.kept k'' S.sub, hvs⟩ S'' (k'.trans k'')
    · cases hm
theorem soundV (X : Cx prog w) : ∀ (es : MEs) (xs : List Expr), matchEs X.C es xs = true → ∀ (op : BoolOp) (p : MV × Mu) (ρ : Rho) (q : MV × Mu), evV X.F op es p ρ = some q →
    ∀ (A : Around) (s : Shared) (ψ φ : List Addr) (V : FV) (E Q : Value → Shared → Prop) (pos : Pos) (t : Sem Value), Room X.n A → Loc X.C V ψ φ ρ s.heap → (∀ a ∈ φ, a ∈ ψ) →
    (∀ K : Value → Shared → Prop, (∀ v h' tk, MVR ψ φ h' p.1 v → St X.h₀ ψ φ p.2 h' → Keep φ s.heap h' → K v { s with heap := h', toks := tk }) → wpAny (model prog w) A t K E s) →
    (∀ v h' tk, MVR ψ φ h' q.1 v → St X.h₀ ψ φ q.2 h' → Keep φ s.heap h' → Q v { s with heap := h', toks := tk }) →
    wpAny (model prog w) A (boolOp pos op (t :: evalEach xs (V.env))) Q E s
  | .nil, xs, hm => by
    unfold matchEs at hm
    split at hm
    · intro op p ρ q h A s ψ φ V E Q pos t hR hL hsub ht k
      simp only [evV, Option.some.injEq] at h
      subst h
      exact ht Q k
    · cases hm
  | .cons e es, xs, hm => by
    unfold matchEs at hm
    split at hm
    · rename_i x xs'
      intro op p ρ q h A s ψ φ V E Q pos t hR hL hsub ht k
      simp only [Bool.and_eq_true] at hm
      obtain ⟨⟨hst, he⟩, hes⟩ := hm
      simp only [evV, Option.bind_eq_some_iff] at h
      obtain ⟨y, hy, b, hb, h2⟩ := h
      refine wp_boolOp (ht _ fun v h' tk hv S' k' => ?_)
      have hvb : v = .bool b := by
        have r := hv.rr S' hy
        cases y <;> simp only [truth, Option.some.injEq, reduceCtorEq] at hb
        subst hb; exact r
      subst hvb
      refine wpAny_truthy_bool ?_
      split
      · rename_i hc
        rw [if_pos hc] at h2
        cases h2
        exact k _ h' tk hv S' k'
      · rename_i hc
        rw [if_neg hc] at h2
        obtain ⟨r, h3, h4⟩ := Option.bind_eq_some_iff.mp h2
        exact soundV X es xs' hes op r ρ q h4 A { s with heap := h', toks := tk } ψ φ V E Q pos _ hR (hL.kept k' hsub) hsub
          (fun K hK => soundE X e x he ρ p.2 r h3 A { s with heap := h', toks := tk } ψ φ V E K hR S' (hL.kept k' hsub) hK)
          fun v h'' tk' hv S'' k'' => k v h'' tk' hv S'' (k'.trans k'')
    · cases hm
theorem soundT (X : Cx prog w) : ∀ (t : MT) (x : Expr), matchT X.C t x = true → SB X x (evB X.F t)
  | .val e, x, hm => by
    unfold matchT at hm
    simp only [Bool.and_eq_true] at hm
    obtain ⟨hp, he⟩ := hm
    intro ρ μ q h A s ψ φ V E Q hR S hL k
    simp only [evB, Option.bind_eq_some_iff, Option.map_eq_some_iff] at h
    obtain ⟨p, h1, y, hy, b, hb, rfl⟩ := h
    by_cases hc : ∃ l o c p, x = .Compare l o c p
    · obtain ⟨l, o, c, pc, rfl⟩ := hc
      cases e with
      | cmp op a b =>
        unfold matchE at he
        split at he
        · rename_i e0
          cases e0
          simp only [Bool.and_eq_true, decide_eq_true_eq, Bool.not_eq_true'] at he
          obtain ⟨⟨⟨rfl, hbm⟩, ha⟩, hb'⟩ := he
          simp only [evE, Option.bind_eq_some_iff, Option.map_eq_some_iff] at h1
          obtain ⟨p1, h1, p2, h2, x, hx, y', hy', z, hz, rfl⟩ := h1
          cases hy
          cases hb
          refine wpAny_isTrue_Compare1 (SE.two (soundE X a _ ha) (soundE X b _ hb') h1 h2 hR S hL fun u v h' tk hu hv S' k' => ?_) hbm
          exact cmp_sound hz (hu.rr S' hx) (hv.rr S' hy') hR.units64 (wpAny_truthy_bool (k h' tk S' k'))
        · cases he
      | _ => cases he
    · rw [isTrue_plain' hp fun l o c p e => hc ⟨l, o, c, p, e⟩]
      refine wpAny_bind (soundE X e x he ρ μ p h1 A s ψ φ V E _ hR S hL fun v h' tk hv S' k' => wpAny_bind (wpAny_standAt (wpAny_holding ?_)))
      have hvb : v = .bool b := by
        have r := hv.rr S' hy
        cases y <;> simp only [truth, Option.some.injEq, reduceCtorEq] at hb
        subst hb; exact r
      subst hvb
      exact wpAny_truthy_bool (k h' tk S' k')
  | .not t, x, hm => by
    unfold matchT at hm
    split at hm
    · intro ρ μ q h A s ψ φ V E Q hR S hL k
      simp only [evB, Option.map_eq_some_iff] at h
      obtain ⟨p, h1, rfl⟩ := h
      exact wpAny_isTrue_Not (soundT X t _ hm ρ μ p h1 A s ψ φ V E _ hR S hL k)
    · cases hm
  | .bop op ts, x, hm => by
    unfold matchT at hm
    split at hm
    · intro ρ μ q h A s ψ φ V E Q hR S hL k
      simp only [Bool.and_eq_true, decide_eq_true_eq] at hm
      obtain ⟨rfl, hts⟩ := hm
      simp only [evB] at h
      exact wpAny_isTrue_BoolOp (soundTs X ts _ hts _ ρ μ q h A s ψ φ V E Q hR S hL k)
    · cases hm
theorem soundTs (X : Cx prog w) : ∀ (ts : MTs) (xs : List Expr), matchTs X.C ts xs = true → ∀ (op : BoolOp) (ρ : Rho) (μ : Mu) (p : Bool × Mu), evBs X.F op ts ρ μ = some p →
    ∀ (A : Around) (s : Shared) (ψ φ : List Addr) (V : FV) (E : Value → Shared → Prop) (Q : Bool → Shared → Prop),
    Room X.n A → St X.h₀ ψ φ μ s.heap → Loc X.C V ψ φ ρ s.heap →
    (∀ h' tk, St X.h₀ ψ φ p.2 h' → Keep φ s.heap h' → Q p.1 { s with heap := h', toks := tk }) →
    wpAny (model prog w) A (allTrue op xs (V.env)) Q E s
  | .nil, xs, hm => by
    unfold matchTs at hm
    split at hm
    · intro op ρ μ p h A s ψ φ V E Q hR S hL k
      simp only [evBs, Option.some.injEq] at h
      subst h
      exact wpAny_pure (k s.heap s.toks S (Keep.refl _ _))
    · cases hm
  | .cons t ts, xs, hm => by
    unfold matchTs at hm
    split at hm
    · rename_i x xs'
      intro op ρ μ p h A s ψ φ V E Q hR S hL k
      simp only [Bool.and_eq_true] at hm
      obtain ⟨ht, hts⟩ := hm
      simp only [evBs, Option.bind_eq_some_iff] at h
      obtain ⟨q, h1, h2⟩ := h
      cases op with
      | And =>
        refine wpAny_allTrue_And_cons (soundT X t x ht ρ μ q h1 A s ψ φ V E _ hR S hL fun h' tk S' k' => ?_)
        cases hq : q.1 with
        | true =>
          rw [hq] at h2
          exact soundTs X ts xs' hts .And ρ q.2 p h2 A { s with heap := h', toks := tk } ψ φ V E Q hR S' (hL.kept k' S.sub) fun h'' tk' S'' k'' => k h'' tk' S'' (k'.trans k'')
        | false =>
          rw [hq] at h2
          have : p = q := by cases h2; rfl
          subst this
          have := k h' tk S' k'
          rw [hq] at this
          exact this
      | Or =>
        refine wpAny_allTrue_Or_cons (soundT X t x ht ρ μ q h1 A s ψ φ V E _ hR S hL fun h' tk S' k' => ?_)
        cases hq : q.1 with
        | false =>
          rw [hq] at h2
          exact soundTs X ts xs' hts .Or ρ q.2 p h2 A { s with heap := h', toks := tk } ψ φ V E Q hR S' (hL.kept k' S.sub) fun h'' tk' S'' k'' => k h'' tk' S'' (k'.trans k'')
        | true =>
          rw [hq] at h2
          have : p = q := by cases h2; rfl
          subst this
          have := k h' tk S' k'
          rw [hq] at this
          exact this
    · cases hm
end
end Mini

namespace Mini
open PySem PySem.Spec PySem.Calls PyProof.Rows
variable {prog : Program} {w : World}

/-- what a statement may add: lists at new places -/
structure Ext (ψ φ ψ' φ' : List Addr) (h : Heap) : Prop where
  sub : ∀ a ∈ ψ, a ∈ ψ'
  new : ∀ a ∈ ψ', a ∈ ψ ∨ h.get? a = none
  app : ∃ e, φ' = φ ++ e ∧ ∀ a ∈ e, h.get? a = none
theorem Ext.refl (ψ φ : List Addr) (h : Heap) : Ext ψ φ ψ φ h := ⟨fun _ m => m, fun _ m => .inl m, [], by simp, fun _ m => nomatch m⟩
theorem Ext.trans {ψ φ ψ' φ' ψ'' φ'' : List Addr} {h h' : Heap} (x : Ext ψ φ ψ' φ' h) (y : Ext ψ' φ' ψ'' φ'' h') (live : ∀ a o, h.get? a = some o → ∃ o', h'.get? a = some o') : Ext ψ φ ψ'' φ'' h := by
  have dead : ∀ a, h'.get? a = none → h.get? a = none := fun a e => by
    cases q : h.get? a with
    | none => rfl
    | some o => obtain ⟨o', e'⟩ := live a o q; rw [e] at e'; cases e'
  refine ⟨fun a m => y.sub a (x.sub a m), fun a m => ?_, ?_⟩
  · rcases y.new a m with h1 | h1
    · exact x.new a h1
    · exact .inr (dead a h1)
  · obtain ⟨e, rfl, he⟩ := x.app
    obtain ⟨e', rfl, he'⟩ := y.app
    refine ⟨e ++ e', by rw [List.append_assoc], fun a m => ?_⟩
    rcases List.mem_append.mp m with m | m
    · exact he a m
    · exact dead a (he' a m)
/-- all that lived lives on -/
theorem live_of {h₀ h h' : Heap} {φ ψ' φ' own : List Addr} {μ : Mu} (k : Keep (own ++ φ) h h') (S' : St h₀ ψ' φ' μ h') (sub : ∀ a ∈ φ, a ∈ ψ') (hL : ∀ a ∈ own, a ∈ ψ') : ∀ a o, h.get? a = some o → ∃ o', h'.get? a = some o' := fun a o e => by
  by_cases m : a ∈ own ++ φ
  · rcases List.mem_append.mp m with m | m
    · exact S'.live _ (hL a m)
    · exact S'.live _ (sub a m)
  · exact ⟨o, k a o e m⟩
theorem Keep.ext {ψ φ ψ' φ' own : List Addr} {h h' h'' : Heap} (k : Keep (own ++ φ) h h') (x : Ext ψ φ ψ' φ' h) (k' : Keep (own ++ φ') h' h'') : Keep (own ++ φ) h h'' := fun b o e n => by
  refine k' b o (k b o e n) fun m => ?_
  rcases List.mem_append.mp m with m | m
  · exact n (List.mem_append_left _ m)
  · obtain ⟨ex, rfl, he⟩ := x.app
    rcases List.mem_append.mp m with m | m
    · exact n (List.mem_append_right _ m)
    · rw [he b m] at e; cases e

def Flows (ψ φ : List Addr) (h : Heap) : Out → Flow → Prop
  | .next, f => f = .next
  | .cont, f => f = .cont
  | .ret mv, f => ∃ v, f = .ret v ∧ MVR ψ φ h mv v

def SSt (X : Cx prog w) (tree : Env → Sem Flow) (sem : Rho → Mu → Option (Out × Rho × Mu)) : Prop :=
  ∀ ρ μ q, sem ρ μ = some q → ∀ (A : Around) (s : Shared) (ψ φ : List Addr) (V : FV) (E : Value → Shared → Prop) (Q : Flow → Shared → Prop),
    Room X.n A → St X.h₀ ψ φ μ s.heap → Loc X.C V ψ φ ρ s.heap →
    (∀ fl ψ' φ' h' tk, Flows ψ' φ' h' q.1 fl → Ext ψ φ ψ' φ' s.heap → St X.h₀ ψ' φ' q.2.2 h' → Loc X.C V ψ' φ' q.2.1 h' → Keep (V.own ++ φ) s.heap h' → Q fl { s with heap := h', toks := tk }) →
    wpAny (model prog w) A (tree (V.env)) Q E s

section
variable {h₀ h h' : Heap} {ψ φ : List Addr} {μ : Mu} {C : MC} {V : FV} {ρ : Rho}
theorem Loc.inψ (X : Loc C V ψ φ ρ h) : ∀ a ∈ V.own, a ∈ ψ := let ⟨_, l⟩ := X; fun a m => (l.own a m).1
theorem Loc.offφ (X : Loc C V ψ φ ρ h) : ∀ a ∈ V.own, a ∉ φ := let ⟨_, l⟩ := X; fun a m => (l.own a m).2

/-- a slot is stored -/
theorem store_sound {X : Cx prog w} {i : Nat} {x : Str} {mv : MV} {v : Value} {A : Around} {s : Shared} {E : Value → Shared → Prop} {Q : Unit → Shared → Prop}
    (S : St X.h₀ ψ φ μ s.heap) (hL : Loc X.C V ψ φ ρ s.heap) (hx : X.C.loc i x = true) (hv : MVR ψ φ s.heap mv v)
    (k : ∀ h' tk, St X.h₀ ψ φ μ h' → Loc X.C V ψ φ (ρ.set i (some mv)) h' → Keep V.own s.heap h' → Q () { s with heap := h', toks := tk }) :
    wpAny (model prog w) A (storeName V.env x v) Q E s := by
  obtain ⟨m, l⟩ := id hL
  obtain ⟨h1, h2, _⟩ := MC.loc_spec hx
  have other : ∀ (j : Nat) y, j ≠ i → X.C.names[j]? = some y → y ≠ x := fun j y hij e z => by
    subst z
    exact hij ((List.getElem?_inj (List.getElem?_eq_some_iff.mp e).1 X.nd).mp (e.trans h1.symm))
  rcases h2 with h2 | h2
  · refine wpAny_storeName_local (l.kindOf h2) l.ns (fun h' hn' hs => ?_) (by rw [l.kind]; rfl)
    have kk : Keep [V.env.locals] s.heap h' := fun b o e n => (hs.2 b (fun q => n (q ▸ List.mem_singleton.mpr rfl))).trans e
    have ks : ∀ a ∈ [V.env.locals], a ∈ ψ := fun a m => List.mem_singleton.mp m ▸ (l.own _ l.lo).1
    refine k h' _ (S.other (l.own _ l.lo).1 (l.own _ l.lo).2 (let ⟨o, _, _, e, _⟩ := hn'; ⟨o, e⟩) hs) ⟨_, hn', l.kind, l.kinds, l.globals, l.builtins, l.lo, l.own, fun y hy => ?_, l.inj, fun j mv' e => ?_⟩ (kk.more fun a m => List.mem_singleton.mp m ▸ l.lo)
    · obtain ⟨c, v₀, e1, e2, e3, e4⟩ := l.cells y hy
      exact ⟨c, v₀, e1, e2, e3, cell_keep kk e4 fun m => e3 (List.mem_singleton.mp m)⟩
    · rw [List.getElem?_set] at e
      split at e
      · rename_i hij
        subst hij
        split at e
        · cases e
          exact ⟨x, v, h1, .inl ⟨h2, by simp⟩, hv.kept kk ks⟩
        · cases e
      · rename_i hij
        obtain ⟨y, u, e1, e2, e3⟩ := l.val j mv' e
        refine ⟨y, u, e1, ?_, e3.kept kk ks⟩
        rcases e2 with ⟨e2, e4⟩ | ⟨e2, c, e4, e5⟩
        · exact .inl ⟨e2, by simp only [if_neg (other j y (Ne.symm hij) e1)]; exact e4⟩
        · refine .inr ⟨e2, c, e4, cell_keep kk e5 fun m => ?_⟩
          obtain ⟨c', v₀, q1, _, q3, _⟩ := l.cells y e2
          rw [e4] at q1; cases q1
          exact q3 (List.mem_singleton.mp m)
  · obtain ⟨c, v₀, c1, c2, c3, c4⟩ := l.cells x h2
    refine wpAny_storeName_cell l.kind (l.kindOf h2) c1 c4 fun h' hc' hs => ?_
    have kk : Keep [c] s.heap h' := fun b o e n => (hs.2 b (fun q => n (q ▸ List.mem_singleton.mpr rfl))).trans e
    have ks : ∀ a ∈ [c], a ∈ ψ := fun a m => List.mem_singleton.mp m ▸ (l.own _ c2).1
    refine k h' _ (S.other (l.own _ c2).1 (l.own _ c2).2 (let ⟨o, e, _⟩ := hc'; ⟨o, e⟩) hs) ⟨m, ns_keep kk l.ns fun q => c3 (List.mem_singleton.mp q).symm, l.kind, l.kinds, l.globals, l.builtins, l.lo, l.own, fun y hy => ?_, l.inj, fun j mv' e => ?_⟩ (kk.more fun a m => List.mem_singleton.mp m ▸ c2)
    · obtain ⟨d, v₁, e1, e2, e3, e4⟩ := l.cells y hy
      by_cases hd : d = c
      · subst hd; exact ⟨d, _, e1, e2, e3, hc'⟩
      · exact ⟨d, v₁, e1, e2, e3, cell_keep kk e4 fun m => hd (List.mem_singleton.mp m)⟩
    · rw [List.getElem?_set] at e
      split at e
      · rename_i hij
        subst hij
        split at e
        · cases e
          exact ⟨x, v, h1, .inr ⟨h2, c, c1, hc'⟩, hv.kept kk ks⟩
        · cases e
      · rename_i hij
        obtain ⟨y, u, e1, e2, e3⟩ := l.val j mv' e
        refine ⟨y, u, e1, ?_, e3.kept kk ks⟩
        rcases e2 with e2 | ⟨e2, d, e4, e5⟩
        · exact .inl e2
        · refine .inr ⟨e2, d, e4, cell_keep kk e5 fun m => ?_⟩
          rw [List.mem_singleton.mp m] at e4
          exact other j y (Ne.symm hij) e1 (l.inj y x c e4 c1)

/-- a numbered list more -/
theorem St.alloc (S : St h₀ ψ φ μ h) {xs : List PyData} {vs : List Value} (hv : VRs ψ h xs vs) :
    St h₀ (h.objs.size :: ψ) (φ ++ [h.objs.size]) (μ ++ [xs]) (h.push { cls := .type "list", data := .seq vs.toArray }) := by
  have kp : Keep [] h (h.push { cls := .type "list", data := .seq vs.toArray }) := .of fun _ _ e => Heap.get?_push_of_some _ e
  have ks : ∀ a, a ∉ ψ → (∃ o, h.get? a = some o) → a ∉ (h.objs.size :: ψ) ∧ a ∉ ([] : List Addr) := fun a n ⟨o, e⟩ => ⟨fun m => by
    rcases List.mem_cons.mp m with rfl | m
    · exact absurd (Heap.lt_size e) (Nat.lt_irrefl _)
    · exact n m, fun m => nomatch m⟩
  have ha : h.objs.size ∉ φ := fun m => S.fresh (S.sub _ m)
  have hp : (h.push { cls := .type "list", data := .seq vs.toArray }).PlainList h.objs.size vs.toArray := ⟨0, Heap.get?_push_size _ rfl⟩
  refine ⟨fun b o e => Heap.get?_push_of_some _ (S.base b o e), fun b hb => ?_, fun b hb => ?_, fun b hb => ?_, ?_, by simp [S.len], fun i b ys e q => ?_⟩
  · rcases List.mem_cons.mp hb with rfl | hb
    · cases q : h₀.get? h.objs.size with
      | none => rfl
      | some o => exact absurd (Heap.lt_size (S.base _ _ q)) (Nat.lt_irrefl _)
    · exact S.off b hb
  · rcases List.mem_cons.mp hb with rfl | hb
    · exact ⟨_, Heap.get?_push_size _ rfl⟩
    · obtain ⟨o, e⟩ := S.live b hb; exact ⟨o, Heap.get?_push_of_some _ e⟩
  · rcases List.mem_append.mp hb with hb | hb
    · exact .tail _ (S.sub b hb)
    · rw [List.mem_singleton.mp hb]; exact .head _
  · exact List.nodup_append.mpr ⟨S.nd, by simp, fun x hx y hy => by rw [List.mem_singleton.mp hy]; exact fun z => ha (z ▸ hx)⟩
  · by_cases hi : i < φ.length
    · rw [List.getElem?_append_left hi] at e
      rw [List.getElem?_append_left (S.len ▸ hi)] at q
      obtain ⟨us, hu, hr⟩ := S.lst i b ys e q
      exact ⟨us, hu.at fun o e => Heap.get?_push_of_some _ e, hr.keep kp ks⟩
    · rw [List.getElem?_append_right (Nat.le_of_not_lt hi)] at e
      rw [List.getElem?_append_right (S.len ▸ Nat.le_of_not_lt hi)] at q
      have e0 : i - φ.length = 0 := by
        cases hq : i - φ.length with
        | zero => rfl
        | succ n => rw [hq] at e; cases e
      rw [e0] at e
      rw [← S.len, e0] at q
      cases e; cases q
      exact ⟨vs.toArray, hp, by simpa using hv.keep kp ks⟩
theorem Loc.alloc (S : St h₀ ψ φ μ h) (X : Loc C V ψ φ ρ h) (o : Obj) : Loc C V (h.objs.size :: ψ) (φ ++ [h.objs.size]) ρ (h.push o) := by
  obtain ⟨m, l⟩ := X
  refine ⟨m, l.move (κ := []) (.of fun _ _ e => Heap.get?_push_of_some _ e) (fun _ _ m => nomatch m) (fun a ha => ⟨.tail _ (l.own a ha).1, fun q => ?_⟩) fun mv v e3 => ?_⟩
  · rcases List.mem_append.mp q with q | q
    · exact (l.own a ha).2 q
    · rw [List.mem_singleton.mp q] at ha
      exact S.fresh (l.own _ ha).1
  · cases mv with
    | d y => exact VR.keep (κ := []) (.of fun _ _ e => Heap.get?_push_of_some _ e) (fun a n ⟨o, e⟩ => ⟨fun m => by
        rcases List.mem_cons.mp m with rfl | m
        · exact absurd (Heap.lt_size e) (Nat.lt_irrefl _)
        · exact n m, fun m => nomatch m⟩) e3
    | r j =>
      obtain ⟨a, rfl, ha⟩ := e3
      exact ⟨a, rfl, by rw [List.getElem?_append_left (List.getElem?_eq_some_iff.mp ha).1]; exact ha⟩
end

theorem notComp_swaps {v t : Expr} {n : Nat} {env : Env} (h : notComp v = true) : swapsWith v (some t) n env = pure false := by
  cases v <;> first | rfl | cases h
theorem notComp_sole {v t : Expr} {n : Nat} {env : Env} (h : notComp v = true) : swapsWithSole [t] v n env = pure false := notComp_swaps h
theorem notComp_swapped {v : Expr} {ts : List Expr} {k : Nat} {p : Pos} {env : Env} (h : (match v with | .Tuple .. => false | _ => true) = true) : swappedStores [.Tuple ts k p] v env = pure none := by
  cases v <;> first | rfl | cases h

theorem each_names {C : MC} {env : Env} : ∀ {is : List Nat} {ts : List Expr}, namesOk C is ts = true → (assignEach ts env).length = is.length ∧ (assignEach ts env).findIdx? (·.1) = none
  | [], [], _ => ⟨rfl, rfl⟩
  | [], _ :: _, h => by cases h
  | i :: is, ts, h => by
    unfold namesOk at h
    split at h
    · rename_i x p xs
      simp only [Bool.and_eq_true] at h
      obtain ⟨h1, h2⟩ := each_names (env := env) h.2
      refine ⟨by show (_ :: assignEach xs env).length = _; rw [List.length_cons, h1]; rfl, ?_⟩
      show List.findIdx? _ ((false, assign (.Name x p) env) :: assignEach xs env) = none
      rw [List.findIdx?_cons, h2]; rfl
    · cases h

/-- a, b, c = the items of a tuple -/
theorem unpack_sound {X : Cx prog w} {ψ φ : List Addr} {μ : Mu} {V : FV} {A : Around} {E : Value → Shared → Prop} :
    ∀ (is : List Nat) (ts : List Expr) (xs : List PyData) (vs : List Value) (ρ ρ' : Rho) (s : Shared) (Q : Unit → Shared → Prop), namesOk X.C is ts = true → setAll is xs ρ = some ρ' → VRs ψ s.heap xs vs → St X.h₀ ψ φ μ s.heap → Loc X.C V ψ φ ρ s.heap →
    (∀ h' tk, St X.h₀ ψ φ μ h' → Loc X.C V ψ φ ρ' h' → Keep V.own s.heap h' → Q () { s with heap := h', toks := tk }) →
    wpAny (model prog w) A (assignInOrder ((assignEach ts (V.env)).map (·.2)) vs) Q E s
  | [], [], xs, vs, ρ, ρ', s, Q, _, hs, hv, S, hL, k => by
    cases xs with
    | nil => cases hs; cases hv; exact wpAny_assignInOrder_none (k s.heap s.toks S hL (Keep.refl _ _))
    | cons => cases hs
  | [], _ :: _, _, _, _, _, _, _, h, _, _, _, _, _ => by cases h
  | i :: is, ts, xs, vs, ρ, ρ', s, Q, hn, hs, hv, S, hL, k => by
    unfold namesOk at hn
    split at hn
    · rename_i x p ts'
      simp only [Bool.and_eq_true] at hn
      cases xs with
      | nil => cases hs
      | cons y ys =>
        obtain ⟨v, ws, rfl, hv1, hv2⟩ := hv
        refine wpAny_assignInOrder_more (t := assign (.Name x p) _) (wpAny_assign_Name (store_sound (mv := .d y) S hL hn.1 hv1 fun h' tk S' hL' k' => ?_))
        have ks : ∀ a ∈ V.own, a ∈ ψ := hL.inψ
        exact unpack_sound is ts' ys ws _ ρ' { s with heap := h', toks := tk } Q hn.2 hs (hv2.kept k' ks) S' hL' fun h'' tk' S'' hL'' k'' => k h'' tk' S'' hL'' (k'.trans k'')
    · cases hn
end Mini

namespace Mini
open PySem PySem.Spec PySem.Calls PyProof.Rows
variable {prog : Program} {w : World}

theorem sub_lift {ψ : List Addr} {L : Addr} (h : L ∈ ψ) : ∀ a ∈ [L], a ∈ ψ := fun _ m => List.mem_singleton.mp m ▸ h
theorem Keep.inφ {φ own : List Addr} {h h' : Heap} (k : Keep φ h h') : Keep (own ++ φ) h h' := k.more fun _ m => List.mem_append_right _ m
theorem Keep.inOwn {φ own : List Addr} {h h' : Heap} (k : Keep own h h') : Keep (own ++ φ) h h' := k.more fun _ m => List.mem_append_left _ m
theorem Keep.toL {φ own : List Addr} {h h' h'' : Heap} (k : Keep φ h h') (k' : Keep own h' h'') : Keep (own ++ φ) h h'' := k.inφ.trans k'.inOwn

/-- the loop's iterator is let go -/
theorem St.drop {h₀ h h' : Heap} {ψ φ : List Addr} {μ : Mu} {I : Addr} (S : St h₀ ψ φ μ h) (hI : I ∉ φ) (hp : I ∈ ψ) (k : Keep [I] h h') : St h₀ (ψ.filter (· ≠ I)) φ μ h' := by
  have ks : ∀ a, a ∉ ψ → (∃ o, h.get? a = some o) → a ∉ ψ.filter (· ≠ I) ∧ a ∉ [I] := fun a n _ => ⟨fun m => n (List.mem_filter.mp m).1, fun m => n (List.mem_singleton.mp m ▸ hp)⟩
  refine ⟨fun b o e => k b o (S.base b o e) fun m => ?_, fun a m => S.off a (List.mem_filter.mp m).1, fun a m => ?_, fun a m => ?_, S.nd, S.len, fun i a xs e q => ?_⟩
  · rw [List.mem_singleton.mp m, S.off I hp] at e; cases e
  · obtain ⟨m1, m2⟩ := List.mem_filter.mp m
    obtain ⟨o, e⟩ := S.live a m1
    exact ⟨o, k a o e fun q => by simp [List.mem_singleton.mp q] at m2⟩
  · exact List.mem_filter.mpr ⟨S.sub a m, by simpa using fun e : a = I => hI (e ▸ m)⟩
  · obtain ⟨vs, hq, hv⟩ := S.lst i a xs e q
    exact ⟨vs, hq.at fun o ho => k a o ho fun m => hI (List.mem_singleton.mp m ▸ List.mem_of_getElem? e), hv.keep k ks⟩
theorem Loc.drop {C : MC} {V : FV} {ψ φ : List Addr} {ρ : Rho} {h h' : Heap} {I : Addr} (X : Loc C V ψ φ ρ h) (hI : ∀ a ∈ V.own, a ≠ I) (hp : I ∈ ψ) (k : Keep [I] h h') : Loc C V (ψ.filter (· ≠ I)) φ ρ h' := by
  obtain ⟨m, l⟩ := X
  have ks : ∀ a, a ∉ ψ → (∃ o, h.get? a = some o) → a ∉ ψ.filter (· ≠ I) ∧ a ∉ [I] := fun a n _ => ⟨fun m => n (List.mem_filter.mp m).1, fun m => n (List.mem_singleton.mp m ▸ hp)⟩
  refine ⟨m, l.move k (fun a ha q => hI a ha (List.mem_singleton.mp q)) (fun a ha => ⟨List.mem_filter.mpr ⟨(l.own a ha).1, by simpa using hI a ha⟩, (l.own a ha).2⟩) fun mv v h3 => ?_⟩
  cases mv with
  | d y => exact VR.keep k ks h3
  | r j => exact h3
/-- a new object that is no list of the run's -/
theorem St.hold {h₀ h : Heap} {ψ φ : List Addr} {μ : Mu} (S : St h₀ ψ φ μ h) (o : Obj) (hf : o.isFreed = false) : St h₀ (h.objs.size :: ψ) φ μ (h.push o) := by
  have ks : ∀ a, a ∉ ψ → (∃ o, h.get? a = some o) → a ∉ (h.objs.size :: ψ) ∧ a ∉ ([] : List Addr) := fun a n ⟨o, e⟩ => ⟨fun m => by
    rcases List.mem_cons.mp m with rfl | m
    · exact absurd (Heap.lt_size e) (Nat.lt_irrefl _)
    · exact n m, fun m => nomatch m⟩
  refine ⟨fun b o e => Heap.get?_push_of_some _ (S.base b o e), fun b hb => ?_, fun b hb => ?_, fun b hb => .tail _ (S.sub b hb), S.nd, S.len, fun i a xs e q => ?_⟩
  · rcases List.mem_cons.mp hb with rfl | hb
    · cases q : h₀.get? h.objs.size with
      | none => rfl
      | some o => exact absurd (Heap.lt_size (S.base _ _ q)) (Nat.lt_irrefl _)
    · exact S.off b hb
  · rcases List.mem_cons.mp hb with rfl | hb
    · exact ⟨_, Heap.get?_push_size _ hf⟩
    · obtain ⟨o, e⟩ := S.live b hb; exact ⟨o, Heap.get?_push_of_some _ e⟩
  · obtain ⟨vs, hq, hv⟩ := S.lst i a xs e q
    exact ⟨vs, hq.at fun o ho => Heap.get?_push_of_some _ ho, hv.keep (κ := []) (.of fun _ _ e => Heap.get?_push_of_some _ e) ks⟩
theorem Loc.hold {C : MC} {V : FV} {ψ φ : List Addr} {ρ : Rho} {h : Heap} (X : Loc C V ψ φ ρ h) (o : Obj) : Loc C V (h.objs.size :: ψ) φ ρ (h.push o) := by
  obtain ⟨m, l⟩ := X
  refine ⟨m, l.move (κ := []) (.of fun _ _ e => Heap.get?_push_of_some _ e) (fun _ _ m => nomatch m) (fun a ha => ⟨.tail _ (l.own a ha).1, (l.own a ha).2⟩) fun mv v e3 => ?_⟩
  cases mv with
  | d y => exact VR.keep (κ := []) (.of fun _ _ e => Heap.get?_push_of_some _ e) (fun a n ⟨o, e⟩ => ⟨fun m => by
      rcases List.mem_cons.mp m with rfl | m
      · exact absurd (Heap.lt_size e) (Nat.lt_irrefl _)
      · exact n m, fun m => nomatch m⟩) e3
  | r j => exact e3
theorem fits_small {k : Int} (h0 : 0 ≤ k) (h1 : k < 4611686018427387904) : Builtin.List.listFitsIndex k = true := by
  unfold Builtin.List.listFitsIndex
  simp
  omega

section loops
variable {X : Cx prog w}
/-- a while, by the run of its Mini form -/
theorem while_sound {test : Expr} {body : List Stmt} {pos : Pos} {t : Rho → Mu → Option (Bool × Mu)} {b : Rho → Mu → Option (Out × Rho × Mu)} (ht : SB X test t) (hb : SSt X (execs body) b) (n : Nat) : SSt X (exec (.While test body [] pos)) (whileF t b n) := by
  intro ρ μ q h A s ψ φ V E Q hR S hL k
  refine wpAny_While (codeAny_whileLoop (fun n s' => ∃ ρ₁ μ₁ ψ₁ φ₁ h₁ tk₁, s' = { s with heap := h₁, toks := tk₁ } ∧ whileF t b n ρ₁ μ₁ = some q ∧ Ext ψ φ ψ₁ φ₁ s.heap ∧ St X.h₀ ψ₁ φ₁ μ₁ h₁ ∧ Loc X.C V ψ₁ φ₁ ρ₁ h₁ ∧ Keep (V.own ++ φ) s.heap h₁) ?_ n
    ⟨ρ, μ, ψ, φ, s.heap, s.toks, rfl, h, Ext.refl _ _ _, S, hL, Keep.refl _ _⟩)
  rintro n s' ⟨ρ₁, μ₁, ψ₁, φ₁, h₁, tk₁, rfl, hw, x₁, S₁, hL₁, k₁⟩
  cases n with
  | zero => cases hw
  | succ n =>
    simp only [whileF, Option.bind_eq_some_iff] at hw
    obtain ⟨p, hp, hw⟩ := hw
    refine ht ρ₁ μ₁ p hp A _ ψ₁ φ₁ V _ _ hR S₁ hL₁ fun h₂ tk₂ S₂ k₂ => ?_
    have k12 : Keep (V.own ++ φ) s.heap h₂ := k₁.ext x₁ k₂.inφ
    cases hpb : p.1 with
    | false =>
      rw [hpb] at hw
      simp only [Bool.false_eq_true, if_false, Option.some.injEq] at hw ⊢
      subst hw
      exact wpAny_execs_nil (k .next ψ₁ φ₁ h₂ tk₂ rfl x₁ S₂ (hL₁.kept k₂ S₁.sub) k12)
    | true =>
      rw [hpb] at hw
      simp only [if_true, Option.bind_eq_some_iff] at hw ⊢
      obtain ⟨r, hr, hw⟩ := hw
      refine hb ρ₁ p.2 r hr A _ ψ₁ φ₁ V _ _ hR S₂ (hL₁.kept k₂ S₁.sub) fun fl ψ₃ φ₃ h₃ tk₃ hfl x₃ S₃ hL₃ k₃ => ?_
      have x13 : Ext ψ φ ψ₃ φ₃ s.heap := x₁.trans x₃ (live_of k12 S₂ (fun a m => x₁.sub a (S.sub a m)) hL₁.inψ)
      have k13 : Keep (V.own ++ φ) s.heap h₃ := k12.ext x₁ k₃
      cases hro : r.1 with
      | next =>
        rw [hro] at hw hfl
        cases hfl
        exact ⟨n, Nat.lt_succ_self n, r.2.1, r.2.2, ψ₃, φ₃, h₃, tk₃, rfl, hw, x13, S₃, hL₃, k13⟩
      | cont =>
        rw [hro] at hw hfl
        cases hfl
        exact ⟨n, Nat.lt_succ_self n, r.2.1, r.2.2, ψ₃, φ₃, h₃, tk₃, rfl, hw, x13, S₃, hL₃, k13⟩
      | ret v =>
        rw [hro] at hw hfl
        obtain ⟨u, rfl, hu⟩ := hfl
        cases hw
        exact k (.ret u) ψ₃ φ₃ h₃ tk₃ ⟨u, rfl, hu⟩ x13 S₃ hL₃ k13

theorem mem_ext {ψ φ ψ' φ' : List Addr} {h : Heap} (x : Ext ψ φ ψ' φ' h) {I : Addr} (hI : I ∉ φ) (hl : ∃ o, h.get? I = some o) : I ∉ φ' := fun m => by
  obtain ⟨e, rfl, he⟩ := x.app
  rcases List.mem_append.mp m with m | m
  · exact hI m
  · obtain ⟨o, ho⟩ := hl; rw [he I m] at ho; cases ho

/-- for x in range(e) -/
theorem for_sound {x : Str} {px pr rp pos : Pos} {e : Expr} {body : List Stmt} {i : Nat} {se : Rho → Mu → Option (MV × Mu)} {b : Rho → Mu → Option (Out × Rho × Mu)} (hx : X.C.loc i x = true) (hg : X.C.glob "range" = true) (hst : notStar e = true)
    (he : SE X e se) (hb : SSt X (execs body) b) :
    SSt X (exec (.For (.Name x px) (.Call (.Name "range" pr) [e] [] rp) body [] pos)) fun ρ μ => (se ρ μ).bind fun p => match p.1 with | .d (.int k) => if 0 ≤ k ∧ k < 4611686018427387904 then forF i b k.toNat 0 ρ p.2 else none | _ => none := by
  intro ρ μ q h A s ψ φ V E Q hR S hL k
  obtain ⟨p, hp, h⟩ := Option.bind_eq_some_iff.mp h
  split at h
  · rename_i N hN
    split at h
    · rename_i hlt
      refine wpAny_For ?_
      refine wpAny_Call_NameR (ld_bi (v := .type "range") hL S.base hg (by simp [builtinsUsed]) ?_)
      rw [star_cons hst, back_cons]
      refine PySem.callWith_type rfl (evalArgs_plain (spliced_cons (he ρ μ p hp A s ψ φ V E _ hR S hL fun v h₁ tk₁ hv S₁ k₁ => spliced_nil ?_)))
      rw [hN] at hv
      obtain ⟨t, rfl⟩ := hv
      refine call_range_1 (wpAny_pyIter_range (IsRange.new ..) (small_one (by decide) (by decide) (by omega) hlt.2) ?_)
      have hsz : Builtin.Range.rangeSize 0 N 1 = (N.toNat : Int) := by rw [rangeSize_one]; split <;> omega
      rw [hsz]
      have S₂ := (S₁.push ({ cls := .type "range", data := .fields #[.int 0 tk₁, .int N t, .int 1 (tk₁ + 1)] } : Obj)).hold ({ cls := .type "range_iterator", data := .fields #[rawInt 0, rawInt (N.toNat : Int), rawInt 1] } : Obj) rfl
      have hL₂ := ((hL.kept k₁ S.sub).keptBy (κ := []) (Keep.of fun _ _ e => Heap.get?_push_of_some ({ cls := .type "range", data := .fields #[.int 0 tk₁, .int N t, .int 1 (tk₁ + 1)] } : Obj) e) (fun _ m => nomatch m) (fun _ _ m => nomatch m)).hold ({ cls := .type "range_iterator", data := .fields #[rawInt 0, rawInt (N.toNat : Int), rawInt 1] } : Obj)
      have k₂ : Keep φ s.heap ((h₁.push ({ cls := .type "range", data := .fields #[.int 0 tk₁, .int N t, .int 1 (tk₁ + 1)] } : Obj)).push ({ cls := .type "range_iterator", data := .fields #[rawInt 0, rawInt (N.toNat : Int), rawInt 1] } : Obj)) := (k₁.push _).push _
      have hit : IsRangeIter ((h₁.push ({ cls := .type "range", data := .fields #[.int 0 tk₁, .int N t, .int 1 (tk₁ + 1)] } : Obj)).push ({ cls := .type "range_iterator", data := .fields #[rawInt 0, rawInt (N.toNat : Int), rawInt 1] } : Obj)) (h₁.push ({ cls := .type "range", data := .fields #[.int 0 tk₁, .int N t, .int 1 (tk₁ + 1)] } : Obj)).objs.size 0 (N.toNat : Int) 1 := Heap.get?_push_size _ rfl
      have hIs : s.heap.get? (h₁.push ({ cls := .type "range", data := .fields #[.int 0 tk₁, .int N t, .int 1 (tk₁ + 1)] } : Obj)).objs.size = none := by
        cases hq : s.heap.get? (h₁.push ({ cls := .type "range", data := .fields #[.int 0 tk₁, .int N t, .int 1 (tk₁ + 1)] } : Obj)).objs.size with
        | none => rfl
        | some o =>
          exfalso
          have hn : (h₁.push ({ cls := .type "range", data := .fields #[.int 0 tk₁, .int N t, .int 1 (tk₁ + 1)] } : Obj)).objs.size ∉ φ := fun m => (S₁.push _).fresh (S.sub _ m)
          exact absurd (Heap.lt_size ((k₁.push _) _ _ hq hn)) (Nat.lt_irrefl _)
      have hIφ : (h₁.push ({ cls := .type "range", data := .fields #[.int 0 tk₁, .int N t, .int 1 (tk₁ + 1)] } : Obj)).objs.size ∉ φ := fun m => (S₁.push _).fresh (S.sub _ m)
      generalize hI : (h₁.push ({ cls := .type "range", data := .fields #[.int 0 tk₁, .int N t, .int 1 (tk₁ + 1)] } : Obj)).objs.size = I at *
      show codeAny (model prog w) A (.forLoop (.Name x px) (.ref I) body [] _) _ _
      refine codeAny_forLoop (fun r s' => ∃ kk ρ₁ μ₁ ψ₁ φ₁ h₁ tk₁, s' = { s with heap := h₁, toks := tk₁ } ∧ forF i b r kk ρ₁ μ₁ = some q ∧ I ∈ ψ₁ ∧ I ∉ φ₁ ∧ IsRangeIter h₁ I kk (r : Int) 1 ∧ Ext ψ φ ψ₁ φ₁ s.heap ∧ St X.h₀ ψ₁ φ₁ μ₁ h₁ ∧ Loc X.C V ψ₁ φ₁ ρ₁ h₁ ∧ Keep (V.own ++ φ) s.heap h₁) ?_ N.toNat
        ⟨0, ρ, p.2, I :: ψ, φ, _, _, rfl, h, List.mem_cons_self, hIφ, hit, ⟨fun _ m => List.mem_cons_of_mem _ m, fun a m => by
          rcases List.mem_cons.mp m with rfl | m
          · exact .inr hIs
          · exact .inl m, [], by simp, fun _ m => nomatch m⟩, S₂, hL₂, k₂.inφ⟩
      rintro r s' ⟨kk, ρ₁, μ₁, ψ₁, φ₁, h₁, tk₁, rfl, hw, hI1, hI2, hit₁, x₁, S₁, hL₁, k₁⟩
      have hLI : ∀ a ∈ V.own, a ≠ I := fun a ha e => by
        subst e
        obtain ⟨o, ho⟩ := S.live a (hL.inψ a ha)
        rw [hIs] at ho; cases ho
      cases r with
      | zero =>
        refine wpAny_pyNext_range_end hR.handled hit₁ (by simp) fun h₂ he₂ => ?_
        cases hw
        have kI : Keep [I] h₁ h₂ := fun b o e n => he₂ b o (fun q => n (q ▸ List.mem_singleton.mpr rfl)) e
        refine wpAny_execs_nil (k .next (ψ₁.filter (· ≠ I)) φ₁ h₂ tk₁ rfl ⟨fun a m => ?_, fun a m => x₁.new a (List.mem_filter.mp m).1, x₁.app⟩ (S₁.drop hI2 hI1 kI) (hL₁.drop hLI hI1 kI) fun b o e n => ?_)
        · refine List.mem_filter.mpr ⟨x₁.sub a m, ?_⟩
          have : a ≠ I := fun e => by
            subst e
            obtain ⟨o, ho⟩ := S.live _ m
            rw [hIs] at ho; cases ho
          simpa using this
        · refine kI b o (k₁ b o e n) fun m => ?_
          rw [List.mem_singleton.mp m, hIs] at e; cases e
      | succ r =>
        simp only [forF, Option.bind_eq_some_iff] at hw
        obtain ⟨u, hu, hw⟩ := hw
        refine wpAny_pyNext_range_item hit₁ (by omega) fun h₂ hit₂ hs₂ => ?_
        have kI : Keep [I] h₁ h₂ := fun b o e n => (hs₂.2 b (fun q => n (q ▸ List.mem_singleton.mpr rfl))).trans e
        have S₂ := S₁.other hI1 hI2 ⟨_, hit₂⟩ hs₂
        have hL₂ := hL₁.keptBy kI (sub_lift hI1) (fun a ha m => hLI a ha (List.mem_singleton.mp m))
        refine wpAny_assign_Name (store_sound (mv := .d (.int kk)) (s := { s with heap := h₂, toks := tk₁ + 1 }) S₂ hL₂ hx ⟨_, rfl⟩ fun h₃ tk₃ S₃ hL₃ k₃ => ?_)
        refine hb _ _ u hu A _ ψ₁ φ₁ V _ _ hR S₃ hL₃ fun fl ψ₄ φ₄ h₄ tk₄ hfl x₄ S₄ hL₄ k₄ => ?_
        have k2 : Keep (V.own ++ φ) s.heap h₂ := fun b o e n => kI b o (k₁ b o e n) fun m => by rw [List.mem_singleton.mp m, hIs] at e; cases e
        have k3 : Keep (V.own ++ φ) s.heap h₃ := k2.trans k₃.inOwn
        have x14 : Ext ψ φ ψ₄ φ₄ s.heap := x₁.trans x₄ (live_of k3 S₃ (fun a m => x₁.sub a (S.sub a m)) hL₃.inψ)
        have k14 : Keep (V.own ++ φ) s.heap h₄ := k3.ext x₁ k₄
        have hit3 : IsRangeIter h₃ I (kk + 1) ((r + 1 : Nat) - 1 : Int) 1 := k₃ _ _ hit₂ fun m => hLI _ m rfl
        have hit4 : IsRangeIter h₄ I (kk + 1) ((r + 1 : Nat) - 1 : Int) 1 := k₄ _ _ hit3 fun m => by
          rcases List.mem_append.mp m with m | m
          · exact hLI _ m rfl
          · exact hI2 m
        have er : (((r + 1 : Nat) : Int) - 1) = (r : Int) := by omega
        rw [er] at hit4
        cases hro : u.1 with
        | next =>
          rw [hro] at hw hfl
          cases hfl
          exact ⟨r, Nat.lt_succ_self r, kk + 1, u.2.1, u.2.2, ψ₄, φ₄, h₄, tk₄, rfl, hw, x₄.sub I hI1, mem_ext x₄ hI2 ⟨_, hit3⟩, hit4, x14, S₄, hL₄, k14⟩
        | cont =>
          rw [hro] at hw hfl
          cases hfl
          exact ⟨r, Nat.lt_succ_self r, kk + 1, u.2.1, u.2.2, ψ₄, φ₄, h₄, tk₄, rfl, hw, x₄.sub I hI1, mem_ext x₄ hI2 ⟨_, hit3⟩, hit4, x14, S₄, hL₄, k14⟩
        | ret v =>
          rw [hro] at hw hfl
          obtain ⟨z, rfl, hz⟩ := hfl
          cases hw
          exact k (.ret z) ψ₄ φ₄ h₄ tk₄ ⟨z, rfl, hz⟩ x14 S₄ hL₄ k14
    · cases h
  · cases h
end loops
end Mini

namespace Mini
open PySem PySem.Spec PySem.Calls PyProof.Rows
variable {prog : Program} {w : World}

section
variable {h₀ h h' : Heap} {ψ ψ' φ : List Addr} {μ : Mu}
theorem St.shrink (S : St h₀ ψ' φ μ h) (sub : ∀ a ∈ ψ, a ∈ ψ') (hφ : ∀ a ∈ φ, a ∈ ψ) : St h₀ ψ φ μ h :=
  have ks : ∀ a, a ∉ ψ' → (∃ o, h.get? a = some o) → a ∉ ψ ∧ a ∉ ([] : List Addr) := fun a n _ => ⟨fun m => n (sub a m), fun m => nomatch m⟩
  ⟨S.base, fun a m => S.off a (sub a m), fun a m => S.live a (sub a m), hφ, S.nd, S.len, fun i a xs e q => let ⟨vs, hp, hv⟩ := S.lst i a xs e q; ⟨vs, hp, hv.keep (κ := []) (Keep.refl _ _) ks⟩⟩
theorem MVR.shrink (sub : ∀ a ∈ ψ, a ∈ ψ') {mv : MV} {v : Value} (e : MVR ψ' φ h mv v) : MVR ψ φ h mv v := by
  cases mv with
  | d y => exact VR.keep (κ := []) (Keep.refl _ _) (fun a n _ => ⟨fun m => n (sub a m), fun m => nomatch m⟩) e
  | r j => exact e
theorem Loc.shrink {C : MC} {V : FV} {ρ : Rho} (X : Loc C V ψ' φ ρ h) (sub : ∀ a ∈ ψ, a ∈ ψ') (ho : ∀ a ∈ V.own, a ∈ ψ) : Loc C V ψ φ ρ h := by
  obtain ⟨m, l⟩ := X
  exact ⟨m, l.move (κ := []) (Keep.refl _ _) (fun _ _ m => nomatch m) (fun a ha => ⟨ho a ha, (l.own a ha).2⟩) fun _ _ e => e.shrink sub⟩
end

/-- what a comprehension's scope must be -/
structure CompOK (C C' : MC) (scope : Scope) (x : Str) (caps : List Nat) : Prop where
  fns : C'.fns = C.fns
  scp : C'.scope = relabelS scope C.scope
  kind : scope.kind = .function
  names : ∃ cn, C'.names = x :: cn ∧ cn.length = caps.length ∧ (∀ (j : Nat) z, cn[j]? = some z → ∃ i, caps[j]? = some i ∧ C.names[i]? = some z ∧ C.scope.names.lookup z = some .cell ∧ C'.scope.names.lookup z = some .cell)
  nd : C'.names.Nodup
  x : scope.names.lookup x = some .local
  all : ∀ z ∈ scope.names, z.2 ≠ .cell ∧ (z.2 = .local → scope.names.lookup z.1 = some .local) ∧ (z.2 = .free → C.scope.names.lookup z.1 = some .cell)

theorem relabel_eq {C : MC} {V : FV} {ψ φ : List Addr} {ρ : Rho} {h : Heap} {m : Str → Option Value} (l : LocS C V ψ φ ρ h m) (scope : Scope) : relabel scope V.env = relabelS scope C.scope := by
  unfold relabel relabelS
  congr 1
  apply List.map_congr_left
  rintro ⟨n, k⟩ _
  simp only [l.kind, Env.kindOf, l.kinds]
  simp

theorem closure_pure {C : MC} {V : FV} {ψ φ : List Addr} {ρ : Rho} {h : Heap} {m : Str → Option Value} (l : LocS C V ψ φ ρ h m) {scope : Scope} (hf : ∀ z ∈ scope.names, z.2 = .free → C.scope.names.lookup z.1 = some .cell) :
    ∃ cl, closureFor scope V.env = pure cl ∧ (∀ z c, cl.lookup z = some c → V.env.cells.lookup z = some c) ∧ (∀ z ∈ scope.names, z.2 = .free → ∃ c, cl.lookup z.1 = some c) := by
  have key : ∀ (ns : List (Str × NameKind)) (acc : List (Str × Addr)), (∀ z ∈ ns, z.2 = .free → C.scope.names.lookup z.1 = some .cell) → (∀ z c, acc.lookup z = some c → V.env.cells.lookup z = some c) →
      ∃ cl, (forIn ns acc fun (x : Str × NameKind) r => (if x.2 == .free then (do let c ← cellOf V.env x.1; pure (.yield ((x.1, c) :: r))) else pure (.yield r) : Sem (ForInStep (List (Str × Addr))))) = pure cl ∧
        (∀ z c, cl.lookup z = some c → V.env.cells.lookup z = some c) ∧ (∀ z ∈ ns, z.2 = .free → ∃ c, cl.lookup z.1 = some c) ∧ (∀ z c, acc.lookup z = some c → ∃ c', cl.lookup z = some c') := by
    intro ns
    induction ns with
    | nil => intro acc _ ha; exact ⟨acc, rfl, ha, (fun _ m => nomatch m), fun z c e => ⟨c, e⟩⟩
    | cons z ns ih =>
      intro acc hn ha
      obtain ⟨n, kd⟩ := z
      by_cases hk : kd = .free
      · subst hk
        obtain ⟨c, v₀, hc, _⟩ := l.cells n (hn _ (.head _) rfl)
        obtain ⟨cl, e, h1, h2, h3⟩ := ih ((n, c) :: acc) (fun z m => hn z (.tail _ m)) (fun z c' e => by
          rw [List.lookup_cons] at e
          split at e
          · rename_i hb; cases e; rw [beq_iff_eq.mp hb]; exact hc
          · exact ha z c' e)
        refine ⟨cl, ?_, h1, fun z m hz => ?_, fun z c' e => ?_⟩
        · rw [List.forIn_cons]
          have : cellOf V.env n = pure c := by unfold cellOf; rw [hc]
          simp only [this, beq_self_eq_true, if_true, pure_bind]
          exact e
        · rcases List.mem_cons.mp m with rfl | m
          · exact h3 n c (by rw [List.lookup_cons]; simp)
          · exact h2 z m hz
        · by_cases hzn : z = n
          · subst hzn; exact h3 z c (by rw [List.lookup_cons]; simp)
          · refine h3 z c' ?_
            rw [List.lookup_cons]
            have : (z == n) = false := by simpa using hzn
            rw [this]; exact e
      · obtain ⟨cl, e, h1, h2, h3⟩ := ih acc (fun z m => hn z (.tail _ m)) ha
        refine ⟨cl, ?_, h1, fun z m hz => ?_, h3⟩
        · rw [List.forIn_cons]
          have : (kd == NameKind.free) = false := by simpa using hk
          simp only [this, Bool.false_eq_true, if_false, pure_bind]
          exact e
        · rcases List.mem_cons.mp m with rfl | m
          · exact absurd hz hk
          · exact h2 z m hz
  obtain ⟨cl, e, h1, h2, _⟩ := key scope.names [] hf (fun z c e => by cases e)
  refine ⟨cl, ?_, h1, h2⟩
  unfold closureFor
  rw [← bind_pure (forIn scope.names _ _)] at e
  exact e

def Cx.to (X : Cx prog w) (C' : MC) (hf : C'.fns = X.C.fns) (hk : C'.scope.kind = .function) (nd : C'.names.Nodup) : Cx prog w := ⟨X.h₀, X.mg, X.mb, X.fs, X.n, C', X.G, hf.trans X.hf, hk, nd⟩

theorem relabelS_cell {scope outer : Scope} {z : Str} (hc : ∀ y ∈ scope.names, y.2 ≠ .cell) (h : (relabelS scope outer).names.lookup z = some .cell) : ∃ k : NameKind, (z, k) ∈ scope.names ∧ k = .free := by
  have hm := mem_of_lookup h
  obtain ⟨⟨n, k⟩, hm1, hm2⟩ := List.mem_map.mp hm
  simp only at hm2
  split at hm2
  · rename_i hb
    cases hm2
    simp only [Bool.and_eq_true, beq_iff_eq] at hb
    exact ⟨k, hm1, hb.1⟩
  · cases hm2
    exact absurd rfl (hc _ hm1)

theorem LocS.comp {C C' : MC} {V : FV} {ψ φ : List Addr} {ρ : Rho} {h : Heap} {m m' : Str → Option Value} {scope : Scope} {x : Str} {caps : List Nat} {cl : List (Str × Addr)} {D : Addr} {v : Value} {mv : MV}
    (l : LocS C V ψ φ ρ h m) (K : CompOK C C' scope x caps) (h1 : ∀ z c, cl.lookup z = some c → V.env.cells.lookup z = some c) (h2 : ∀ z ∈ scope.names, z.2 = .free → ∃ c, cl.lookup z.1 = some c)
    (hn : h.Ns D m') (hx : m' x = some v) (hD : D ∈ ψ ∧ D ∉ φ) (hDo : D ∉ V.own) (hv : MVR ψ φ h mv v) :
    LocS C' ⟨compEnvC scope cl D V.env, D :: V.own⟩ ψ φ (some mv :: caps.map fun j => ρ[j]?.join) h m' := by
  have hnames : (relabel scope V.env).names = C'.scope.names := by rw [relabel_eq l, K.scp]
  have cellAt : ∀ z, C'.scope.names.lookup z = some .cell → ∃ c, cl.lookup z = some c := fun z hz => by
    rw [K.scp] at hz
    obtain ⟨k, hm, rfl⟩ := relabelS_cell (fun y hy => (K.all y hy).1) hz
    exact h2 _ hm rfl
  have outer : ∀ z, C'.scope.names.lookup z = some .cell → C.scope.names.lookup z = some .cell := fun z hz => by
    rw [K.scp] at hz
    obtain ⟨k, hm, rfl⟩ := relabelS_cell (fun y hy => (K.all y hy).1) hz
    exact (K.all _ hm).2.2 rfl
  refine ⟨hn, ?_, hnames, l.globals, l.builtins, .head _, fun a ha => ?_, fun z hz => ?_, fun y z c e1 e2 => l.inj y z c (h1 _ _ e1) (h1 _ _ e2), fun i mv' e => ?_⟩
  · show (relabel scope V.env).kind = _
    rw [relabel_eq l]; exact K.kind
  · rcases List.mem_cons.mp ha with rfl | ha
    · exact hD
    · exact l.own a ha
  · obtain ⟨c, hc⟩ := cellAt z hz
    obtain ⟨c', v₀, e1, e2, e3, e4⟩ := l.cells z (outer z hz)
    rw [h1 z c hc] at e1; cases e1
    exact ⟨c, v₀, hc, .tail _ e2, fun e => hDo ((show c = D from e) ▸ e2), e4⟩
  · obtain ⟨cn, en, el, ec⟩ := K.names
    cases i with
    | zero =>
      cases e
      exact ⟨x, v, by rw [en]; rfl, .inl ⟨by rw [← hnames]; exact lookup_relabel_local K.x, hx⟩, hv⟩
    | succ j =>
      rw [List.getElem?_cons_succ, List.getElem?_map] at e
      obtain ⟨i', e1, e2⟩ := Option.map_eq_some_iff.mp e
      have hj : j < cn.length := by rw [el]; exact (List.getElem?_eq_some_iff.mp e1).1
      obtain ⟨i₂, q1, q2, q3, q4⟩ := ec j cn[j] (List.getElem?_eq_getElem hj)
      rw [e1] at q1; cases q1
      have e3 : ρ[i']? = some (some mv') := by
        cases q : ρ[i']? with
        | none => rw [q] at e2; cases e2
        | some o => rw [q] at e2; cases o with
          | none => cases e2
          | some z => cases e2; rfl
      obtain ⟨z, u, r1, r2, r3⟩ := l.val i' mv' e3
      rw [q2] at r1; cases r1
      refine ⟨cn[j], u, by rw [en, List.getElem?_cons_succ, List.getElem?_eq_getElem hj], .inr ⟨q4, ?_⟩, r3⟩
      rcases r2 with ⟨r2, _⟩ | ⟨_, c, r4, r5⟩
      · rw [q3] at r2; cases r2
      · obtain ⟨c', hc'⟩ := cellAt _ q4
        rw [h1 _ _ hc'] at r4; cases r4
        exact ⟨_, hc', r5⟩

theorem fresh_none {φ : List Addr} {h h' : Heap} (k : Keep φ h h') (hn : h'.objs.size ∉ φ) : h.get? h'.objs.size = none := by
  cases hq : h.get? h'.objs.size with
  | none => rfl
  | some o => exact absurd (Heap.lt_size (k _ _ hq hn)) (Nat.lt_irrefl _)
theorem Keep.but {a : Addr} {h h' : Heap} (hs : Heap.SameBut a h h') : Keep [a] h h' := fun b o e n => (hs.2 b (fun q => n (q ▸ List.mem_singleton.mpr rfl))).trans e

/-- y = [elt for x in range(e)] -/
theorem compr_sound {X : Cx prog w} {C' : MC} {scope : Scope} {x y : Str} {caps : List Nat} {i : Nat} {px py pr rp pos spos : Pos} {e elt : Expr} {se sel : Rho → Mu → Option (MV × Mu)} (K : CompOK X.C C' scope x caps) (hk' : C'.scope.kind = .function)
    (hy : X.C.loc i y = true) (hyl : X.C.scope.names.lookup y = some .local) (hline : (py.line == pos.line) = true) (hny : (scope.names.any fun (n, k) => n == y && (k == .local || k == .cell)) = false)
    (hg : X.C.glob "range" = true) (hst : notStar e = true) (he : SE X e se) (hel : SE (X.to C' K.fns hk' K.nd) elt sel) :
    SSt X (exec (.Assign [.Name y py] (.ListComp elt [⟨.Name x px, .Call (.Name "range" pr) [e] [] rp, [], 0⟩] scope pos) spos)) fun ρ μ => (se ρ μ).bind fun p => match p.1 with
      | .d (.int k) => if 0 ≤ k ∧ k ≤ 16777216 then (compF sel (caps.map fun j => ρ[j]?.join) k.toNat 0 p.2).map fun q => (.next, ρ.set i (some (.d (.list q.1))), q.2) else none
      | _ => none := by
  intro ρ μ q h A s ψ φ V E Q hR S hL k
  obtain ⟨p, hp, h⟩ := Option.bind_eq_some_iff.mp h
  split at h
  · rename_i N hN
    split at h
    · rename_i hlt
      obtain ⟨⟨xsA, μE⟩, hcf, rfl⟩ := Option.map_eq_some_iff.mp h
      obtain ⟨m₀, l₀⟩ := id hL
      obtain ⟨cl, hclos, hcl1, hcl2⟩ := closure_pure l₀ (scope := scope) fun z hz => (K.all z hz).2.2
      have hsw : swapsWith (.ListComp elt [⟨.Name x px, .Call (.Name "range" pr) [e] [] rp, [], 0⟩] scope pos) (some (.Name y py)) spos.line V.env = pure true := by
        have b1 : (V.env.blockKind == .function) = true := by unfold Env.blockKind; rw [l₀.kind]; rfl
        have b2 : (V.env.kindOf y == some .local) = true := by rw [l₀.kindOf hyl]; rfl
        show (pure (V.env.blockKind == .function && V.env.kindOf y == some .local && py.line == pos.line && !(scope.names.any fun (n, k) => n == y && (k == .local || k == .cell))) : Sem Bool) = pure true
        rw [b1, b2, hline, hny]; rfl
      rw [exec_Assign_Name_used _ _ _ _ hsw]
      refine wpAny_bind (wpAny_standAt (wpAny_bind ?_))
      show wpAny _ A (do let _ ← comprehension (.ListComp elt [⟨.Name x px, .Call (.Name "range" pr) [e] [] rp, [], 0⟩] scope pos) scope V.env _ (newList []) false (eval (.Call (.Name "range" pr) [e] [] rp) V.env) (some (assign (.Name y py) V.env))) _ _ s
      refine wpAny_bind (wpAny_mono (wpAny_comprehension_free (use := some (assign (.Name y py) V.env)) (Q := fun _ s' => Q .next s') rfl (by intro _; rfl) hclos K.kind (fun z hz => (K.all z hz).2.1) ?_) (fun _ s' hq => wpAny_pure (wpAny_pure hq)) fun _ _ e => e)
      refine wpAny_Call_NameR (ld_bi (v := .type "range") hL S.base hg (by simp [builtinsUsed]) ?_)
      rw [star_cons hst, back_cons]
      refine PySem.callWith_type rfl (evalArgs_plain (spliced_cons (he ρ μ p hp A s ψ φ V E _ hR S hL fun v h₁ tk₁ hv S₁ k₁ => spliced_nil ?_)))
      rw [hN] at hv
      obtain ⟨t, rfl⟩ := hv
      refine call_range_1 (wpAny_pyIter_range (IsRange.new ..) (small_one (by decide) (by decide) (by omega) (by omega)) ?_)
      have hsz : Builtin.Range.rangeSize 0 N 1 = (N.toNat : Int) := by rw [rangeSize_one]; split <;> omega
      rw [hsz]
      have hL₁ := hL.kept k₁ S.sub
      generalize hR1 : ({ cls := .type "range", data := .fields #[.int 0 tk₁, .int N t, .int 1 (tk₁ + 1)] } : Obj) = oR
      have S₂ := S₁.push oR
      have hL₂ := hL₁.keptBy (κ := []) (Keep.of fun _ _ e => Heap.get?_push_of_some oR e) (fun _ m => nomatch m) (fun _ _ m => nomatch m)
      have k₂ : Keep φ s.heap (h₁.push oR) := k₁.push _
      generalize h₁.push oR = h₂ at *
      generalize hR2 : ({ cls := .type "range_iterator", data := .fields #[rawInt 0, rawInt (N.toNat : Int), rawInt 1] } : Obj) = oI
      have hfI : oI.isFreed = false := by rw [← hR2]; rfl
      have S₃ := S₂.hold oI hfI
      have hL₃ := hL₂.hold oI
      have k₃ : Keep φ s.heap (h₂.push oI) := k₂.push _
      have hI : IsRangeIter (h₂.push oI) h₂.objs.size 0 (N.toNat : Int) 1 := by rw [← hR2]; exact Heap.get?_push_size _ rfl
      have hIψ : h₂.objs.size ∉ ψ := S₂.fresh
      have hIφ : h₂.objs.size ∉ φ := fun m => hIψ (S.sub _ m)
      have hIs : s.heap.get? h₂.objs.size = none := fresh_none k₂ hIφ
      generalize h₂.objs.size = I at *
      generalize h₂.push oI = h₃ at *
      refine wpAny_newObj_type (wpAny_newFunctionEnv (fun z hz => (K.all z hz).1) (by intro z hz; simp at hz) (fun h₅ hns₅ hsb₅ => ?_) K.kind)
      dsimp only at hns₅ hsb₅ ⊢
      generalize hR3 : ({ cls := .type "list", dict := none, data := .seq ([] : List Value).toArray } : Obj) = oD at *
      have hfD : oD.isFreed = false := by rw [← hR3]; rfl
      have S₄ := S₃.hold oD hfD
      have hL₄ := hL₃.hold oD
      have k₄ : Keep φ s.heap (h₃.push oD) := k₃.push _
      have hI₄ : IsRangeIter (h₃.push oD) I 0 (N.toNat : Int) 1 := Heap.get?_push_of_some _ hI
      have hacc : (h₃.push oD).PlainList h₃.objs.size #[] := by rw [← hR3]; exact ⟨0, Heap.get?_push_size _ rfl⟩
      have hDψ : h₃.objs.size ∉ I :: ψ := S₃.fresh
      have hDφ : h₃.objs.size ∉ φ := fun m => hDψ (.tail _ (S.sub _ m))
      have hDs : s.heap.get? h₃.objs.size = none := fresh_none k₃ hDφ
      generalize h₃.objs.size = D at *
      generalize h₃.push oD = h₄ at *
      generalize hR4 : ({ cls := .type (if (some V.env).isSome then "dict" else "frame"), data := .dict #[] } : Obj) = oC at *
      have hfC : oC.isFreed = false := by rw [← hR4]; rfl
      have S₅' := S₄.hold oC hfC
      have hL₅' := hL₄.hold oC
      have k₅' : Keep φ s.heap (h₄.push oC) := k₄.push _
      have hI₅' : IsRangeIter (h₄.push oC) I 0 (N.toNat : Int) 1 := Heap.get?_push_of_some _ hI₄
      have hacc' : (h₄.push oC).PlainList D #[] := hacc.at fun o e => Heap.get?_push_of_some _ e
      have hCψ : h₄.objs.size ∉ D :: I :: ψ := S₄.fresh
      have hCφ : h₄.objs.size ∉ φ := fun m => hCψ (.tail _ (.tail _ (S.sub _ m)))
      have hCs : s.heap.get? h₄.objs.size = none := fresh_none k₄ hCφ
      generalize h₄.objs.size = Cn at *
      generalize h₄.push oC = h₅' at *
      have hDI : D ≠ I := fun e => hDψ (e ▸ .head _)
      have hCI : Cn ≠ I := fun e => hCψ (e ▸ .tail _ (.head _))
      have hCD : Cn ≠ D := fun e => hCψ (e ▸ .head _)
      have kC5 : Keep [Cn] h₅' h₅ := Keep.but hsb₅
      have ownN : ∀ a ∈ V.own, a ≠ I ∧ a ≠ D ∧ a ≠ Cn := fun a ha =>
        have h1 := hL.inψ a ha
        ⟨fun e => hIψ (e ▸ h1), fun e => hDψ (e ▸ .tail _ h1), fun e => hCψ (e ▸ .tail _ (.tail _ h1))⟩
      have S₅ : St X.h₀ (Cn :: D :: I :: ψ) φ p.2 h₅ := S₅'.other (.head _) hCφ (let ⟨o, _, _, e, _⟩ := hns₅; ⟨o, e⟩) hsb₅
      have hL₅ : Loc X.C V (Cn :: D :: I :: ψ) φ ρ h₅ := hL₅'.keptBy kC5 (sub_lift (.head _)) fun a ha m => (ownN a ha).2.2 (List.mem_singleton.mp m)
      have hI₅ : IsRangeIter h₅ I 0 (N.toNat : Int) 1 := kC5 _ _ hI₅' fun m => hCI (List.mem_singleton.mp m).symm
      have hacc₅ : h₅.PlainList D #[] := hacc'.at fun o e => kC5 _ _ e fun m => hCD (List.mem_singleton.mp m).symm
      have k₅ : Keep φ s.heap h₅ := fun b o e n => kC5 b o (k₅' b o e n) fun m => by rw [List.mem_singleton.mp m, hCs] at e; cases e
      clear S₅' hL₅' k₅' hI₅' hacc' kC5 hsb₅ S₄ hL₄ k₄ hI₄ hacc S₃ hL₃ k₃ hI S₂ hL₂ k₂ S₁ k₁ hL₁
      have hnv : ∀ a ∈ Cn :: ψ, a ∈ Cn :: D :: I :: ψ ∧ a ≠ I := fun a m => by
        rcases List.mem_cons.mp m with rfl | m
        · exact ⟨.head _, hCI⟩
        · exact ⟨.tail _ (.tail _ (.tail _ m)), fun e => hIψ (e ▸ m)⟩
      have loop : ∀ tk, codeAny (model prog w) A (.compLoop (.ListComp elt [⟨.Name x px, .Call (.Name "range" pr) [e] [] rp, [], 0⟩] scope pos) 0 (.ref I) (.ref D) (compEnvC scope cl Cn V.env))
          (compPost (model prog w) A E (some (assign (.Name y py) V.env)) (fun _ s' => Q .next s') (.ref D) Cn) { s with heap := h₅, toks := tk } := by
        intro tk
        refine codeAny_compLoop_list (fun r s' => ∃ kk μ₁ xs₁ rest ys h₁ tk₁ m₁, s' = { s with heap := h₁, toks := tk₁ } ∧ compF sel (caps.map fun j => ρ[j]?.join) r kk μ₁ = some (rest, μE) ∧ xs₁ ++ rest = xsA ∧ IsRangeIter h₁ I kk (r : Int) 1 ∧
            St X.h₀ (Cn :: D :: I :: ψ) φ μ₁ h₁ ∧ h₁.PlainList D ys ∧ VRs (Cn :: D :: I :: ψ) h₁ xs₁ ys.toList ∧ h₁.Ns Cn m₁ ∧ Keep φ s.heap h₁ ∧ Loc X.C V (Cn :: D :: I :: ψ) φ ρ h₁ ∧ ys.size + r ≤ 16777216) ?_ N.toNat
          ⟨0, p.2, [], xsA, #[], h₅, tk, _, rfl, hcf, rfl, hI₅, S₅, hacc₅, rfl, hns₅, k₅, hL₅, by simp; omega⟩
        rintro r s' ⟨kk, μ₁, xs₁, rest, ys, h₁, tk₁, m₁, rfl, hw, hxs, hit, S₁, hpl, hvs, hns, k₁, hL₁, hsize⟩
        cases r with
        | zero =>
          refine wpAny_pyNext_range_end hR.handled hit (by simp) fun h₂ he₂ => ?_
          cases hw
          rw [List.append_nil] at hxs
          subst hxs
          have kI : Keep [I] h₁ h₂ := fun b o e n => he₂ b o (fun q => n (q ▸ List.mem_singleton.mpr rfl)) e
          have hI' : I ∈ Cn :: D :: I :: ψ := .tail _ (.tail _ (.head _))
          have sub : ∀ a ∈ Cn :: ψ, a ∈ (Cn :: D :: I :: ψ).filter (· ≠ I) := fun a m => List.mem_filter.mpr ⟨(hnv a m).1, by simpa using (hnv a m).2⟩
          have S₂ := (S₁.drop hIφ hI' kI).shrink sub fun a m => .tail _ (S.sub a m)
          have hL₂ := (hL₁.drop (fun a ha => (ownN a ha).1) hI' kI).shrink sub fun a ha => .tail _ (hL.inψ a ha)
          have hDn : D ∉ Cn :: ψ := fun m => by
            rcases List.mem_cons.mp m with e | m
            · exact hCD e.symm
            · exact hDψ (.tail _ m)
          have hvr : VR (Cn :: ψ) h₂ (.list xs₁) (.ref D) := ⟨D, ys, rfl, (hpl.at fun o e => kI _ _ e fun m => hDI (List.mem_singleton.mp m)).isList, hDn, hvs.keep kI fun a n _ => ⟨fun m => n (hnv a m).1, fun m => n (by rw [List.mem_singleton.mp m]; exact hI')⟩⟩
          show wpAny _ A (assign (.Name y py) V.env (.ref D)) _ _ _
          refine wpAny_assign_Name (store_sound (mv := .d (.list xs₁)) (s := { s with heap := h₂, toks := tk₁ }) S₂ hL₂ hy hvr fun h₃ tk₃ S₃ hL₃ k₃ => ?_)
          refine ⟨m₁, ns_keep k₃ (ns_keep kI hns fun m => hCI (List.mem_singleton.mp m)) fun m => (ownN _ m).2.2 rfl, fun h₄ hs₄ => ?_⟩
          have kC : Keep [Cn] h₃ h₄ := Keep.but hs₄
          have hCn : Cn ∉ ψ := fun m => hCψ (.tail _ (.tail _ m))
          have sub' : ∀ a ∈ ψ, a ∈ (Cn :: ψ).filter (· ≠ Cn) := fun a m => List.mem_filter.mpr ⟨.tail _ m, by simpa using fun e : a = Cn => hCn (e ▸ m)⟩
          refine k .next ψ φ h₄ tk₃ rfl (Ext.refl _ _ _) ((S₃.drop hCφ (.head _) kC).shrink sub' S.sub) ((hL₃.drop (fun a ha => (ownN a ha).2.2) (.head _) kC).shrink sub' hL.inψ) fun b o e n => ?_
          refine kC b o (k₃ b o (kI b o (k₁ b o e fun m => n (List.mem_append_right _ m)) fun m => ?_) fun m => n (List.mem_append_left _ m)) fun m => ?_
          · rw [List.mem_singleton.mp m, hIs] at e; cases e
          · rw [List.mem_singleton.mp m, hCs] at e; cases e
        | succ r =>
          simp only [compF, Option.bind_eq_some_iff] at hw
          obtain ⟨p', hp', hw⟩ := hw
          split at hw
          · rename_i x' hx'
            obtain ⟨⟨rest', μE'⟩, hw', hrest⟩ := Option.map_eq_some_iff.mp hw
            cases hrest
            refine wpAny_pyNext_range_item hit (by omega) fun h₂ hit₂ hs₂ => ?_
            have kI : Keep [I] h₁ h₂ := Keep.but hs₂
            refine wpAny_assign_Name (wpAny_storeName_local (env := compEnvC scope cl Cn V.env) (lookup_relabel_local K.x) (ns_keep kI hns fun m => hCI (List.mem_singleton.mp m)) (fun h₃ hn₃ hs₃ => ?_) (by simp [compEnvC, relabel, K.kind]))
            have kC : Keep [Cn] h₂ h₃ := Keep.but hs₃
            have hI' : I ∈ Cn :: D :: I :: ψ := .tail _ (.tail _ (.head _))
            have hD' : D ∈ Cn :: D :: I :: ψ := .tail _ (.head _)
            have S₃ := (S₁.other hI' hIφ ⟨_, hit₂⟩ hs₂).other (.head _) hCφ (let ⟨o, _, _, e, _⟩ := hn₃; ⟨o, e⟩) hs₃
            have hL₃ := (hL₁.keptBy kI (sub_lift hI') fun a ha m => (ownN a ha).1 (List.mem_singleton.mp m)).keptBy kC (sub_lift (.head _)) fun a ha m => (ownN a ha).2.2 (List.mem_singleton.mp m)
            obtain ⟨mL, lL⟩ := id hL₃
            have lc := lL.comp K hcl1 hcl2 (v := .int kk tk₁) (mv := .d (.int kk)) hn₃ (by simp) ⟨.head _, hCφ⟩ (fun m => (ownN _ m).2.2 rfl) ⟨_, rfl⟩
            refine hel _ μ₁ p' hp' A { s with heap := h₃, toks := tk₁ + 1 + 1 } (Cn :: D :: I :: ψ) φ ⟨compEnvC scope cl Cn V.env, Cn :: V.own⟩ _ _ hR S₃ ⟨_, lc⟩ fun v h₄ tk₄ hv S₄ k₄ => ?_
            rw [hx'] at hv
            have kφ : Keep φ h₃ h₄ := k₄
            have S₄' : St X.h₀ (Cn :: D :: I :: ψ) φ p'.2 h₄ := S₄
            have k14 : Keep (I :: Cn :: φ) h₁ h₄ := fun b o e n => kφ b o (kC b o (kI b o e fun m => n (List.mem_singleton.mp m ▸ .head _)) fun m => n (List.mem_singleton.mp m ▸ .tail _ (.head _))) fun m => n (.tail _ (.tail _ m))
            have sub14 : ∀ a ∈ I :: Cn :: φ, a ∈ Cn :: D :: I :: ψ := fun a m => by
              rcases List.mem_cons.mp m with rfl | m
              · exact hI'
              · rcases List.mem_cons.mp m with rfl | m
                · exact .head _
                · exact .tail _ (.tail _ (.tail _ (S.sub a m)))
            have hpl₄ : h₄.PlainList D ys := hpl.at fun o e => k14 _ _ e fun m => by
              rcases List.mem_cons.mp m with e | m
              · exact hDI e
              · rcases List.mem_cons.mp m with e | m
                · exact hCD e.symm
                · exact hDφ m
            refine wpAny_list_append_plain (hsz := by show ys.size ≤ 16777216; omega) hpl₄ fun h₆ hl₆ hs₆ => ?_
            have kD : Keep [D] h₄ h₆ := Keep.but hs₆
            refine ⟨r, Nat.lt_succ_self r, kk + 1, p'.2, xs₁ ++ [x'], rest', ys.push v, h₆, tk₄, _, rfl, hw', by rw [List.append_assoc]; exact hxs, ?_, S₄'.other hD' hDφ (let ⟨n, e⟩ := hl₆; ⟨_, e⟩) hs₆, hl₆, ?_, ns_keep kD (ns_keep kφ hn₃ hCφ) fun m => hCD (List.mem_singleton.mp m), fun b o e n => ?_, ?_, by rw [Array.size_push]; omega⟩
            · have h1 : IsRangeIter h₄ I (kk + 1) (((r + 1 : Nat) : Int) - 1) 1 := kφ _ _ (kC _ _ hit₂ fun m => hCI (List.mem_singleton.mp m).symm) hIφ
              rw [show (((r + 1 : Nat) : Int) - 1) = (r : Int) from by omega] at h1
              exact kD _ _ h1 fun m => hDI (List.mem_singleton.mp m).symm
            · rw [Array.toList_push]
              exact ((hvs.kept k14 sub14).append (VRs.one hv)).kept kD (sub_lift hD')
            · refine kD b o (k14 b o (k₁ b o e n) fun m => ?_) fun m => ?_
              · rcases List.mem_cons.mp m with rfl | m
                · rw [hIs] at e; cases e
                · rcases List.mem_cons.mp m with rfl | m
                  · rw [hCs] at e; cases e
                  · exact n m
              · rw [List.mem_singleton.mp m, hDs] at e; cases e
            · exact (hL₃.kept kφ fun a m => sub14 a (.tail _ (.tail _ m))).keptBy kD (sub_lift hD') fun a ha m => (ownN a ha).2.1 (List.mem_singleton.mp m)
          · cases hw
      exact codeAny_compStart_list (loop _) (wpAny_pyIter_rangeiter hI₅ (loop _))
    · cases h
  · cases h

theorem filterMap_full {α β : Type} {f : α → Option β} : ∀ {l : List α}, (l.filterMap f).length = l.length → ∀ {j : Nat} {z : β}, (l.filterMap f)[j]? = some z → ∃ i, l[j]? = some i ∧ f i = some z
  | [], _, j, z, e => by simp at e
  | a :: l, hl, j, z, e => by
    have hle := List.length_filterMap_le f l
    rw [List.filterMap_cons] at hl e
    cases ha : f a with
    | none => rw [ha] at hl; simp only [List.length_cons] at hl; omega
    | some b =>
      rw [ha] at hl e
      simp only [List.length_cons, Nat.add_right_cancel_iff] at hl
      cases j with
      | zero => simp only [List.getElem?_cons_zero, Option.some.injEq] at e; subst e; exact ⟨a, rfl, ha⟩
      | succ j =>
        simp only [List.getElem?_cons_succ] at e
        obtain ⟨i, h1, h2⟩ := filterMap_full hl e
        exact ⟨i, by simpa using h1, h2⟩
theorem compOk_spec {C : MC} {scope : Scope} {x : Str} {caps : List Nat} (h : compOk C scope x caps = true) : CompOK C (compC C scope x caps) scope x caps := by
  unfold compOk at h
  simp only [Bool.and_eq_true, Bool.or_eq_true, decide_eq_true_eq, List.all_eq_true] at h
  obtain ⟨⟨⟨⟨⟨h1, h2⟩, h3⟩, h4⟩, h5⟩, h6⟩ := h
  refine ⟨rfl, rfl, h1, ⟨_, rfl, h2, fun j z e => ?_⟩, h4, h5, fun z hz => ?_⟩
  · obtain ⟨i, e1, e2⟩ := filterMap_full h2 e
    have := h3 z (List.mem_of_getElem? e)
    exact ⟨i, e1, e2, this.1, this.2⟩
  · obtain ⟨⟨q1, q2⟩, q3⟩ := h6 z hz
    exact ⟨q1, fun e => q2.resolve_left fun n => n e, fun e => q3.resolve_left fun n => n e⟩

/-- for x in y, y a list that stays -/
theorem fore_sound {X : Cx prog w} {x y : Str} {px py pos : Pos} {body : List Stmt} {i : Nat} {se : Rho → Mu → Option (MV × Mu)} {b : Rho → Mu → Option (Out × Rho × Mu)} (hx : X.C.loc i x = true) (he : SE X (.Name y py) se) (hb : SSt X (execs body) b) :
    SSt X (exec (.For (.Name x px) (.Name y py) body [] pos)) fun ρ μ => (se ρ μ).bind fun p => match p.1 with | .d (.list xs) => foreF i b xs ρ p.2 | _ => none := by
  intro ρ μ q h A s ψ φ V E Q hR S hL k
  obtain ⟨p, hp, h⟩ := Option.bind_eq_some_iff.mp h
  split at h
  · rename_i xs hN
    refine wpAny_For ?_
    refine he ρ μ p hp A s ψ φ V E _ hR S hL fun v h₁ tk₁ hv S₁ k₁ => ?_
    rw [hN] at hv
    obtain ⟨l, vs, rfl, hl, hlψ, hvs⟩ := hv
    refine wpAny_pyIter_list hl ?_
    have hL₁ := hL.kept k₁ S.sub
    generalize hR1 : ({ cls := .type "list_iterator", data := .fields #[.ref l, .int 0 0] } : Obj) = oI
    have hfI : oI.isFreed = false := by rw [← hR1]; rfl
    have S₂ := S₁.hold oI hfI
    have hL₂ := hL₁.hold oI
    have k₂ : Keep φ s.heap (h₁.push oI) := k₁.push _
    have hit : (h₁.push oI).IsListIter h₁.objs.size l 0 := by rw [← hR1]; exact ⟨_, Heap.get?_push_size _ rfl, rfl, rfl⟩
    have hl₂ : (h₁.push oI).IsList l vs := hl.push _
    have hIψ : h₁.objs.size ∉ ψ := S₁.fresh
    have hIφ : h₁.objs.size ∉ φ := fun m => hIψ (S.sub _ m)
    have hIs : s.heap.get? h₁.objs.size = none := fresh_none k₁ hIφ
    have hlI : l ≠ h₁.objs.size := fun e => by
      obtain ⟨o, ho, _⟩ := hl
      exact absurd (Heap.lt_size ho) (e ▸ Nat.lt_irrefl _)
    have hvs₂ : VRs (h₁.objs.size :: ψ) (h₁.push oI) xs vs.toList := hvs.keep (κ := []) (.of fun _ _ e => Heap.get?_push_of_some _ e) fun a n ⟨o, e⟩ => ⟨fun m => by
      rcases List.mem_cons.mp m with rfl | m
      · exact absurd (Heap.lt_size e) (Nat.lt_irrefl _)
      · exact n m, fun m => nomatch m⟩
    generalize h₁.objs.size = I at *
    generalize h₁.push oI = h₂ at *
    have hlψ' : l ∉ I :: ψ := fun m => by
      rcases List.mem_cons.mp m with e | m
      · exact hlI e
      · exact hlψ m
    show codeAny (model prog w) A (.forLoop (.Name x px) (.ref I) body [] _) _ _
    refine codeAny_forLoop (fun r s' => ∃ kk ys ρ₁ μ₁ ψ₁ φ₁ h₁ tk₁, s' = { s with heap := h₁, toks := tk₁ } ∧ foreF i b ys ρ₁ μ₁ = some q ∧ xs.drop kk = ys ∧ ys.length = r ∧ I ∈ ψ₁ ∧ I ∉ φ₁ ∧ l ∉ ψ₁ ∧ h₁.IsListIter I l kk ∧ h₁.IsList l vs ∧ VRs ψ₁ h₁ xs vs.toList ∧ Ext ψ φ ψ₁ φ₁ s.heap ∧ St X.h₀ ψ₁ φ₁ μ₁ h₁ ∧ Loc X.C V ψ₁ φ₁ ρ₁ h₁ ∧ Keep (V.own ++ φ) s.heap h₁) ?_ xs.length
      ⟨0, xs, ρ, p.2, I :: ψ, φ, _, _, rfl, h, rfl, rfl, List.mem_cons_self, hIφ, hlψ', hit, hl₂, hvs₂, ⟨fun _ m => List.mem_cons_of_mem _ m, fun a m => by
        rcases List.mem_cons.mp m with rfl | m
        · exact .inr hIs
        · exact .inl m, [], by simp, fun _ m => nomatch m⟩, S₂, hL₂, k₂.inφ⟩
    have hLI : ∀ a ∈ V.own, a ≠ I := fun a ha e => by
      subst e
      obtain ⟨o, ho⟩ := S.live a (hL.inψ a ha)
      rw [hIs] at ho; cases ho
    rintro r s' ⟨kk, ys, ρ₁, μ₁, ψ₁, φ₁, h₁, tk₁, rfl, hw, hdr, hlen, hI1, hI2, hl1, hit₁, hlist, hvs₁, x₁, S₁, hL₁, k₁⟩
    have hlI' : l ∉ [I] := fun m => hl1 (List.mem_singleton.mp m ▸ hI1)
    cases ys with
    | nil =>
      have hnone : vs[kk]? = none := by
        have h1 : xs.length ≤ kk := List.drop_eq_nil_iff.mp hdr
        have h2 := hvs₁.length
        rw [Array.length_toList] at h2
        exact Array.getElem?_eq_none (by omega)
      refine wpAny_pyNext_list_end hR.handled hit₁ hlist hnone fun h₂ he₂ => ?_
      cases hw
      have kI : Keep [I] h₁ h₂ := fun b o e n => he₂ b o (fun q => n (q ▸ List.mem_singleton.mpr rfl)) e
      refine wpAny_execs_nil (k .next (ψ₁.filter (· ≠ I)) φ₁ h₂ tk₁ rfl ⟨fun a m => ?_, fun a m => x₁.new a (List.mem_filter.mp m).1, x₁.app⟩ (S₁.drop hI2 hI1 kI) (hL₁.drop hLI hI1 kI) fun b o e n => ?_)
      · refine List.mem_filter.mpr ⟨x₁.sub a m, ?_⟩
        have : a ≠ I := fun e => hIψ (e ▸ m)
        simpa using this
      · refine kI b o (k₁ b o e n) fun m => ?_
        rw [List.mem_singleton.mp m, hIs] at e; cases e
    | cons z ys =>
      simp only [foreF, Option.bind_eq_some_iff] at hw
      obtain ⟨u, hu, hw⟩ := hw
      have hxk : xs[kk]? = some z := by
        have : (xs.drop kk)[0]? = some z := by rw [hdr]; rfl
        rw [List.getElem?_drop] at this; exact this
      have hdr' : xs.drop (kk + 1) = ys := by
        rw [← List.drop_drop, hdr]; rfl
      obtain ⟨v, hv1, hv2⟩ := hvs₁.get hxk
      rw [Array.getElem?_toList] at hv1
      refine wpAny_pyNext_list_item hit₁ hlist hv1 fun h₂ hit₂ hs₂ => ?_
      have kI : Keep [I] h₁ h₂ := Keep.but hs₂
      have S₂ := S₁.other hI1 hI2 (let ⟨o, e, _⟩ := hit₂; ⟨o, e⟩) hs₂
      have hL₂ := hL₁.keptBy kI (sub_lift hI1) fun a ha m => hLI a ha (List.mem_singleton.mp m)
      refine wpAny_assign_Name (store_sound (mv := .d z) (s := { s with heap := h₂, toks := tk₁ }) S₂ hL₂ hx (hv2.kept kI (sub_lift hI1)) fun h₃ tk₃ S₃ hL₃ k₃ => ?_)
      refine hb _ _ u hu A _ ψ₁ φ₁ V _ _ hR S₃ hL₃ fun fl ψ₄ φ₄ h₄ tk₄ hfl x₄ S₄ hL₄ k₄ => ?_
      have k2 : Keep (V.own ++ φ) s.heap h₂ := fun b o e n => kI b o (k₁ b o e n) fun m => by rw [List.mem_singleton.mp m, hIs] at e; cases e
      have k3 : Keep (V.own ++ φ) s.heap h₃ := k2.trans k₃.inOwn
      have x14 : Ext ψ φ ψ₄ φ₄ s.heap := x₁.trans x₄ (live_of k3 S₃ (fun a m => x₁.sub a (S.sub a m)) hL₃.inψ)
      have k14 : Keep (V.own ++ φ) s.heap h₄ := k3.ext x₁ k₄
      have hown : ∀ a ∈ V.own, a ∈ ψ₁ := hL₃.inψ
      have nI : I ∉ V.own ++ φ₁ := fun m => by
        rcases List.mem_append.mp m with m | m
        · exact hLI _ m rfl
        · exact hI2 m
      have nl : l ∉ V.own ++ φ₁ := fun m => by
        rcases List.mem_append.mp m with m | m
        · exact hl1 (hown l m)
        · exact hl1 (S₁.sub l m)
      have it3 : h₃.IsListIter I l (kk + 1) := let ⟨o, e, r⟩ := hit₂; ⟨o, k₃ _ _ e fun m => hLI _ m rfl, r⟩
      have it4 : h₄.IsListIter I l (kk + 1) := let ⟨o, e, r⟩ := it3; ⟨o, k₄ _ _ e nI, r⟩
      have kl : Keep V.own h₂ h₃ := k₃
      have li3 : h₃.IsList l vs := kl.isList (kI.isList hlist hlI') fun m => hl1 (hown l m)
      have li4 : h₄.IsList l vs := k₄.isList li3 nl
      have hl4 : l ∉ ψ₄ := fun m => by
        rcases x₄.new l m with m | m
        · exact hl1 m
        · obtain ⟨o, e, _⟩ := li3; rw [show (h₃.get? l) = none from m] at e; cases e
      have hv4 : VRs ψ₄ h₄ xs vs.toList := by
        have v3 : VRs ψ₁ h₃ xs vs.toList := (hvs₁.kept kI (sub_lift hI1)).kept k₃ hown
        refine v3.keep k₄ fun a n ⟨o, e⟩ => ⟨fun m => ?_, fun m => ?_⟩
        · rcases x₄.new a m with m | m
          · exact n m
          · rw [show (h₃.get? a) = none from m] at e; cases e
        · rcases List.mem_append.mp m with m | m
          · exact n (hown a m)
          · exact n (S₃.sub a m)
      have lt : ys.length < r := by rw [← hlen]; exact Nat.lt_succ_self _
      have nI4 : I ∉ φ₄ := mem_ext x₄ hI2 (let ⟨o, e, _⟩ := it3; ⟨o, e⟩)
      cases hro : u.1 with
      | next =>
        rw [hro] at hw hfl
        cases hfl
        exact ⟨ys.length, lt, kk + 1, ys, u.2.1, u.2.2, ψ₄, φ₄, h₄, tk₄, rfl, hw, hdr', rfl, x₄.sub I hI1, nI4, hl4, it4, li4, hv4, x14, S₄, hL₄, k14⟩
      | cont =>
        rw [hro] at hw hfl
        cases hfl
        exact ⟨ys.length, lt, kk + 1, ys, u.2.1, u.2.2, ψ₄, φ₄, h₄, tk₄, rfl, hw, hdr', rfl, x₄.sub I hI1, nI4, hl4, it4, li4, hv4, x14, S₄, hL₄, k14⟩
      | ret v =>
        rw [hro] at hw hfl
        obtain ⟨z, rfl, hz⟩ := hfl
        cases hw
        exact k (.ret z) ψ₄ φ₄ h₄ tk₄ ⟨z, rfl, hz⟩ x14 S₄ hL₄ k14
  · cases h
end Mini

namespace Mini
open PySem

theorem filt_aux (n a : Nat) (f : Value × Nat → Option Value) (hf : ∀ x k, f (x, k) = if (if (1 : Int) > 0 then decide ((a : Int) ≤ (k : Nat)) && decide (((k : Nat) : Int) < (n : Int)) && (((k : Nat) : Int) - (a : Int)) % 1 == 0 else decide ((n : Int) < (k : Nat)) && decide (((k : Nat) : Int) ≤ (a : Int)) && ((a : Int) - ((k : Nat) : Int)) % (-1) == 0) = true then none else some x) :
    ∀ (xs : List Value) (i : Nat), i + xs.length = n → (xs.zipIdx i).filterMap f = xs.take (a - i)
  | [], _, _ => by simp
  | x :: xs, i, h => by
    have ih := filt_aux n a f hf xs (i + 1) (by simp only [List.length_cons] at h; omega)
    rw [List.zipIdx_cons, List.filterMap_cons, hf, ih]
    simp only [List.length_cons] at h
    by_cases hi : a ≤ i
    · have h1 : decide ((a : Int) ≤ (i : Nat)) = true := decide_eq_true (by omega)
      have h2 : decide (((i : Nat) : Int) < (n : Int)) = true := decide_eq_true (by omega)
      have h3 : ((((i : Nat) : Int) - (a : Int)) % 1 == 0) = true := by simp [Int.emod_one]
      rw [if_pos (by omega : (1 : Int) > 0), h1, h2, h3]
      simp only [Bool.and_self, if_true]
      rw [show a - i = 0 from by omega, show a - (i + 1) = 0 from by omega]
      simp
    · have h1 : decide ((a : Int) ≤ (i : Nat)) = false := decide_eq_false (by omega)
      rw [if_pos (by omega : (1 : Int) > 0), h1]
      simp only [Bool.false_and, Bool.false_eq_true, if_false]
      rw [show a - i = (a - (i + 1)) + 1 from by omega, List.take_succ_cons]

section
variable {prog : Program} {w : World} {A : Around} {E : Value → Shared → Prop} {s : Shared}
theorem plain_update {h : Heap} {l : Addr} {items ys : Array Value} {n : Nat} (x : IsL h l items n) (f : Array Value → Array Value) (hf : f items = ys) : (h.update l (Obj.mapSeq f)).PlainList l ys := hf ▸ ⟨_, IsL.update x f⟩
theorem delItem_from {l sl : Addr} {items : Array Value} {vl : Value} {a : Nat} {Q : Unit → Shared → Prop} (hl : s.heap.PlainList l items) (hs : s.heap.IsSliceOf sl vl .none .none) (pl : IsPart vl (some (a : Int)))
    (hQ : ∀ h', h'.PlainList l (items.toList.take a).toArray → Heap.SameBut l s.heap h' → Q () { s with heap := h' }) (hsz : items.size ≤ sizeLine) : wpAny (model prog w) A (delItem (.ref l) (.ref sl)) Q E s := by
  have hl' := hl.isList
  obtain ⟨ne, ho⟩ := id hl
  obtain ⟨os, hos, hcs, hds⟩ := id hs
  have hTs : s.TypeIs (.ref sl) "slice" := ⟨os, hos, hcs⟩
  refine wpAny_delItem_slot hl'.typeIs (by decide) F.slot_list_delitem (wpAny_call_entry F.slot_list_delitem hl'.typeIs F.entry_list_delitem ?_ (F.args_list_delitem_2 _ _))
  show wpAny _ _ (Builtin.List.listSubscript? (.ref sl) >>= _) _ _ s
  refine wpAny_bind ?_
  unfold Builtin.List.listSubscript?
  refine wpAny_bind (wpAny_specialOf hTs slice_no_index ?_)
  simp only [Option.isNone_none, if_true]
  refine wpAny_pure ?_
  show wpAny _ _ (typeOf (.ref sl) >>= _) _ _ s
  refine wpAny_bind (wpAny_typeOf hTs ?_)
  rw [if_neg (by decide)]
  rw [listSliceParts_eq]
  refine wpAny_bind (wpAny_bind (wpAny_field hos hds (x := .none) rfl (wpAny_bind (wpAny_listPart (k := none) .none ?_))))
  rw [if_neg (show ¬ ((rawPart none == rawInt 0) = true) from Bool.false_ne_true)]
  refine wpAny_bind (wpAny_field hos hds (x := vl) rfl (wpAny_bind (wpAny_listPart pl ?_)))
  refine wpAny_bind (wpAny_field hos hds (x := .none) rfl (wpAny_bind (wpAny_listPart (k := none) .none (wpAny_pure ?_))))
  refine wpAny_bind (m := Builtin.List.listItems (.ref l)) ?_
  unfold Builtin.List.listItems
  refine wpAny_bind (wpAny_seqItems ho rfl (wpAny_pure ?_))
  refine wpAny_bind (wpAny_of_eq (sliceIndices_raw (some (a : Int)) none none items.size (by intro e; cases e)) ?_)
  rw [sliceBounds_plain]
  simp only [Option.elim, clipAt_nat]
  refine wpAny_bind (wpAny_rule (wpAny_bind ?_))
  have key : ∀ f : Value × Nat → Option Value, (∀ x k, f (x, k) = if (if (1 : Int) > 0 then decide (((min a items.size : Nat) : Int) ≤ (k : Nat)) && decide (((k : Nat) : Int) < (items.size : Int)) && (((k : Nat) : Int) - ((min a items.size : Nat) : Int)) % 1 == 0 else decide ((items.size : Int) < (k : Nat)) && decide (((k : Nat) : Int) ≤ ((min a items.size : Nat) : Int)) && (((min a items.size : Nat) : Int) - ((k : Nat) : Int)) % (-1) == 0) = true then none else some x) →
      (items.toList.zipIdx.filterMap f).toArray = (items.toList.take a).toArray := by
    intro f hf
    rw [filt_aux items.size (min a items.size) f hf items.toList 0 (by simp)]
    congr 1
    rw [Nat.sub_zero]
    by_cases h : a ≤ items.size
    · rw [Nat.min_eq_left h]
    · rw [Nat.min_eq_right (by omega), List.take_of_length_le (by simp), List.take_of_length_le (by simp; omega)]
  refine wpAny_updateSeq ho rfl ?_ hsz ?_
  · refine wpAny_bind (wpAny_letGo (wpAny_pure ⟨_, rfl, ?_⟩))
    refine hQ _ (plain_update ho _ (key _ ?_)) (Heap.SameBut.update ..)
    exact fun x k => rfl
  · refine Nat.le_trans (Nat.le_of_eq (congrArg Array.size (key _ ?_))) ?_
    · exact fun x k => rfl
    · rw [List.size_toArray, List.length_take]
      have : items.toList.length = items.size := Array.length_toList
      omega
end
end Mini

namespace Mini
open PySem PySem.Spec PySem.Calls PyProof.Rows
variable {prog : Program} {w : World}

set_option maxHeartbeats 1000000 in
mutual
theorem soundS (X : Cx prog w) : ∀ (ms : MS) (st : Stmt), matchS X.C ms st = true → SSt X (exec st) (evS X.F ms)
  | .assign i e, st, hm => by
    unfold matchS at hm
    split at hm
    · intro ρ μ q h A s ψ φ V E Q hR S hL k
      simp only [Bool.and_eq_true] at hm
      obtain ⟨⟨hx, hc⟩, he⟩ := hm
      simp only [evS, Option.map_eq_some_iff] at h
      obtain ⟨p, h1, rfl⟩ := h
      refine wpAny_Assign_Name (soundE X e _ he ρ μ p h1 A s ψ φ V E _ hR S hL fun v h' tk hv S' k' => ?_) (notComp_swaps hc)
      exact store_sound (s := { s with heap := h', toks := tk }) S' (hL.kept k' S.sub) hx hv fun h'' tk' S'' hL'' k'' => k .next ψ φ h'' tk' rfl (Ext.refl _ _ _) S'' hL'' (k'.toL k'')
    · cases hm
  | .newlist i es, st, hm => by
    unfold matchS at hm
    split at hm
    · intro ρ μ q h A s ψ φ V E Q hR S hL k
      simp only [Bool.and_eq_true] at hm
      obtain ⟨hx, he⟩ := hm
      simp only [evS, Option.bind_eq_some_iff] at h
      obtain ⟨p, h1, xs, hxs, h⟩ := h
      split at h
      · cases h
        rename_i hs
        refine wpAny_Assign_Name (wpAny_List (soundL X es _ he ρ μ p h1 A s ψ φ V _ E _ hR S hL fun vs h' tk hv S' k' => ⟨?_, ?_⟩))
        · rw [hv.length, ← allD_length hxs]; exact hs
        · have hnew : s.heap.get? h'.objs.size = none := by
            cases hq : s.heap.get? h'.objs.size with
            | none => rfl
            | some o => exact absurd (Heap.lt_size (k' _ _ hq fun m => S'.fresh (S.sub _ m))) (Nat.lt_irrefl _)
          refine store_sound (s := { s with heap := h'.push { cls := .type "list", data := .seq vs.toArray }, toks := tk }) (mv := .r p.2.length) (S'.alloc (hv.allD hxs)) (Loc.alloc S' (hL.kept k' S.sub) _) hx ⟨_, rfl, ?_⟩ fun h'' tk' S'' hL'' k'' => ?_
          · rw [← S'.len, List.getElem?_append_right (Nat.le_refl _), Nat.sub_self]; rfl
          · refine k .next _ _ h'' tk' rfl ⟨fun _ m => .tail _ m, fun a m => ?_, [h'.objs.size], rfl, fun a m => by rw [List.mem_singleton.mp m]; exact hnew⟩ S'' hL'' ((k'.push _).toL k'')
            rcases List.mem_cons.mp m with rfl | m
            · exact .inr hnew
            · exact .inl m
      · cases h
    · cases hm
  | .unpack is e, st, hm => by
    unfold matchS at hm
    split at hm
    · intro ρ μ q h A s ψ φ V E Q hR S hL k
      simp only [Bool.and_eq_true] at hm
      obtain ⟨⟨⟨hn, hc⟩, ht⟩, he⟩ := hm
      simp only [evS, Option.bind_eq_some_iff] at h
      obtain ⟨p, h1, h⟩ := h
      split at h
      · rename_i xs hp
        obtain ⟨ρ', hρ, rfl⟩ := Option.map_eq_some_iff.mp h
        refine Assign_Tuple (soundE X e _ he ρ μ p h1 A s ψ φ V E _ hR S hL fun v h' tk hv S' k' => ?_) (notComp_sole hc) (notComp_swapped ht)
        rw [hp] at hv
        obtain ⟨a, vs, rfl, htup, hna, hvs⟩ := hv
        have hlen : (assignEach _ (V.env)).length = is.length := (each_names hn).1
        have hsl : ∀ (is : List Nat) (xs : List PyData) (ρ ρ' : Rho), setAll is xs ρ = some ρ' → is.length = xs.length := by
          intro is
          induction is with
          | nil => intro xs ρ ρ' h; cases xs with
            | nil => rfl
            | cons => cases h
          | cons i is ih => intro xs ρ ρ' h; cases xs with
            | nil => cases h
            | cons x xs => rw [List.length_cons, List.length_cons, ih xs _ _ h]
        refine wpAny_assign_Tuple hR.handled htup (by rw [hlen, hsl _ _ _ _ hρ, hvs.size]) (each_names hn).2 fun h'' he'' => ?_
        have kg : ∀ b o, h'.get? b = some o → h''.get? b = some o := fun b o e => he'' b o (Nat.ne_of_lt (Heap.lt_size e)) e
        exact unpack_sound is _ xs vs.toList ρ ρ' { s with heap := h'', toks := tk } _ hn hρ (hvs.kept (κ := []) (.of kg) fun _ m => nomatch m) (S'.grow kg) ((hL.kept k' S.sub).keptBy (κ := []) (.of kg) (fun _ m => nomatch m) fun _ _ m => nomatch m)
          fun h3 tk3 S3 hL3 k3 => k .next ψ φ h3 tk3 rfl (Ext.refl _ _ _) S3 hL3 ((k'.trans (.of kg)).toL k3)
      · cases h
    · cases hm
  | .append i e, st, hm => by
    unfold matchS at hm
    split at hm
    · rename_i x px m apos y pos p0
      intro ρ μ q h A s ψ φ V E Q hR S hL k
      simp only [Bool.and_eq_true, decide_eq_true_eq] at hm
      obtain ⟨⟨⟨⟨hx, rfl⟩, hline⟩, hst⟩, he⟩ := hm
      simp only [evS] at h
      split at h
      · rename_i j hj
        obtain ⟨p, h1, h⟩ := Option.bind_eq_some_iff.mp h
        split at h
        · rename_i x' xs hp hxs
          split at h
          · cases h
            rename_i hs
            refine wpAny_Expr_any (wpAny_Call_append rfl (by rw [star_cons hst]; rfl) (by simp [hline]) (by rw [star_cons hst]; rfl) ?_) (by obtain ⟨_, l⟩ := hL; show (V.env.scope.kind == .module && _) = false; rw [l.kind]; rfl)
            refine soundE X (.var i) (.Name x px) hx ρ μ (.r j, μ) (by simp [evE, hj]) A s ψ φ V E _ hR S hL fun ov h' tk hv S' k' => ?_
            obtain ⟨a, rfl, ha⟩ := hv
            obtain ⟨ys, hys⟩ : ∃ ys, μ[j]? = some ys := by
              have := (List.getElem?_eq_some_iff.mp ha).1
              rw [S'.len] at this
              exact ⟨_, List.getElem?_eq_getElem this⟩
            obtain ⟨us, ⟨n, hus⟩, _⟩ := S'.lst j a ys ha hys
            refine ⟨a, us, rfl, ⟨_, n, hus, rfl, rfl, rfl⟩, ?_⟩
            refine soundE X e _ he ρ μ p h1 A { s with heap := h', toks := tk } ψ φ V E _ hR S' (hL.kept k' S.sub) fun v h'' tk'' hv'' S'' k'' => ?_
            rw [hp] at hv''
            obtain ⟨vs, hvs, hvr⟩ := S''.lst j a xs ha hxs
            refine wpAny_list_append_plain hvs (fun h3 hp3 hs3 => ?_) (by rw [hvr.size]; exact hs)
            obtain ⟨S3, k3⟩ := S''.set (xs := xs ++ [x']) ha hp3 hs3 (by rw [Array.toList_push]; exact hvr.append (.one hv''))
            exact k .next ψ φ h3 tk'' rfl (Ext.refl _ _ _) S3 (hL.kept ((k'.trans k'').trans k3) S.sub) (((k'.trans k'').trans k3).inφ)
          · cases h
        · cases h
      · cases h
    · cases hm
  | .delat i e, st, hm => by
    unfold matchS at hm
    split at hm
    · rename_i x px kx p0 p1
      intro ρ μ q h A s ψ φ V E Q hR S hL k
      simp only [Bool.and_eq_true] at hm
      obtain ⟨⟨hx, hsl⟩, he⟩ := hm
      simp only [evS] at h
      split at h
      · rename_i j hj
        obtain ⟨p, h1, h⟩ := Option.bind_eq_some_iff.mp h
        split at h
        · rename_i k0 xs hp hxs
          split at h
          · cases h
            rename_i hs
            refine wpAny_Delete (wpAny_deleteEach_cons (wpAny_delete_Subscript ?_))
            refine soundE X (.var i) (.Name x px) hx ρ μ (.r j, μ) (by simp [evE, hj]) A s ψ φ V E _ hR S hL fun ov h' tk hv S' k' => ?_
            obtain ⟨a, rfl, ha⟩ := hv
            refine soundE X e _ he ρ μ p h1 A { s with heap := h', toks := tk } ψ φ V E _ hR S' (hL.kept k' S.sub) fun v h'' tk'' hv'' S'' k'' => ?_
            rw [hp] at hv''
            obtain ⟨t, rfl⟩ := hv''
            obtain ⟨vs, hvs, hvr⟩ := S''.lst j a xs ha hxs
            refine wpAny_delItem_plain hvs (fits_small hs.1 (by omega)) (seqIndex_nat hs.1 (by rw [hvr.size]; omega)) (fun h3 hp3 hs3 => ?_) (by rw [hvr.size]; exact hs.2.2)
            obtain ⟨S3, k3⟩ := S''.set (xs := xs.eraseIdx k0.toNat) ha hp3 hs3 (by rw [Array.toList_eraseIdxIfInBounds]; exact hvr.erase _)
            exact wpAny_deleteEach_nil (k .next ψ φ h3 tk'' rfl (Ext.refl _ _ _) S3 (hL.kept ((k'.trans k'').trans k3) S.sub) (((k'.trans k'').trans k3).inφ))
          · cases h
        · cases h
      · cases h
    · cases hm
  | .ite c a b, st, hm => by
    unfold matchS at hm
    split at hm
    · intro ρ μ q h A s ψ φ V E Q hR S hL k
      simp only [Bool.and_eq_true] at hm
      obtain ⟨⟨hc, ha⟩, hb⟩ := hm
      simp only [evS, Option.bind_eq_some_iff] at h
      obtain ⟨p, h1, h2⟩ := h
      refine wpAny_If (soundT X c _ hc ρ μ p h1 A s ψ φ V E _ hR S hL fun h' tk S' k' => ?_)
      have fin : ∀ fl ψ' φ' h'' tk', Flows ψ' φ' h'' q.1 fl → Ext ψ φ ψ' φ' h' → St X.h₀ ψ' φ' q.2.2 h'' → Loc X.C V ψ' φ' q.2.1 h'' → Keep (V.own ++ φ) h' h'' → Q fl { s with heap := h'', toks := tk' } := fun fl ψ' φ' h'' tk' hfl x S'' hL'' k'' =>
        k fl ψ' φ' h'' tk' hfl ((Ext.refl ψ φ s.heap).trans x (live_of k'.inφ S' S.sub hL.inψ)) S'' hL'' (k'.inφ.trans k'')
      cases hp : p.1 with
      | true =>
        rw [hp] at h2
        simp only [if_true] at h2 ⊢
        exact soundSs X a _ ha ρ p.2 q h2 A { s with heap := h', toks := tk } ψ φ V E Q hR S' (hL.kept k' S.sub) fin
      | false =>
        rw [hp] at h2
        simp only [Bool.false_eq_true, if_false] at h2 ⊢
        exact soundSs X b _ hb ρ p.2 q h2 A { s with heap := h', toks := tk } ψ φ V E Q hR S' (hL.kept k' S.sub) fin
    · cases hm
  | .whl n c b, st, hm => by
    unfold matchS at hm
    split at hm
    · simp only [Bool.and_eq_true] at hm
      intro ρ μ q h
      simp only [evS] at h
      exact while_sound (soundT X c _ hm.1) (soundSs X b _ hm.2) (n ρ μ) ρ μ q h
    · cases hm
  | .forr i e b, st, hm => by
    unfold matchS at hm
    split at hm
    · simp only [Bool.and_eq_true, decide_eq_true_eq] at hm
      obtain ⟨⟨⟨⟨⟨hx, rfl⟩, hg⟩, hst⟩, he⟩, hb⟩ := hm
      intro ρ μ q h
      simp only [evS] at h
      exact for_sound hx hg hst (soundE X e _ he) (soundSs X b _ hb) ρ μ q h
    · cases hm
  | .ret e, st, hm => by
    unfold matchS at hm
    split at hm
    · intro ρ μ q h A s ψ φ V E Q hR S hL k
      simp only [evS, Option.map_eq_some_iff] at h
      obtain ⟨p, h1, rfl⟩ := h
      exact wpAny_Return_some (soundE X e _ hm ρ μ p h1 A s ψ φ V E _ hR S hL fun v h' tk hv S' k' => k (.ret v) ψ φ h' tk ⟨v, rfl, hv⟩ (Ext.refl _ _ _) S' (hL.kept k' S.sub) k'.inφ)
    · cases hm
  | .cont, st, hm => by
    unfold matchS at hm
    split at hm
    · intro ρ μ q h A s ψ φ V E Q hR S hL k
      simp only [evS, Option.some.injEq] at h
      subst h
      exact wpAny_Continue (k .cont ψ φ s.heap s.toks rfl (Ext.refl _ _ _) S hL (Keep.refl _ _))
    · cases hm
  | .compr i caps e elt, st, hm => by
    unfold matchS at hm
    split at hm
    · rename_i y py el x px r pr a rp scope pos spos
      simp only [Bool.and_eq_true, decide_eq_true_eq, Bool.not_eq_true'] at hm
      obtain ⟨⟨⟨⟨⟨⟨⟨⟨⟨h1, h2⟩, h3⟩, h4⟩, rfl⟩, h6⟩, h7⟩, h8⟩, h9⟩, h10⟩ := hm
      have K := compOk_spec h9
      intro ρ μ q h
      simp only [evS] at h
      exact compr_sound K K.kind h1 h2 h3 h4 h6 h7 (soundE X e _ h8) (soundE (X.to (compC X.C scope x caps) K.fns K.kind K.nd) elt _ h10) ρ μ q h
    · cases hm
  | .delfrom i e, st, hm => by
    unfold matchS at hm
    split at hm
    · rename_i x px lo p0 p1 p2
      intro ρ μ q h A s ψ φ V E Q hR S hL k
      simp only [Bool.and_eq_true] at hm
      obtain ⟨hx, he⟩ := hm
      simp only [evS] at h
      split at h
      · rename_i j hj
        obtain ⟨p, h1, h⟩ := Option.bind_eq_some_iff.mp h
        split at h
        · rename_i k0 xs hp hxs
          split at h
          · cases h
            rename_i hs
            refine wpAny_Delete (wpAny_deleteEach_cons (wpAny_delete_Subscript ?_))
            refine soundE X (.var i) (.Name x px) hx ρ μ (.r j, μ) (by simp [evE, hj]) A s ψ φ V E _ hR S hL fun ov h' tk hv S' k' => ?_
            obtain ⟨a, rfl, ha⟩ := hv
            refine wpAny_Slice ?_
            refine soundE X e _ he ρ μ p h1 A { s with heap := h', toks := tk } ψ φ V E _ hR S' (hL.kept k' S.sub) fun v h'' tk'' hv'' S'' k'' => ?_
            rw [hp] at hv''
            obtain ⟨t, rfl⟩ := hv''
            refine wpAny_pure (wpAny_pure ?_)
            obtain ⟨vs, hvs, hvr⟩ := S''.lst j a xs ha hxs
            have kp : ∀ b o, h''.get? b = some o → (h''.push { cls := .type "slice", data := .fields #[.int k0 t, .none, .none] }).get? b = some o := fun _ _ e => Heap.get?_push_of_some _ e
            have S3 := S''.grow kp
            have k3 : Keep φ h'' (h''.push { cls := .type "slice", data := .fields #[.int k0 t, .none, .none] }) := .of kp
            obtain ⟨us, hus, hur⟩ := S3.lst j a xs ha hxs
            have pk : IsPart (.int k0 t) (some ((k0.toNat : Nat) : Int)) := by rw [Int.toNat_of_nonneg hs.1]; exact .int k0 t
            refine delItem_from (s := { s with heap := h''.push { cls := .type "slice", data := .fields #[.int k0 t, .none, .none] }, toks := tk'' }) hus ⟨_, Heap.get?_push_size _ rfl, rfl, rfl⟩ pk (fun h4 hp4 hs4 => ?_) (by rw [hur.size]; exact hs.2)
            obtain ⟨S4, k4⟩ := S3.set (xs := xs.take k0.toNat) ha hp4 hs4 (by rw [List.toList_toArray]; exact hur.take _)
            have kk := ((k'.trans k'').trans k3).trans k4
            exact wpAny_deleteEach_nil (k .next ψ φ h4 tk'' rfl (Ext.refl _ _ _) S4 (hL.kept kk S.sub) kk.inφ)
          · cases h
        · cases h
      · cases h
    · cases hm
  | .fore i e b, st, hm => by
    unfold matchS at hm
    split at hm
    · simp only [Bool.and_eq_true] at hm
      obtain ⟨⟨hx, he⟩, hb⟩ := hm
      intro ρ μ q h
      simp only [evS] at h
      exact fore_sound hx (soundE X e _ he) (soundSs X b _ hb) ρ μ q h
    · cases hm
theorem soundSs (X : Cx prog w) : ∀ (ms : MSs) (sts : List Stmt), matchSs X.C ms sts = true → SSt X (execs sts) (evSs X.F ms)
  | .nil, sts, hm => by
    unfold matchSs at hm
    split at hm
    · intro ρ μ q h A s ψ φ V E Q hR S hL k
      simp only [evSs, Option.some.injEq] at h
      subst h
      exact wpAny_execs_nil (k .next ψ φ s.heap s.toks rfl (Ext.refl _ _ _) S hL (Keep.refl _ _))
    · cases hm
  | .cons m ms, sts, hm => by
    unfold matchSs at hm
    split at hm
    · rename_i st sts'
      intro ρ μ q h A s ψ φ V E Q hR S hL k
      simp only [Bool.and_eq_true] at hm
      simp only [evSs, Option.bind_eq_some_iff] at h
      obtain ⟨r, h1, h2⟩ := h
      refine wpAny_execs_cons (soundS X m st hm.1 ρ μ r h1 A s ψ φ V E _ hR S hL fun fl ψ' φ' h' tk hfl x S' hL' k' => ?_)
      cases hro : r.1 with
      | next =>
        rw [hro] at h2 hfl
        cases hfl
        exact soundSs X ms sts' hm.2 r.2.1 r.2.2 q h2 A { s with heap := h', toks := tk } ψ' φ' V E Q hR S' hL' fun fl ψ'' φ'' h'' tk' hfl x' S'' hL'' k'' =>
          k fl ψ'' φ'' h'' tk' hfl (x.trans x' (live_of k' S' (fun a m => x.sub a (S.sub a m)) hL'.inψ)) S'' hL'' (k'.ext x k'')
      | ret v =>
        rw [hro] at h2 hfl
        cases h2
        obtain ⟨u, rfl, hu⟩ := hfl
        exact k (.ret u) ψ' φ' h' tk (by rw [hro]; exact ⟨u, rfl, hu⟩) x S' hL' k'
      | cont =>
        rw [hro] at h2 hfl
        cases h2
        cases hfl
        exact k .cont ψ' φ' h' tk (by rw [hro]; rfl) x S' hL' k'
    · cases hm
end
end Mini

namespace Mini
open PySem PySem.Spec PySem.Calls PyProof.Rows
variable {prog : Program} {w : World}

theorem lookup_mem {β : Type} : ∀ {l : List (Str × β)} {y : Str} {v : β}, (l.map (·.1)).Nodup → (y, v) ∈ l → l.lookup y = some v
  | [], _, _, _, m => nomatch m
  | (z, u) :: r, y, v, nd, m => by
    rw [List.map_cons, List.nodup_cons] at nd
    rw [List.lookup_cons]
    rcases List.mem_cons.mp m with e | m'
    · cases e; simp
    · have : (y == z) = false := by
        rw [beq_eq_false_iff_ne]
        intro e
        subst e
        exact nd.1 (List.mem_map.mpr ⟨(y, v), m', rfl⟩)
      rw [this]
      exact lookup_mem nd.2 m'

theorem cells_acc : ∀ (names : List (Str × NameKind)) (n : Nat) (acc : List (Str × Addr)) (x : Str), (acc.lookup x).isSome = true → ((cellsFrom n names acc).lookup x).isSome = true
  | [], _, _, _, h => h
  | (y, k) :: r, n, acc, x, h => by
    unfold cellsFrom
    split
    · refine cells_acc r _ _ x ?_
      rw [List.lookup_cons]
      split
      · rfl
      · exact h
    · exact cells_acc r _ _ x h
theorem cells_some : ∀ (names : List (Str × NameKind)) (n : Nat) (acc : List (Str × Addr)) (x : Str), names.lookup x = some .cell → ((cellsFrom n names acc).lookup x).isSome = true
  | [], _, _, _, h => by cases h
  | (y, k) :: r, n, acc, x, h => by
    rw [List.lookup_cons] at h
    unfold cellsFrom
    split at h
    · rename_i hb
      cases h
      rw [if_pos (by decide)]
      refine cells_acc r _ _ x ?_
      rw [List.lookup_cons, hb]; rfl
    · split
      · exact cells_some r _ _ x h
      · exact cells_some r _ _ x h
theorem bindL_other {kd : Str → Option NameKind} : ∀ {bs : List (Str × Value)} {m : Str → Option Value} {y : Str}, y ∉ bs.map (·.1) → bindL kd bs m y = m y
  | [], _, _, _ => rfl
  | (n, v) :: r, m, y, h => by
    rw [List.map_cons, List.mem_cons, not_or] at h
    unfold bindL
    rw [bindL_other h.2]
    split
    · exact if_neg h.1
    · rfl
theorem bindC_other {kd : Str → Option NameKind} : ∀ {bs : List (Str × Value)} {m : Str → Option Value} {y : Str}, y ∉ bs.map (·.1) → bindC kd bs m y = m y
  | [], _, _, _ => rfl
  | (n, v) :: r, m, y, h => by
    rw [List.map_cons, List.mem_cons, not_or] at h
    unfold bindC
    rw [bindC_other h.2]
    split
    · rfl
    · exact if_neg h.1
theorem bindL_get {kd : Str → Option NameKind} : ∀ {bs : List (Str × Value)} {m : Str → Option Value} {y : Str} {v : Value}, (bs.map (·.1)).Nodup → (y, v) ∈ bs → kd y = some .local → bindL kd bs m y = some v
  | [], _, _, _, _, m, _ => nomatch m
  | (n, u) :: r, m, y, v, nd, hm, hk => by
    rw [List.map_cons, List.nodup_cons] at nd
    unfold bindL
    rcases List.mem_cons.mp hm with e | hm
    · cases e
      rw [bindL_other nd.1, if_pos hk]; simp
    · exact bindL_get nd.2 hm hk
theorem bindC_get {kd : Str → Option NameKind} : ∀ {bs : List (Str × Value)} {m : Str → Option Value} {y : Str} {v : Value}, (bs.map (·.1)).Nodup → (y, v) ∈ bs → kd y = some .cell → bindC kd bs m y = some v
  | [], _, _, _, _, m, _ => nomatch m
  | (n, u) :: r, m, y, v, nd, hm, hk => by
    rw [List.map_cons, List.nodup_cons] at nd
    unfold bindC
    rcases List.mem_cons.mp hm with e | hm
    · cases e
      rw [bindC_other nd.1, if_neg (by rw [hk]; decide)]; simp
    · exact bindC_get nd.2 hm hk

section
variable {h₀ h h₁ : Heap} {ψ φ : List Addr} {μ : Mu}
theorem VR.enter {own : List Addr} (k : ∀ b o, h.get? b = some o → h₁.get? b = some o) (hd : ∀ a ∈ own, h.get? a = none) {x : PyData} {v : Value} (e : VR ψ h x v) : VR (own ++ ψ) h₁ x v :=
  VR.keep (κ := []) (.of k) (fun a n ⟨o, e⟩ => ⟨fun m => by
    rcases List.mem_append.mp m with m | m
    · rw [hd a m] at e; cases e
    · exact n m, fun m => nomatch m⟩) e
theorem St.enter (S : St h₀ ψ φ μ h) {own : List Addr} (k : ∀ b o, h.get? b = some o → h₁.get? b = some o) (hd : ∀ a ∈ own, h.get? a = none) (hl : ∀ a ∈ own, ∃ o, h₁.get? a = some o) : St h₀ (own ++ ψ) φ μ h₁ := by
  have ks : ∀ a, a ∉ ψ → (∃ o, h.get? a = some o) → a ∉ (own ++ ψ) ∧ a ∉ ([] : List Addr) := fun a n ⟨o, e⟩ => ⟨fun m => by
    rcases List.mem_append.mp m with m | m
    · rw [hd a m] at e; cases e
    · exact n m, fun m => nomatch m⟩
  refine ⟨fun b o e => k b o (S.base b o e), fun b hb => ?_, fun b hb => ?_, fun b hb => List.mem_append_right _ (S.sub b hb), S.nd, S.len, fun i a xs e q => ?_⟩
  · rcases List.mem_append.mp hb with hb | hb
    · cases q : h₀.get? b with
      | none => rfl
      | some o => have := hd b hb; rw [S.base _ _ q] at this; cases this
    · exact S.off b hb
  · rcases List.mem_append.mp hb with hb | hb
    · exact hl b hb
    · obtain ⟨o, e⟩ := S.live b hb; exact ⟨o, k b o e⟩
  · obtain ⟨vs, hq, hv⟩ := S.lst i a xs e q
    exact ⟨vs, hq.at (k a), hv.keep (κ := []) (.of k) ks⟩
theorem St.leave {ψ' e : List Addr} {μ' : Mu} {h' : Heap} (S : St h₀ ψ' (φ ++ e) μ' h') (sub : ∀ a ∈ ψ, a ∈ ψ') (hφ : ∀ a ∈ φ, a ∈ ψ) : St h₀ ψ φ (μ'.take φ.length) h' := by
  have ks : ∀ a, a ∉ ψ' → (∃ o, h'.get? a = some o) → a ∉ ψ ∧ a ∉ ([] : List Addr) := fun a n _ => ⟨fun m => n (sub a m), fun m => nomatch m⟩
  have hlen := S.len
  rw [List.length_append] at hlen
  refine ⟨S.base, fun a m => S.off a (sub a m), fun a m => S.live a (sub a m), hφ, (List.nodup_append.mp S.nd).1, by rw [List.length_take]; omega, fun i a xs e1 q => ?_⟩
  have hi := (List.getElem?_eq_some_iff.mp e1).1
  rw [List.getElem?_take, if_pos hi] at q
  obtain ⟨vs, hp, hv⟩ := S.lst i a xs (by rw [List.getElem?_append_left hi]; exact e1) q
  exact ⟨vs, hp, hv.keep (κ := []) (Keep.refl _ _) ks⟩
end

structure Def (X : Cx prog w) (x : Str) (np nl : Nat) (ms : MSs) : Prop where
  it : ∃ a o params body pm code doc, X.mg x = some (.ref a) ∧ X.h₀.get? a = some o ∧ o.data = .func (docDef x params body X.C.scope pm code doc) ∧ X.h₀.CodeRec code x ∧
    matchSs X.C ms body = true ∧ (∀ vs : List Value, vs.length = np → bindArgs (docDef x params body X.C.scope pm code doc) ⟨vs, []⟩ = pure ((X.C.names.take np).zip vs))
  len : X.C.names.length = np + nl
  loc : ∀ y ∈ X.C.names.take np, X.C.scope.names.lookup y = some .local ∨ X.C.scope.names.lookup y = some .cell
  co : X.C.scope.isCoroutine = false
  gen : X.C.scope.isGenerator = false

theorem fn_ok {X : Cx prog w} {x : Str} {np nl : Nat} {ms : MSs} (D : Def X x np nl ms) : FnOK prog w X.h₀ X.mg (X.n + 1) x (fun args μ => if args.length = np then fnOf X.F nl ms args μ else none) := by
  obtain ⟨⟨a, o, params, body, pm, code, doc, hmg, ho, hd, hcd, hm, hbind⟩, hlen, hloc, hco, hgen⟩ := D
  refine ⟨a, o, _, hmg, ho, hd, fun A s ψ φ μ mvs vs d μ' R hR S hv hf k => ?_⟩
  simp only at hf
  split at hf
  · rename_i hn
    unfold fnOf at hf
    obtain ⟨q, hq, hf⟩ := Option.bind_eq_some_iff.mp hf
    have hvl : vs.length = np := by rw [hv.length, hn]
    refine codeAny_call_function (by have := hR.depth; omega) (S.base a o ho) hd hco hgen rfl (hcd.keeps S.base) (BindsTo.of_eq (hbind vs hvl) _ _ _ _ ?_)
    refine wpAny_newFunctionEnv_cells X.hk (fun y hy => ?_) fun env' he s' x' => ?_
    · rcases hloc y.1 (List.of_mem_zip (b := y.2) hy).1 with h1 | h1
      · exact .inl h1
      · exact .inr ⟨h1, cells_some _ _ _ _ h1⟩
    · obtain ⟨h₁, tk, rfl, _⟩ := x'.done
      have hk₁ : ∀ b o, s.heap.get? b = some o → h₁.get? b = some o := x'.toInCall.keep
      have hLe : env'.locals = s.heap.objs.size := by rw [he]; rfl
      have hcs : env'.cells = cellsFrom (s.heap.objs.size + 1) X.C.scope.names [] := by rw [he]; rfl
      have dead : ∀ b, s.heap.objs.size ≤ b → s.heap.get? b = none := fun b hb => by
        cases hq : s.heap.get? b with
        | none => rfl
        | some o => exact absurd (Heap.lt_size hq) (Nat.not_lt.mpr hb)
      obtain ⟨own, hown⟩ : ∃ own, own = env'.locals :: (env'.cells.filter fun p => decide (env'.cells.lookup p.1 = some p.2)).map (·.2) := ⟨_, rfl⟩
      have hnd : (((X.C.names.take np).zip vs).map (·.1)).Nodup := by
        rw [List.map_fst_zip (by rw [List.length_take, hvl]; omega)]
        exact X.nd.sublist (List.take_sublist _ _)
      have hdead : ∀ b ∈ own, s.heap.get? b = none := fun b hb => by
        subst hown
        rcases List.mem_cons.mp hb with rfl | hb
        · exact dead _ (Nat.le_of_eq hLe.symm)
        · obtain ⟨p, hp, rfl⟩ := List.mem_map.mp hb
          have := x'.above p.1 p.2 (List.mem_filter.mp hp).1
          exact dead _ (hLe ▸ Nat.le_of_lt this)
      have cellLive : ∀ n c, env'.cells.lookup n = some c → h₁.IsCell c (bindC env'.kindOf ((X.C.names.take np).zip vs) (fun _ => none) n) := x'.cell
      have hlive : ∀ b ∈ own, ∃ o, h₁.get? b = some o := fun b hb => by
        subst hown
        rcases List.mem_cons.mp hb with rfl | hb
        · obtain ⟨o, _, _, e, _⟩ := x'.toInCall.ns; exact ⟨o, e⟩
        · obtain ⟨p, hp, rfl⟩ := List.mem_map.mp hb
          obtain ⟨o, e, _⟩ := cellLive p.1 p.2 (of_decide_eq_true (List.mem_filter.mp hp).2)
          exact ⟨o, e⟩
      have S₁ : St X.h₀ (own ++ ψ) φ μ h₁ := S.enter hk₁ hdead hlive
      have hkd : env'.scope.names = X.C.scope.names := by rw [he]; rfl
      have hkind : env'.scope.kind = .function := by rw [he]; exact X.hk
      have hR' : Room X.n (A.deeper env') := ⟨hR.handled, by have := hR.depth; show A.depth + 1 + X.n < _; omega, by have := hR.units; show A.units + 3 + 4 * X.n + 70 < _; omega⟩
      have hko : ∀ y k, X.C.scope.names.lookup y = some k → env'.kindOf y = some k := fun y k e => by unfold Env.kindOf; rw [hkd]; exact e
      have hL₁ : Loc X.C ⟨env', own⟩ (own ++ ψ) φ (mvs.map some ++ List.replicate nl none) h₁ := by
        refine ⟨_, x'.toInCall.ns, hkind, hkd, by rw [he]; rfl, by rw [he]; rfl, by rw [hown]; exact .head _, fun b hb => ⟨List.mem_append_left _ hb, fun m => ?_⟩, fun y hy => ?_, fun y z c h1 h2 => name_of_addr x'.apart (mem_of_lookup h1) (mem_of_lookup h2), fun i mv e => ?_⟩
        · obtain ⟨o, e⟩ := S.live b (S.sub b m)
          rw [hdead b hb] at e; cases e
        · obtain ⟨c, hc⟩ := Option.isSome_iff_exists.mp (cells_some X.C.scope.names (s.heap.objs.size + 1) [] y hy)
          rw [← hcs] at hc
          refine ⟨c, _, hc, ?_, fun e => ?_, cellLive y c hc⟩
          · rw [hown]; exact .tail _ (List.mem_map.mpr ⟨(y, c), List.mem_filter.mpr ⟨mem_of_lookup hc, decide_eq_true hc⟩, rfl⟩)
          · have := x'.above y c (mem_of_lookup hc)
            exact Nat.lt_irrefl _ (e ▸ this)
        · have hi : i < mvs.length := by
            apply Nat.lt_of_not_le
            intro hge
            rw [List.getElem?_append_right (by simpa using hge), List.getElem?_replicate] at e
            split at e <;> cases e
          rw [List.getElem?_append_left (by simpa using hi), List.getElem?_map] at e
          obtain ⟨mv', e1, e2⟩ := Option.map_eq_some_iff.mp e
          cases e2
          obtain ⟨v, hv1, hv2⟩ := hv.get e1
          have hin : i < X.C.names.length := by omega
          have hz : ((X.C.names.take np).zip vs)[i]? = some (X.C.names[i], v) := by
            rw [List.getElem?_zip_eq_some]
            exact ⟨by rw [List.getElem?_take, if_pos (by omega), List.getElem?_eq_getElem hin], hv1⟩
          have hz' := List.mem_of_getElem? hz
          refine ⟨X.C.names[i], v, List.getElem?_eq_getElem hin, ?_, ?_⟩
          · rcases hloc X.C.names[i] (List.of_mem_zip hz').1 with h1 | h1
            · exact .inl ⟨h1, bindL_get hnd hz' (hko _ _ h1)⟩
            · obtain ⟨c, hc⟩ := Option.isSome_iff_exists.mp (cells_some X.C.scope.names (s.heap.objs.size + 1) [] _ h1)
              rw [← hcs] at hc
              exact .inr ⟨h1, c, hc, by have := cellLive _ c hc; rw [bindC_get hnd hz' (hko _ _ h1)] at this; exact this⟩
          · cases mv with
            | d y => exact VR.enter hk₁ hdead hv2
            | r j => exact hv2
      refine ⟨(X.G.nolimit.keeps S.base).keeps hk₁, codeAny_func ?_⟩
      refine soundSs X ms body hm _ μ q hq _ { s with heap := h₁, toks := tk } (own ++ ψ) φ ⟨env', own⟩ _ _ hR' S₁ hL₁ fun fl ψ' φ' h' tk' hfl hx S' hL' k' => ?_
      obtain ⟨e, rfl, hex⟩ := hx.app
      have hsub : ∀ b ∈ ψ, b ∈ ψ' := fun b m => hx.sub b (List.mem_append_right _ m)
      have S'' := S'.leave hsub S.sub
      have kk : Keep φ s.heap h' := fun b o e n => k' b o (hk₁ b o e) fun m => by
        rcases List.mem_append.mp m with m | m
        · rw [hdead b m] at e; cases e
        · exact n m
      have ks : ∀ b, b ∉ ψ' → (∃ o, h'.get? b = some o) → b ∉ ψ ∧ b ∉ ([] : List Addr) := fun b n _ => ⟨fun m => n (hsub b m), fun m => nomatch m⟩
      rw [S.len] at S''
      split at hf
      · rename_i hq1
        cases hf
        rw [hq1] at hfl
        cases hfl
        exact k _ h' tk' rfl S'' kk
      · cases hf
      · rename_i y hq1
        cases hf
        rw [hq1] at hfl
        obtain ⟨v, rfl, hv⟩ := hfl
        exact k v h' tk' (VR.keep (κ := []) (Keep.refl _ _) ks hv) S'' kk
      · rename_i i hq1
        split at hf
        · rename_i hle
          obtain ⟨xs, hxs, e2⟩ := Option.map_eq_some_iff.mp hf
          cases e2
          rw [hq1] at hfl
          obtain ⟨v, rfl, b, rfl, hb⟩ := hfl
          obtain ⟨us, hp, hus⟩ := S'.lst i b xs hb hxs
          refine k _ h' tk' ⟨b, us, rfl, hp.isList, fun m => ?_, hus.keep (κ := []) (Keep.refl _ _) ks⟩ S'' kk
          rw [List.getElem?_append_right (by rw [S.len]; exact hle)] at hb
          have h1 := hex b (List.mem_of_getElem? hb)
          obtain ⟨o, h2⟩ := S.live b m
          have h3 := hk₁ b o h2
          rw [h1] at h3; cases h3
        · cases hf
  · cases hf
end Mini

namespace Mini
open PySem PySem.Spec PySem.Calls PyProof.Rows PySem.W
variable {prog : Program} {w : World}

/-- a def of the text, in its Mini form -/
structure FD where
  name : Str
  np : Nat
  nl : Nat
  names : List Str
  body : MSs

def argNames? : Arguments → Option (List Str)
  | ⟨[], as, none, [], [], none, []⟩ => some (as.map (·.arg))
  | _ => none

def checkDef (fns : List Str) (f : FD) (r : DefRec) : Bool :=
  decide (r.name = f.name) && decide (argNames? r.params = some (f.names.take f.np)) && decide (f.names.length = f.np + f.nl) && decide f.names.Nodup &&
  decide (r.scope.kind = .function) && !r.scope.isCoroutine && !r.scope.isGenerator &&
  (f.names.take f.np).all (fun y => decide (r.scope.names.lookup y = some .local) || decide (r.scope.names.lookup y = some .cell)) && matchSs ⟨f.names, r.scope, fns⟩ f.body r.body

def semOf (fs : List (Str × Fn)) (f : FD) : Str × Fn := (f.name, fun args μ => if args.length = f.np then fnOf (fs.map (·.2)) f.nl f.body args μ else none)
def sems : List FD → List (Str × Fn) → List (Str × Fn)
  | [], fs => fs
  | f :: r, fs => sems r (fs ++ [semOf fs f])
def checkAll (q : Program) : List FD → List Str → Bool
  | [], _ => true
  | f :: r, fns => (recsOf q).any (checkDef fns f) && checkAll q r (fns ++ [f.name])
def checkBi (q : Program) (loose : List Str) : Bool :=
  builtinsUsed.all fun p => decide (p.1 ∉ startupNames) && decide (p.1 ∉ loose) && decide (p.1 ∉ (recsOf q).map (·.name)) && decide (p.1 ∉ (litsOf q).map (·.1)) && decide (p.1 ∉ (clssOf q loose).map (·.name)) && decide (p.1 ≠ ("__name__" : Str)) && decide (bootBuiltins p.1 = some p.2)

theorem zip_lookup : ∀ (ks : List Str) (vs : List Value), ks.Nodup → vs.length = ks.length → (ks.filterMap fun n => ((ks.zip vs).lookup n).map (n, ·)) = ks.zip vs := by
  intro ks vs nd hl
  have key : ∀ (l : List Str) (us : List Value), us.length = l.length → (∀ p ∈ l.zip us, (ks.zip vs).lookup p.1 = some p.2) → (l.filterMap fun n => ((ks.zip vs).lookup n).map (n, ·)) = l.zip us := by
    intro l
    induction l with
    | nil => intro us h _; cases us <;> rfl
    | cons x l ih =>
      intro us h hp
      cases us with
      | nil => cases h
      | cons u us =>
        have h1 := hp (x, u) (List.mem_cons_self ..)
        rw [List.zip_cons_cons, List.filterMap_cons, h1]
        simp only [Option.map_some]
        rw [ih us (by simpa using h) fun p m => hp p (List.mem_cons_of_mem _ m)]
  refine key ks vs hl fun p m => lookup_mem ?_ m
  rw [List.map_fst_zip (by omega)]
  exact nd

theorem bind_plain {x : Str} {params : Arguments} {body : List Stmt} {scope : Scope} {pm code doc : Value} {ns : List Str} {vs : List Value} (hp : argNames? params = some ns) (nd : ns.Nodup) (hv : vs.length = ns.length) :
    bindArgs (docDef x params body scope pm code doc) ⟨vs, []⟩ = pure (ns.zip vs) := by
  unfold argNames? at hp
  split at hp
  · rename_i as
    cases hp
    have hz : ∀ n ∈ as.map (·.arg), (((as.map (·.arg)).zip vs).lookup n).isNone = false := by
      intro n hn
      obtain ⟨i, hi, e⟩ := List.mem_iff_getElem.mp hn
      have hv' : i < vs.length := by rw [hv]; exact hi
      have : ((as.map (·.arg)).zip vs).lookup n = some vs[i] := by
        refine lookup_mem (by rw [List.map_fst_zip (by omega)]; exact nd) ?_
        refine List.mem_iff_getElem.mpr ⟨i, by rw [List.length_zip]; omega, ?_⟩
        rw [List.getElem_zip, e]
      rw [this]; rfl
    have hmiss : ((as.map (·.arg)).filter (fun n => (((as.map (·.arg)).zip vs).lookup n).isNone)) = [] := by
      rw [List.filter_eq_nil_iff]
      intro n hn
      rw [hz n hn]
      simp
    have hlen : ¬ vs.length > (as.map (·.arg)).length := by omega
    have hs : seqItems? Value.none = pure none := rfl
    unfold bindArgs
    simp only [docDef, List.map_nil, List.nil_append, List.append_nil, List.forIn_nil, pure_bind, hs, hlen]
    simp only [decide_false, Bool.false_and, Bool.false_eq_true, if_false, Option.getD_none, List.drop_nil, List.length_nil, Nat.sub_zero, List.take_length, hmiss, List.isEmpty_nil, Bool.not_true, List.drop_length, List.zip_nil_right, List.forIn_nil, pure_bind]
    exact congrArg pure (zip_lookup _ vs nd hv)
  · cases hp

theorem FnOK.more {h₀ : Heap} {mg : Str → Option Value} {n : Nat} {x : Str} {f : Fn} (h : FnOK prog w h₀ mg n x f) : FnOK prog w h₀ mg (n + 1) x f := by
  obtain ⟨a, o, fd, h1, h2, h3, h4⟩ := h
  exact ⟨a, o, fd, h1, h2, h3, fun A s ψ φ μ mvs vs d μ' R hR => h4 A s ψ φ μ mvs vs d μ' R ⟨hR.handled, by have := hR.depth; omega, by have := hR.units; omega⟩⟩

section top
variable {q : Program} {loose : List Str} {mean : ExcName → Option Value} {mg mb : Str → Option Value} {h₀ : Heap}

theorem gf_step (T : Top q loose mean mg mb h₀) {fs : List (Str × Fn)} {n : Nat} (G : GF prog w h₀ mg mb fs n) {f : FD} (hc : (recsOf q).any (checkDef (fs.map (·.1)) f) = true) : GF prog w h₀ mg mb (fs ++ [semOf fs f]) (n + 1) := by
  obtain ⟨r, hr, hc⟩ := List.any_eq_true.mp hc
  unfold checkDef at hc
  simp only [Bool.and_eq_true, Bool.or_eq_true, decide_eq_true_eq, Bool.not_eq_true', List.all_eq_true] at hc
  obtain ⟨⟨⟨⟨⟨⟨⟨⟨hname, hargs⟩, hlen⟩, hnd⟩, hk⟩, hco⟩, hgen⟩, hloc⟩, hm⟩ := hc
  let X : Cx prog w := ⟨h₀, mg, mb, fs, n, ⟨f.names, r.scope, fs.map (·.1)⟩, G, rfl, hk, hnd⟩
  have D : Def X f.name f.np f.nl f.body := by
    refine ⟨?_, hlen, hloc, hco, hgen⟩
    obtain ⟨a, o, pm, code, doc, h1, h2, h3, h4⟩ := T.fn r hr
    rw [hname] at h1 h3 h4
    exact ⟨a, o, r.params, r.body, pm, code, doc, h1, h2, h3, h4, hm, fun vs hv => bind_plain hargs (hnd.sublist (List.take_sublist _ _)) (by rw [hv, List.length_take, hlen]; omega)⟩
  have ok := fn_ok D
  refine ⟨G.g, G.b, G.nolimit, G.bi, fun i x g e => ?_⟩
  by_cases hi : i < fs.length
  · rw [List.getElem?_append_left hi] at e
    exact (G.fn i x g e).more
  · rw [List.getElem?_append_right (Nat.le_of_not_lt hi)] at e
    have e0 : i - fs.length = 0 := by
      cases hq : i - fs.length with
      | zero => rfl
      | succ m => rw [hq] at e; cases e
    rw [e0] at e
    cases e
    exact ok
theorem gf_all (T : Top q loose mean mg mb h₀) : ∀ (fds : List FD) (fs : List (Str × Fn)) (n : Nat), GF prog w h₀ mg mb fs n → checkAll q fds (fs.map (·.1)) = true → GF prog w h₀ mg mb (sems fds fs) (n + fds.length)
  | [], _, _, G, _ => G
  | f :: r, fs, n, G, hc => by
    have hc' : ((recsOf q).any (checkDef (fs.map (·.1)) f) && checkAll q r (fs.map (·.1) ++ [f.name])) = true := hc
    obtain ⟨h1, h2⟩ := Bool.and_eq_true_iff.mp hc'
    have e : (fs ++ [semOf fs f]).map (·.1) = fs.map (·.1) ++ [f.name] := by simp [semOf]
    have := gf_all T r (fs ++ [semOf fs f]) (n + 1) (gf_step T G h1) (by rw [e]; exact h2)
    rw [List.length_cons, ← Nat.add_assoc, Nat.add_right_comm]
    exact this
theorem gf_start (T : Top q loose mean mg mb h₀) (hb : checkBi q loose = true) : GF prog w h₀ mg mb [] 0 := by
  refine ⟨T.g, T.b, T.nolimit, fun p hp => ?_, fun i x f e => by cases e⟩
  have := List.all_eq_true.mp hb p hp
  simp only [Bool.and_eq_true, decide_eq_true_eq] at this
  obtain ⟨⟨⟨⟨⟨⟨h1, h2⟩, h3⟩, h4⟩, h5⟩, h6⟩, h7⟩ := this
  exact ⟨T.free p.1 h1 h2 h3 h4 h5, (T.builtins p.1 h6).trans h7⟩

theorem ints_vr {h : Heap} : ∀ {vs : List Value} {ns : List Int}, IntsAre vs ns → VRs [] h (ns.map .int) vs
  | _, _, .nil => rfl
  | _, _, .cons _ t r => ⟨_, _, rfl, ⟨t, rfl⟩, ints_vr r⟩

/-- the law's call gives True -/
theorem law_call (T : Top q loose mean mg mb h₀) (fds : List FD) (hb : checkBi q loose = true) (hc : checkAll q fds [] = true) (hlen : fds.length < 100) {s : Shared} (hs : s.heap = h₀) {fa a : Addr} {x : Str} {f : Fn} {vs : List Value} {ns : List Int}
    (hmg : mg x = some (.ref fa)) (hx : ∃ i : Nat, (sems fds [])[i]? = some (x, f)) (hl : s.heap.IsList a vs.toArray) (hi : IntsAre vs ns) (hf : f [.d (.list (ns.map .int))] [] = some (.bool true, []))
    {Q E : Value → Shared → Prop} (k : ∀ h' tk, (∀ b o, s.heap.get? b = some o → h'.get? b = some o) → Q (.bool true) { s with heap := h', toks := tk }) :
    wpAny (model prog w) callerA (call (.ref fa) [.ref a]) Q E s := by
  obtain ⟨i, hx⟩ := hx
  obtain ⟨a', o, fd, h1, h2, h3, h4⟩ := (gf_all (prog := prog) (w := w) T fds [] 0 (gf_start T hb) hc).fn i x f hx
  rw [hmg] at h1
  cases h1
  subst hs
  refine wpAny_call (h4 callerA s [] [] [] [.d (.list (ns.map .int))] [.ref a] (.bool true) [] _ ⟨rfl, ?_, ?_⟩ ⟨fun _ _ e => e, fun _ m => (nomatch m), fun _ m => (nomatch m), fun _ m => (nomatch m), List.nodup_nil, rfl, fun i a xs e => by cases e⟩ ⟨_, [], rfl, ⟨a, vs.toArray, rfl, hl, fun m => (nomatch m), by simpa using ints_vr hi⟩, rfl⟩ hf fun v h' tk hv _ hk => ?_)
  · show 1 + claimMargin + (0 + fds.length) < recursionLimit
    have : claimMargin ≤ 300 := by decide
    have : recursionLimit = 1000 := rfl
    omega
  · show 4 + 4 * (0 + fds.length) + 70 < cLine
    have : cLine = 9900 := rfl
    omega
  · cases hv
    exact k h' tk fun b o e => hk b o e fun m => nomatch m
end top
end Mini

namespace Mini
open PySem PySem.W PyProof.Rows
theorem good_true {c : ClaimW} {cl : Str → Option Addr} {mean : ExcName → Option Value} {args : List WData} {s₁ : Shared} {h' : Heap} {tk : Nat} (hg : s₁.gens = #[]) (hn : ∀ cls, c.raises args cls = false) (hp : c.post args (.bool true) args = true)
    (hk : ∀ b o, s₁.heap.get? b = some o → h'.get? b = some o) : GoodWG c cl mean args s₁ (.ok (.ret (.bool true))) { s₁ with heap := h', toks := tk } :=
  GoodW.toG ⟨.inl ⟨.bool true, .bool true, [], rfl, hn, .bool true, hp, fun _ => ⟨List.nodup_nil, fun _ m => nomatch m⟩⟩, hk, rfl, hg⟩
theorem post_true {l : OpenLaw} {args : List WData} : l.row.post.value l.row.records { args := args, res := some (.bool true), after := args } = some (.bool true) := by
  show WTm.value [] (.eq .res (.lit (.bool true))) _ = _
  simp [WTm.value, same]
theorem law_good {l : OpenLaw} {cl : Str → Option Addr} {mean : ExcName → Option Value} {args : List WData} {s₁ : Shared} {h' : Heap} {tk : Nat} (hg : s₁.gens = #[])
    (hk : ∀ b o, s₁.heap.get? b = some o → h'.get? b = some o) : GoodWG l.row.claim cl mean args s₁ (.ok (.ret (.bool true))) { s₁ with heap := h', toks := tk } :=
  good_true hg (raisesW_false allW_false_nil) (postW_of (X := true) rfl post_true rfl) hk
end Mini

namespace Mini
open PySem

section
variable {F : List Fn} {ρ ρ₁ : Rho} {μ μ₁ μ₂ μ₃ : Mu} {a b c e : ME} {es : MEs} {op : Operator} {x y z u : MV} {dx dy dz du : PyData} {p q : MV × Mu}

theorem e_var {i : Nat} (h : ρ[i]?.join = some x) : evE F (.var i) ρ μ = some (x, μ) := by simp only [evE, h]; rfl
theorem e_none : evE F .none ρ μ = some (.d .none, μ) := by simp only [evE]
theorem e_bool {v : Bool} : evE F (.bool v) ρ μ = some (.d (.bool v), μ) := by simp only [evE]
theorem e_int {v : Int} : evE F (.int v) ρ μ = some (.d (.int v), μ) := by simp only [evE]
theorem e_str {v : Str} : evE F (.str v) ρ μ = some (.d (.str v), μ) := by simp only [evE]
theorem e_bin (ha : evE F a ρ μ = some (x, μ₁)) (hb : evE F b ρ μ₁ = some (y, μ₂)) (hx : rd μ₂ x = some dx) (hy : rd μ₂ y = some dy) (hz : binD op dx dy = some dz) : evE F (.bin op a b) ρ μ = some (.d dz, μ₂) := by
  simp only [evE, ha, hb, hx, hy, hz, Option.bind_some, Option.map_some]
theorem e_cmp {op : CmpOp} {r : Bool} (ha : evE F a ρ μ = some (x, μ₁)) (hb : evE F b ρ μ₁ = some (y, μ₂)) (hx : rd μ₂ x = some dx) (hy : rd μ₂ y = some dy) (hz : cmpD op dx dy = some r) : evE F (.cmp op a b) ρ μ = some (.d (.bool r), μ₂) := by
  simp only [evE, ha, hb, hx, hy, hz, Option.bind_some, Option.map_some]
theorem e_idx (ha : evE F a ρ μ = some (x, μ₁)) (hb : evE F b ρ μ₁ = some (y, μ₂)) (hx : rd μ₂ x = some dx) (hy : rd μ₂ y = some dy) (hz : idxD dx dy = some dz) : evE F (.idx a b) ρ μ = some (.d dz, μ₂) := by
  simp only [evE, ha, hb, hx, hy, hz, Option.bind_some, Option.map_some]
theorem e_slc (ha : evE F a ρ μ = some (x, μ₁)) (hb : evE F b ρ μ₁ = some (y, μ₂)) (hc : evE F c ρ μ₂ = some (z, μ₃)) (hx : rd μ₃ x = some dx) (hy : rd μ₃ y = some dy) (hz : rd μ₃ z = some dz) (hu : slcD dx dy dz = some du) : evE F (.slc a b c) ρ μ = some (.d du, μ₃) := by
  simp only [evE, ha, hb, hc, hx, hy, hz, hu, Option.bind_some, Option.map_some]
theorem e_bin' (ha : evE F a ρ μ = some (.d dx, μ₁)) (hb : evE F b ρ μ₁ = some (.d dy, μ₂)) (hz : binD op dx dy = some dz) : evE F (.bin op a b) ρ μ = some (.d dz, μ₂) := e_bin ha hb rfl rfl hz
theorem e_cmp' {op : CmpOp} {r : Bool} (ha : evE F a ρ μ = some (.d dx, μ₁)) (hb : evE F b ρ μ₁ = some (.d dy, μ₂)) (hz : cmpD op dx dy = some r) : evE F (.cmp op a b) ρ μ = some (.d (.bool r), μ₂) := e_cmp ha hb rfl rfl hz
theorem e_idx' (ha : evE F a ρ μ = some (.d dx, μ₁)) (hb : evE F b ρ μ₁ = some (.d dy, μ₂)) (hz : idxD dx dy = some dz) : evE F (.idx a b) ρ μ = some (.d dz, μ₂) := e_idx ha hb rfl rfl hz
theorem e_slc' (ha : evE F a ρ μ = some (.d dx, μ₁)) (hb : evE F b ρ μ₁ = some (.d dy, μ₂)) (hc : evE F c ρ μ₂ = some (.d dz, μ₃)) (hu : slcD dx dy dz = some du) : evE F (.slc a b c) ρ μ = some (.d du, μ₃) := e_slc ha hb hc rfl rfl rfl hu
theorem e_tup {vs : List MV} {xs : List PyData} (h : evL F es ρ μ = some (vs, μ₁)) (hx : allD vs = some xs) (hl : xs.length ≤ 16777216) : evE F (.tup es) ρ μ = some (.d (.tuple xs), μ₁) := by
  simp only [evE, h, hx, Option.bind_some, if_pos hl]
theorem e_lst {vs : List MV} {xs : List PyData} (h : evL F es ρ μ = some (vs, μ₁)) (hx : allD vs = some xs) (hl : xs.length ≤ 16777216) : evE F (.lst es) ρ μ = some (.d (.list xs), μ₁) := by
  simp only [evE, h, hx, Option.bind_some, if_pos hl]
theorem e_ite_t {t : MT} (hc : evB F t ρ μ = some (true, μ₁)) (h : evE F a ρ μ₁ = some p) : evE F (.ite t a b) ρ μ = some p := by
  simp only [evE, hc, h, Option.bind_some, if_true]
theorem e_ite_f {t : MT} (hc : evB F t ρ μ = some (false, μ₁)) (h : evE F b ρ μ₁ = some p) : evE F (.ite t a b) ρ μ = some p := by
  simp only [evE, hc, h, Option.bind_some]; rfl
theorem e_bop {op : BoolOp} (ha : evE F a ρ μ = some p) (h : evV F op es p ρ = some q) : evE F (.bop op a es) ρ μ = some q := by
  simp only [evE, ha, h, Option.bind_some]
theorem v_nil {op : BoolOp} : evV F op .nil p ρ = some p := by simp only [evV]
theorem v_stop {op : BoolOp} {r : Bool} (hr : r = (op == .Or)) : evV F op (.cons e es) (.d (.bool r), μ) ρ = some (.d (.bool r), μ) := by
  subst hr
  simp only [evV, rd, truth, Option.bind_some]
  cases op <;> rfl
theorem v_on {op : BoolOp} {r : Bool} (hr : r = (op != .Or)) (he : evE F e ρ μ = some q) (h : evV F op es q ρ = some p) : evV F op (.cons e es) (.d (.bool r), μ) ρ = some p := by
  subst hr
  simp only [evV, rd, truth, Option.bind_some, he]
  cases op <;> exact h
theorem e_call {g : Nat} {vs : List MV} {f : Fn} (h : evL F es ρ μ = some (vs, μ₁)) (hf : F[g]? = some f) (hr : f vs μ₁ = some (dx, μ₂)) : evE F (.call g es) ρ μ = some (.d dx, μ₂) := by
  simp only [evE, h, hf, hr, Option.bind_some, Option.map_some]
theorem e_prim {k : Prim} {vs : List MV} {xs : List PyData} (h : evL F es ρ μ = some (vs, μ₁)) (hx : rdAll μ₁ vs = some xs) (hz : primD k xs = some dz) : evE F (.prim k es) ρ μ = some (.d dz, μ₁) := by
  simp only [evE, h, hx, hz, Option.bind_some, Option.map_some]
theorem e_prim1 {k : Prim} (h : evE F a ρ μ = some (.d dx, μ₁)) (hz : primD k [dx] = some dz) : evE F (.prim k (.cons a .nil)) ρ μ = some (.d dz, μ₁) := by
  simp only [evE, evL, h, rdAll, rd, hz, Option.bind_some, Option.map_some, Option.bind_eq_bind]
theorem e_prim2 {k : Prim} (h : evE F a ρ μ = some (.d dx, μ₁)) (hb : evE F b ρ μ₁ = some (.d dy, μ₂)) (hz : primD k [dx, dy] = some dz) : evE F (.prim k (.cons a (.cons b .nil))) ρ μ = some (.d dz, μ₂) := by
  simp only [evE, evL, h, hb, rdAll, rd, hz, Option.bind_some, Option.map_some, Option.bind_eq_bind]
theorem e_isBool {r : Bool} (h : evE F a ρ μ = some (.d (.bool r), μ₁)) : evE F (.isBool a) ρ μ = some (.d (.bool true), μ₁) := by
  simp only [evE, h, Option.bind_some]
theorem l_nil : evL F .nil ρ μ = some ([], μ) := by simp only [evL]
theorem l_cons {vs : List MV} (h : evE F e ρ μ = some (x, μ₁)) (hs : evL F es ρ μ₁ = some (vs, μ₂)) : evL F (.cons e es) ρ μ = some (x :: vs, μ₂) := by
  simp only [evL, h, hs, Option.bind_some, Option.map_some]
theorem b_val {r : Bool} (h : evE F e ρ μ = some (.d (.bool r), μ₁)) : evB F (.val e) ρ μ = some (r, μ₁) := by
  simp only [evB, h, rd, truth, Option.bind_some, Option.map_some]
theorem b_not_t {t : MT} (h : evB F t ρ μ = some (false, μ₁)) : evB F (.not t) ρ μ = some (true, μ₁) := by simp only [evB, h, Option.map_some]; rfl
theorem b_not_f {t : MT} (h : evB F t ρ μ = some (true, μ₁)) : evB F (.not t) ρ μ = some (false, μ₁) := by simp only [evB, h, Option.map_some]; rfl
theorem b_bop {op : BoolOp} {ts : MTs} {r : Option (Bool × Mu)} (h : evBs F op ts ρ μ = r) : evB F (.bop op ts) ρ μ = r := by simp only [evB, h]
theorem bs_and_nil : evBs F .And .nil ρ μ = some (true, μ) := by simp only [evBs]; rfl
theorem bs_or_nil : evBs F .Or .nil ρ μ = some (false, μ) := by simp only [evBs]; rfl
theorem bs_and_f {t : MT} {ts : MTs} (h : evB F t ρ μ = some (false, μ₁)) : evBs F .And (.cons t ts) ρ μ = some (false, μ₁) := by simp only [evBs, h, Option.bind_some]; rfl
theorem bs_and_t {t : MT} {ts : MTs} {r : Option (Bool × Mu)} (h : evB F t ρ μ = some (true, μ₁)) (hs : evBs F .And ts ρ μ₁ = r) : evBs F .And (.cons t ts) ρ μ = r := by simp only [evBs, h, Option.bind_some]; exact hs
theorem bs_or_t {t : MT} {ts : MTs} (h : evB F t ρ μ = some (true, μ₁)) : evBs F .Or (.cons t ts) ρ μ = some (true, μ₁) := by simp only [evBs, h, Option.bind_some]; rfl
theorem bs_or_f {t : MT} {ts : MTs} {r : Option (Bool × Mu)} (h : evB F t ρ μ = some (false, μ₁)) (hs : evBs F .Or ts ρ μ₁ = r) : evBs F .Or (.cons t ts) ρ μ = r := by simp only [evBs, h, Option.bind_some]; exact hs

/-- go on behind a statement -/
def thenS (F : List Fn) (ss : MSs) : Out × Rho × Mu → Option (Out × Rho × Mu)
  | (.next, ρ, μ) => evSs F ss ρ μ
  | (.ret v, ρ, μ) => some (.ret v, ρ, μ)
  | (.cont, ρ, μ) => some (.cont, ρ, μ)
variable {s : MS} {ss sa sb : MSs} {r : Option (Out × Rho × Mu)} {o : Out × Rho × Mu}
theorem ss_nil : evSs F .nil ρ μ = some (.next, ρ, μ) := by simp only [evSs]
theorem ss_cons (h : evS F s ρ μ = some o) (hr : thenS F ss o = r) : evSs F (.cons s ss) ρ μ = r := by
  obtain ⟨k, ρ', μ'⟩ := o
  simp only [evSs, h, Option.bind_some]
  cases k <;> exact hr
theorem ss_ret (h : evE F e ρ μ = some (x, μ₁)) : evSs F (.cons (.ret e) ss) ρ μ = some (.ret x, ρ, μ₁) := by
  simp only [evSs, evS, h, Option.bind_some, Option.map_some]
theorem ss_assign {i : Nat} (h : evE F e ρ μ = some (x, μ₁)) (hr : evSs F ss (ρ.set i (some x)) μ₁ = r) : evSs F (.cons (.assign i e) ss) ρ μ = r := by
  simp only [evSs, evS, h, Option.bind_some, Option.map_some]; exact hr
theorem ss_newlist {i : Nat} {vs : List MV} {xs : List PyData} (h : evL F es ρ μ = some (vs, μ₁)) (hx : allD vs = some xs) (hl : xs.length ≤ 16777216) (hr : evSs F ss (ρ.set i (some (.r μ₁.length))) (μ₁ ++ [xs]) = r) : evSs F (.cons (.newlist i es) ss) ρ μ = r := by
  simp only [evSs, evS, h, hx, if_pos hl, Option.bind_some]; exact hr
theorem ss_unpack {is : List Nat} {xs : List PyData} (h : evE F e ρ μ = some (.d (.tuple xs), μ₁)) (hs : setAll is xs ρ = some ρ₁) (hr : evSs F ss ρ₁ μ₁ = r) : evSs F (.cons (.unpack is e) ss) ρ μ = r := by
  simp only [evSs, evS, h, hs, Option.bind_some, Option.map_some]; exact hr
theorem ss_append {i j : Nat} {xs : List PyData} (hj : ρ[i]?.join = some (.r j)) (h : evE F e ρ μ = some (.d dx, μ₁)) (hx : μ₁[j]? = some xs) (hl : xs.length ≤ 16777216) (hr : evSs F ss ρ (μ₁.set j (xs ++ [dx])) = r) : evSs F (.cons (.append i e) ss) ρ μ = r := by
  simp only [evSs, evS, hj, h, hx, if_pos hl, Option.bind_some]; exact hr
theorem ss_delat {i j : Nat} {k : Int} {xs : List PyData} (hj : ρ[i]?.join = some (.r j)) (h : evE F e ρ μ = some (.d (.int k), μ₁)) (hx : μ₁[j]? = some xs) (hl : 0 ≤ k ∧ k < xs.length ∧ xs.length ≤ 16777216) (hr : evSs F ss ρ (μ₁.set j (xs.eraseIdx k.toNat)) = r) : evSs F (.cons (.delat i e) ss) ρ μ = r := by
  simp only [evSs, evS, hj, h, hx, if_pos hl, Option.bind_some]; exact hr
theorem ss_ite_t {t : MT} (hc : evB F t ρ μ = some (true, μ₁)) (ha : evSs F sa ρ μ₁ = some o) (hr : thenS F ss o = r) : evSs F (.cons (.ite t sa sb) ss) ρ μ = r :=
  ss_cons (by simp only [evS, hc, Option.bind_some, if_true]; exact ha) hr
theorem ss_ite_f {t : MT} (hc : evB F t ρ μ = some (false, μ₁)) (ha : evSs F sb ρ μ₁ = some o) (hr : thenS F ss o = r) : evSs F (.cons (.ite t sa sb) ss) ρ μ = r :=
  ss_cons (by simp only [evS, hc, Option.bind_some]; exact ha) hr
theorem then_next (h : evSs F ss ρ μ = r) : thenS F ss (.next, ρ, μ) = r := h
theorem then_ret {v : MV} : thenS F ss (.ret v, ρ, μ) = some (.ret v, ρ, μ) := rfl
theorem then_cont : thenS F ss (.cont, ρ, μ) = some (.cont, ρ, μ) := rfl
theorem ss_cont : evSs F (.cons .cont ss) ρ μ = some (.cont, ρ, μ) := by simp only [evSs, evS, Option.bind_some]
theorem e_strOf (h : evE F a ρ μ = some (.d dx, μ₁)) (hz : strD dx = some dz) : evE F (.strOf a) ρ μ = some (.d dz, μ₁) := by
  simp only [evE, h, rd, hz, Option.bind_some, Option.map_some]
theorem ss_compr {i : Nat} {caps : List Nat} {elt : ME} {k : Int} {xs : List PyData} (h : evE F e ρ μ = some (.d (.int k), μ₁)) (hk : 0 ≤ k ∧ k ≤ 16777216) (hc : compF (evE F elt) (caps.map fun j => ρ[j]?.join) k.toNat 0 μ₁ = some (xs, μ₂)) (hr : evSs F ss (ρ.set i (some (.d (.list xs)))) μ₂ = r) :
    evSs F (.cons (.compr i caps e elt) ss) ρ μ = r := by
  simp only [evSs, evS, h, if_pos hk, hc, Option.bind_some, Option.map_some]; exact hr
theorem ss_delfrom {i j : Nat} {k : Int} {xs : List PyData} (hj : ρ[i]?.join = some (.r j)) (h : evE F e ρ μ = some (.d (.int k), μ₁)) (hx : μ₁[j]? = some xs) (hl : 0 ≤ k ∧ xs.length ≤ 16777216) (hr : evSs F ss ρ (μ₁.set j (xs.take k.toNat)) = r) : evSs F (.cons (.delfrom i e) ss) ρ μ = r := by
  simp only [evSs, evS, hj, h, hx, if_pos hl, Option.bind_some]; exact hr
theorem ss_fore {i : Nat} {b : MSs} {xs : List PyData} (h : evE F e ρ μ = some (.d (.list xs), μ₁)) (hf : foreF i (evSs F b) xs ρ μ₁ = some o) (hr : thenS F ss o = r) : evSs F (.cons (.fore i e b) ss) ρ μ = r :=
  ss_cons (by simp only [evS, h, Option.bind_some]; exact hf) hr
theorem ss_forr {i : Nat} {b : MSs} {k : Int} (h : evE F e ρ μ = some (.d (.int k), μ₁)) (hk : 0 ≤ k ∧ k < 4611686018427387904) (hf : forF i (evSs F b) k.toNat 0 ρ μ₁ = some o) (hr : thenS F ss o = r) : evSs F (.cons (.forr i e b) ss) ρ μ = r :=
  ss_cons (by simp only [evS, h, if_pos hk, Option.bind_some]; exact hf) hr
theorem ss_whl {n : Rho → Mu → Nat} {t : MT} {b : MSs} (hf : whileF (evB F t) (evSs F b) (n ρ μ) ρ μ = some o) (hr : thenS F ss o = r) : evSs F (.cons (.whl n t b) ss) ρ μ = r :=
  ss_cons (by simp only [evS]; exact hf) hr
end
end Mini

namespace Mini
open PySem
local macro_rules | `(tactic| walk_at "evd") => `(tactic| first
  | ((with_reducible apply e_var); exact rfl)
  | with_reducible exact e_int | with_reducible exact e_str | with_reducible apply l_cons | with_reducible exact l_nil
  | with_reducible apply e_bin' | with_reducible apply e_idx' | with_reducible apply e_cmp'
  | with_reducible apply e_tup | with_reducible apply e_lst | with_reducible exact e_none | with_reducible exact e_bool
  | with_reducible apply e_prim1 | with_reducible apply e_prim2 | with_reducible apply e_call | with_reducible apply e_slc' | with_reducible apply e_isBool
  | with_reducible assumption
  | with_reducible apply b_val | with_reducible apply b_bop | with_reducible exact bs_and_nil | with_reducible exact bs_or_nil
  | ((with_reducible apply bs_and_f); (repeat walk_at "evd"); done) | ((with_reducible apply bs_and_t); (case h => (repeat walk_at "evd"); done))
  | ((with_reducible apply bs_or_t); (repeat walk_at "evd"); done) | ((with_reducible apply bs_or_f); (case h => (repeat walk_at "evd"); done))
  | with_reducible apply b_not_t | with_reducible apply b_not_f
  | ((with_reducible apply e_ite_t); (case hc => (repeat walk_at "evd"); done)) | ((with_reducible apply e_ite_f); (case hc => (repeat walk_at "evd"); done))
  | ((with_reducible apply e_bop); (case ha => (repeat walk_at "evd"); done))
  | with_reducible exact v_nil | ((with_reducible apply v_stop); (case hr => exact rfl)) | ((with_reducible apply v_on); (case hr => exact rfl))
  | with_reducible exact ss_nil | with_reducible apply ss_ret | with_reducible apply ss_assign | with_reducible apply ss_unpack
  | ((with_reducible apply ss_ite_t); (case hc => (repeat walk_at "evd"); done)) | ((with_reducible apply ss_ite_f); (case hc => (repeat walk_at "evd"); done))
  | with_reducible exact then_ret | with_reducible apply then_next
  | exact rfl
  | exact Nat.le_of_ble_eq_true rfl)



def lenAt (i : Nat) (ρ : Rho) : Nat := match ρ[i]?.join with
  | some (.d (.list xs)) => xs.length + 1
  | _ => 0
def n_parts_of : List Str := ["t", "last", "start", "wanted"]
/-- 1 parameters, 3 further names -/
def b_parts_of : MSs :=
 (.cons (.assign 1 (.bin .Sub (.prim .len (.cons (.var 0) .nil)) (.int 1)))
 (.cons (.ite (.bop .And (.cons (.val (.cmp .NotEq (.idx (.idx (.var 0) (.var 1)) (.int 0)) (.str ⟨#[102, 117, 110]⟩))) (.cons (.val (.cmp .NotEq (.idx (.idx (.var 0) (.var 1)) (.int 0)) (.str ⟨#[112, 97, 105, 114]⟩))) .nil)))
 (.cons (.ret (.lst .nil))
 .nil)
 .nil)
 (.cons (.assign 2 (.var 1))
 (.cons (.assign 3 (.int 1))
 (.cons (.whl (fun ρ _ => lenAt 0 ρ) (.bop .And (.cons (.val (.cmp .Gt (.var 3) (.int 0))) (.cons (.val (.cmp .Gt (.var 2) (.int 0))) .nil)))
 (.cons (.assign 2 (.bin .Sub (.var 2) (.int 1)))
 (.cons (.ite (.bop .Or (.cons (.val (.cmp .Eq (.idx (.idx (.var 0) (.var 2)) (.int 0)) (.str ⟨#[102, 117, 110]⟩))) (.cons (.val (.cmp .Eq (.idx (.idx (.var 0) (.var 2)) (.int 0)) (.str ⟨#[112, 97, 105, 114]⟩))) .nil)))
 (.cons (.assign 3 (.bin .Add (.var 3) (.int 1)))
 .nil)
 (.cons (.assign 3 (.bin .Sub (.var 3) (.int 1)))
 .nil))
 .nil)))
 (.cons (.ret (.lst (.cons (.slc (.var 0) .none (.var 2)) (.cons (.slc (.var 0) (.var 2) (.var 1)) .nil))))
 .nil))))))

def n_value_fits : List Str := ["value", "t", "todo", "turn", "maker", "v", "u", "parts"]
/-- 2 parameters, 6 further names -/
def b_value_fits : MSs :=
 (.cons (.newlist 2 (.cons (.tup (.cons (.var 0) (.cons (.var 1) .nil))) .nil))
 (.cons (.forr 3 (.prim .len (.cons (.var 1) .nil))
 (.cons (.ite (.val (.cmp .Eq (.var 2) (.lst .nil)))
 (.cons (.ret (.bool true))
 .nil)
 .nil)
 (.cons (.unpack [5, 6] (.idx (.var 2) (.bin .Sub (.prim .len (.cons (.var 2) .nil)) (.int 1))))
 (.cons (.delat 2 (.bin .Sub (.prim .len (.cons (.var 2) .nil)) (.int 1)))
 (.cons (.assign 4 (.idx (.idx (.var 6) (.bin .Sub (.prim .len (.cons (.var 6) .nil)) (.int 1))) (.int 0)))
 (.cons (.ite (.val (.cmp .Eq (.var 4) (.str ⟨#[118, 97, 114]⟩)))
 (.cons .cont
 .nil)
 .nil)
 (.cons (.ite (.val (.cmp .Eq (.var 4) (.str ⟨#[102, 117, 110]⟩)))
 (.cons (.ite (.val (.cmp .NotEq (.idx (.var 5) (.int 0)) (.str ⟨#[99, 108, 111]⟩)))
 (.cons (.ret (.bool false))
 .nil)
 .nil)
 .nil)
 (.cons (.ite (.val (.cmp .NotEq (.idx (.var 5) (.int 0)) (.var 4)))
 (.cons (.ret (.bool false))
 .nil)
 (.cons (.ite (.val (.cmp .Eq (.var 4) (.str ⟨#[112, 97, 105, 114]⟩)))
 (.cons (.assign 7 (.call 0 (.cons (.var 6) .nil)))
 (.cons (.append 2 (.tup (.cons (.idx (.var 5) (.int 2)) (.cons (.idx (.var 7) (.int 1)) .nil))))
 (.cons (.append 2 (.tup (.cons (.idx (.var 5) (.int 1)) (.cons (.idx (.var 7) (.int 0)) .nil))))
 .nil)))
 .nil)
 .nil))
 .nil))
 .nil)))))))
 (.cons (.ret (.bool true))
 .nil)))

def n_law_cell : List Str := ["script", "i"]
/-- 2 parameters, 0 further names -/
def b_law_cell : MSs :=
 (.cons (.ite (.val (.cmp .Lt (.var 1) (.prim .len (.cons (.var 0) .nil))))
 (.cons (.ret (.idx (.var 0) (.var 1)))
 .nil)
 .nil)
 (.cons (.ret (.var 1))
 .nil))

def n_law_leaf : List Str := ["c", "d", "env", "values", "forms", "i", "twist"]
/-- 3 parameters, 4 further names -/
def b_law_leaf : MSs :=
 (.cons (.assign 3 (.lst (.cons (.tup (.cons (.str ⟨#[105, 110, 116]⟩) (.cons (.var 1) .nil))) (.cons (.tup (.cons (.str ⟨#[98, 111, 111, 108]⟩) (.cons (.bin .Mod (.bin .FloorDiv (.var 0) (.int 4)) (.int 2)) .nil))) (.cons (.tup (.cons (.str ⟨#[99, 108, 111]⟩) (.cons (.prim .abs (.cons (.var 0) .nil)) (.cons (.var 2) .nil)))) (.cons (.tup (.cons (.str ⟨#[112, 97, 105, 114]⟩) (.cons (.tup (.cons (.str ⟨#[98, 111, 111, 108]⟩) (.cons (.int 1) .nil))) (.cons (.tup (.cons (.str ⟨#[105, 110, 116]⟩) (.cons (.var 1) .nil))) .nil)))) .nil))))))
 (.cons (.assign 4 (.lst (.cons (.lst (.cons (.tup (.cons (.str ⟨#[105, 110, 116]⟩) (.cons (.int 0) .nil))) .nil)) (.cons (.lst (.cons (.tup (.cons (.str ⟨#[98, 111, 111, 108]⟩) (.cons (.int 0) .nil))) .nil)) (.cons (.lst (.cons (.tup (.cons (.str ⟨#[118, 97, 114]⟩) (.cons (.int 0) .nil))) (.cons (.tup (.cons (.str ⟨#[105, 110, 116]⟩) (.cons (.int 0) .nil))) (.cons (.tup (.cons (.str ⟨#[102, 117, 110]⟩) (.cons (.int 0) .nil))) .nil)))) (.cons (.lst (.cons (.tup (.cons (.str ⟨#[98, 111, 111, 108]⟩) (.cons (.int 0) .nil))) (.cons (.tup (.cons (.str ⟨#[105, 110, 116]⟩) (.cons (.int 0) .nil))) (.cons (.tup (.cons (.str ⟨#[112, 97, 105, 114]⟩) (.cons (.int 0) .nil))) .nil)))) .nil))))))
 (.cons (.assign 5 (.bin .Mod (.var 0) (.int 4)))
 (.cons (.assign 6 (.bin .Mod (.var 1) (.int 8)))
 (.cons (.ite (.val (.cmp .Eq (.var 6) (.int 4)))
 (.cons (.ret (.tup (.cons (.idx (.var 3) (.var 5)) (.cons (.lst (.cons (.tup (.cons (.str ⟨#[118, 97, 114]⟩) (.cons (.prim .abs (.cons (.var 1) .nil)) .nil))) .nil)) (.cons (.bool true) .nil)))))
 .nil)
 .nil)
 (.cons (.ite (.val (.cmp .Lt (.var 6) (.int 4)))
 (.cons (.ret (.tup (.cons (.idx (.var 3) (.var 5)) (.cons (.idx (.var 4) (.var 5)) (.cons (.bool true) .nil)))))
 .nil)
 .nil)
 (.cons (.ret (.tup (.cons (.idx (.var 3) (.var 5)) (.cons (.idx (.var 4) (.bin .Mod (.bin .Add (.var 5) (.var 6)) (.int 4))) (.cons (.bool false) .nil)))))
 .nil)))))))

def n_law_join : List Str := ["a", "b", "c", "env", "twist", "both", "parts"]
/-- 4 parameters, 3 further names -/
def b_law_join : MSs :=
 (.cons (.assign 4 (.bin .Mod (.var 2) (.int 8)))
 (.cons (.assign 5 (.tup (.cons (.str ⟨#[112, 97, 105, 114]⟩) (.cons (.idx (.var 0) (.int 0)) (.cons (.idx (.var 1) (.int 0)) .nil)))))
 (.cons (.assign 6 (.bin .Add (.idx (.var 0) (.int 1)) (.idx (.var 1) (.int 1))))
 (.cons (.ite (.val (.cmp .Eq (.var 4) (.int 4)))
 (.cons (.ret (.tup (.cons (.tup (.cons (.str ⟨#[99, 108, 111]⟩) (.cons (.int 0) (.cons (.var 3) .nil)))) (.cons (.bin .Add (.var 6) (.lst (.cons (.tup (.cons (.str ⟨#[102, 117, 110]⟩) (.cons (.int 0) .nil))) .nil))) (.cons (.bool true) .nil)))))
 .nil)
 .nil)
 (.cons (.ite (.val (.cmp .Eq (.var 4) (.int 5)))
 (.cons (.ret (.tup (.cons (.var 5) (.cons (.bin .Add (.var 6) (.lst (.cons (.tup (.cons (.str ⟨#[102, 117, 110]⟩) (.cons (.int 0) .nil))) .nil))) (.cons (.bool false) .nil)))))
 .nil)
 .nil)
 (.cons (.ite (.val (.cmp .Eq (.var 4) (.int 6)))
 (.cons (.ret (.tup (.cons (.tup (.cons (.str ⟨#[99, 108, 111]⟩) (.cons (.int 0) (.cons (.var 3) .nil)))) (.cons (.bin .Add (.var 6) (.lst (.cons (.tup (.cons (.str ⟨#[112, 97, 105, 114]⟩) (.cons (.int 0) .nil))) .nil))) (.cons (.bool false) .nil)))))
 .nil)
 .nil)
 (.cons (.ite (.val (.cmp .Eq (.var 4) (.int 7)))
 (.cons (.ret (.tup (.cons (.var 5) (.cons (.lst (.cons (.tup (.cons (.str ⟨#[118, 97, 114]⟩) (.cons (.int 0) .nil))) .nil)) (.cons (.bool true) .nil)))))
 .nil)
 .nil)
 (.cons (.ret (.tup (.cons (.var 5) (.cons (.bin .Add (.var 6) (.lst (.cons (.tup (.cons (.str ⟨#[112, 97, 105, 114]⟩) (.cons (.int 0) .nil))) .nil))) (.cons (.bop .And (.idx (.var 0) (.int 2)) (.cons (.idx (.var 1) (.int 2)) .nil)) .nil)))))
 .nil))))))))

def n_law : List Str := ["script", "first", "env", "count", "stack", "i", "before", "got", "c", "p", "value", "t", "due"]
/-- 1 parameters, 12 further names -/
def b_law : MSs :=
 (.cons (.assign 1 (.call 2 (.cons (.var 0) (.cons (.int 0) .nil))))
 (.cons (.assign 2 (.lst (.cons (.tup (.cons (.str ⟨#[105, 110, 116]⟩) (.cons (.var 1) .nil))) .nil)))
 (.cons (.assign 3 (.bin .Add (.int 1) (.bin .Mod (.var 1) (.int 4))))
 (.cons (.compr 4 [2, 0] (.var 3) (.call 3 (.cons (.call 2 (.cons (.var 2) (.cons (.bin .Add (.int 1) (.bin .Mult (.int 2) (.var 0))) .nil))) (.cons (.call 2 (.cons (.var 2) (.cons (.bin .Add (.int 2) (.bin .Mult (.int 2) (.var 0))) .nil))) (.cons (.var 1) .nil)))))
 (.cons (.forr 5 (.bin .Sub (.var 3) (.int 1))
 (.cons (.assign 8 (.call 2 (.cons (.var 0) (.cons (.bin .Add (.int 9) (.var 5)) .nil))))
 (.cons (.assign 9 (.bin .Mod (.bin .FloorDiv (.var 8) (.int 8)) (.bin .Sub (.prim .len (.cons (.var 4) .nil)) (.int 1))))
 (.cons (.assign 4 (.bin .Add (.bin .Add (.slc (.var 4) .none (.var 9)) (.lst (.cons (.call 4 (.cons (.idx (.var 4) (.var 9)) (.cons (.idx (.var 4) (.bin .Add (.var 9) (.int 1))) (.cons (.var 8) (.cons (.var 2) .nil))))) .nil))) (.slc (.var 4) (.bin .Add (.var 9) (.int 2)) .none)))
 .nil))))
 (.cons (.unpack [10, 11, 12] (.idx (.var 4) (.int 0)))
 (.cons (.assign 6 (.slc (.var 11) .none .none))
 (.cons (.assign 7 (.call 1 (.cons (.var 10) (.cons (.var 11) .nil))))
 (.cons (.ite (.bop .And (.cons (.val (.var 12)) (.cons (.val (.cmp .IsNot (.var 7) (.bool true))) .nil)))
 (.cons (.ret (.bool false))
 .nil)
 .nil)
 (.cons (.ite (.bop .And (.cons (.not (.val (.var 12))) (.cons (.val (.cmp .IsNot (.var 7) (.bool false))) .nil)))
 (.cons (.ret (.bool false))
 .nil)
 .nil)
 (.cons (.ite (.val (.cmp .NotEq (.var 11) (.var 6)))
 (.cons (.ret (.bool false))
 .nil)
 .nil)
 (.cons (.ite (.val (.cmp .NotEq (.var 2) (.lst (.cons (.tup (.cons (.str ⟨#[105, 110, 116]⟩) (.cons (.var 1) .nil))) .nil))))
 (.cons (.ret (.bool false))
 .nil)
 .nil)
 (.cons (.ret (.bool true))
 .nil)))))))))))))


def f_parts : Fn := fun args μ => if args.length = 1 then fnOf [] 3 b_parts_of args μ else none
def f_fits : Fn := fun args μ => if args.length = 2 then fnOf [f_parts] 6 b_value_fits args μ else none
def f_cell : Fn := fun args μ => if args.length = 2 then fnOf [f_parts, f_fits] 0 b_law_cell args μ else none
def f_leaf : Fn := fun args μ => if args.length = 3 then fnOf [f_parts, f_fits, f_cell] 4 b_law_leaf args μ else none
def f_join : Fn := fun args μ => if args.length = 4 then fnOf [f_parts, f_fits, f_cell, f_leaf] 3 b_law_join args μ else none
def f_law : Fn := fun args μ => if args.length = 1 then fnOf [f_parts, f_fits, f_cell, f_leaf, f_join] 12 b_law args μ else none
theorem f_parts_at {args : List MV} {μ : Mu} (h : args.length = 1) : f_parts args μ = fnOf [] 3 b_parts_of args μ := by unfold f_parts; exact if_pos h
theorem f_fits_at {args : List MV} {μ : Mu} (h : args.length = 2) : f_fits args μ = fnOf [f_parts] 6 b_value_fits args μ := by unfold f_fits; exact if_pos h
theorem f_cell_at {args : List MV} {μ : Mu} (h : args.length = 2) : f_cell args μ = fnOf [f_parts, f_fits] 0 b_law_cell args μ := by unfold f_cell; exact if_pos h
theorem f_leaf_at {args : List MV} {μ : Mu} (h : args.length = 3) : f_leaf args μ = fnOf [f_parts, f_fits, f_cell] 4 b_law_leaf args μ := by unfold f_leaf; exact if_pos h
theorem f_join_at {args : List MV} {μ : Mu} (h : args.length = 4) : f_join args μ = fnOf [f_parts, f_fits, f_cell, f_leaf] 3 b_law_join args μ := by unfold f_join; exact if_pos h
theorem f_law_at {args : List MV} {μ : Mu} (h : args.length = 1) : f_law args μ = fnOf [f_parts, f_fits, f_cell, f_leaf, f_join] 12 b_law args μ := by unfold f_law; exact if_pos h

theorem fn_d {F : List Fn} {nl : Nat} {body : MSs} {args : List MV} {μ μ' : Mu} {ρ' : Rho} {x : PyData} {r : PyData × Mu} (h : evSs F body (args.map some ++ List.replicate nl none) μ = some (.ret (.d x), ρ', μ')) (e : (x, μ'.take μ.length) = r) : fnOf F nl body args μ = some r := by
  subst e
  simp only [fnOf, h, Option.bind_some]
theorem idx_list {xs : List PyData} {k : Int} {x : PyData} (h0 : 0 ≤ k ∧ k < 9223372036854775808) (h : xs[k.toNat]? = some x) : idxD (.list xs) (.int k) = some x := by
  simp only [idxD, if_pos h0, h]
theorem len_list {xs : List PyData} (h : xs.length ≤ 16777216) : primD .len [.list xs] = some (.int (xs.length : Int)) := by
  simp only [primD, if_pos h]

inductive Ty where
  | int | bool
  | var (k : Int)
  | node (f : Bool) (l r : Ty)
def mk (f : Bool) : Str := if f then ⟨#[102, 117, 110]⟩ else ⟨#[112, 97, 105, 114]⟩
def Ty.top : Ty → Str
  | .int => ⟨#[105, 110, 116]⟩
  | .bool => ⟨#[98, 111, 111, 108]⟩
  | .var _ => ⟨#[118, 97, 114]⟩
  | .node f _ _ => mk f
def Ty.num : Ty → Int
  | .var k => k
  | _ => 0
def flat : Ty → List PyData
  | .node f l r => flat l ++ flat r ++ [.tuple [.str (mk f), .int 0]]
  | .int => [.tuple [.str ⟨#[105, 110, 116]⟩, .int 0]]
  | .bool => [.tuple [.str ⟨#[98, 111, 111, 108]⟩, .int 0]]
  | .var k => [.tuple [.str ⟨#[118, 97, 114]⟩, .int k]]
theorem flat_pos : ∀ T : Ty, 1 ≤ (flat T).length
  | .int => Nat.le_refl _
  | .bool => Nat.le_refl _
  | .var _ => Nat.le_refl _
  | .node _ l r => by simp [flat]; omega
/-- the last item is the top -/
theorem flat_last (T : Ty) : (flat T)[(flat T).length - 1]? = some (.tuple [.str T.top, .int T.num]) := by
  cases T with
  | node f l r => simp [flat, Ty.top, Ty.num]
  | _ => rfl

def testS : MT := .bop .And (.cons (.val (.cmp .Gt (.var 3) (.int 0))) (.cons (.val (.cmp .Gt (.var 2) (.int 0))) .nil))
def stepS : MSs := (.cons (.assign 2 (.bin .Sub (.var 2) (.int 1)))
 (.cons (.ite (.bop .Or (.cons (.val (.cmp .Eq (.idx (.idx (.var 0) (.var 2)) (.int 0)) (.str ⟨#[102, 117, 110]⟩))) (.cons (.val (.cmp .Eq (.idx (.idx (.var 0) (.var 2)) (.int 0)) (.str ⟨#[112, 97, 105, 114]⟩))) .nil)))
 (.cons (.assign 3 (.bin .Add (.var 3) (.int 1)))
 .nil)
 (.cons (.assign 3 (.bin .Sub (.var 3) (.int 1)))
 .nil))
 .nil))
section
variable {F : List Fn} {ts : List PyData} {last st wt : Int} {μ : Mu}
theorem test_true (h1 : 0 < wt) (h2 : 0 < st) : evB F testS [some (.d (.list ts)), some (.d (.int last)), some (.d (.int st)), some (.d (.int wt))] μ = some (true, μ) := by
  have c1 : cmpD .Gt (.int wt) (.int 0) = some true := by simp [cmpD, h1]
  have c2 : cmpD .Gt (.int st) (.int 0) = some true := by simp [cmpD, h2]
  exact b_bop (bs_and_t (b_val (e_cmp' (e_var rfl) e_int c1)) (bs_and_t (b_val (e_cmp' (e_var rfl) e_int c2)) bs_and_nil))
theorem test_false : evB F testS [some (.d (.list ts)), some (.d (.int last)), some (.d (.int st)), some (.d (.int 0))] μ = some (false, μ) :=
  b_bop (bs_and_f (b_val (e_cmp' (e_var rfl) e_int rfl)))
theorem step_node {f : Bool} {k : Int} (hi : idxD (.list ts) (.int (st - 1)) = some (.tuple [.str (mk f), .int k])) :
    evSs F stepS [some (.d (.list ts)), some (.d (.int last)), some (.d (.int st)), some (.d (.int wt))] μ = some (.next, [some (.d (.list ts)), some (.d (.int last)), some (.d (.int (st - 1))), some (.d (.int (wt + 1)))], μ) := by
  unfold stepS
  refine ss_assign (x := .d (.int (st - 1))) (μ₁ := μ) (e_bin' (e_var rfl) e_int rfl) ?_
  refine ss_ite_t (μ₁ := μ) (o := (.next, [some (.d (.list ts)), some (.d (.int last)), some (.d (.int (st - 1))), some (.d (.int (wt + 1)))], μ)) ?_ ?_ (then_next ss_nil)
  · cases f with
    | true => exact b_bop (bs_or_t (b_val (e_cmp' (e_idx' (e_idx' (e_var rfl) (e_var rfl) hi) e_int rfl) e_str rfl)))
    | false => exact b_bop (bs_or_f (b_val (e_cmp' (e_idx' (e_idx' (e_var rfl) (e_var rfl) hi) e_int rfl) e_str rfl)) (bs_or_t (b_val (e_cmp' (e_idx' (e_idx' (e_var rfl) (e_var rfl) hi) e_int rfl) e_str rfl))))
  · exact ss_assign (x := .d (.int (wt + 1))) (μ₁ := μ) (e_bin' (e_var rfl) e_int rfl) ss_nil
theorem step_leaf {x : Str} {k : Int} (h1 : (x == (⟨#[102, 117, 110]⟩ : Str)) = false) (h2 : (x == (⟨#[112, 97, 105, 114]⟩ : Str)) = false) (hi : idxD (.list ts) (.int (st - 1)) = some (.tuple [.str x, .int k])) :
    evSs F stepS [some (.d (.list ts)), some (.d (.int last)), some (.d (.int st)), some (.d (.int wt))] μ = some (.next, [some (.d (.list ts)), some (.d (.int last)), some (.d (.int (st - 1))), some (.d (.int (wt - 1)))], μ) := by
  have c1 : cmpD .Eq (.str x) (.str ⟨#[102, 117, 110]⟩) = some false := by simp only [cmpD, h1]
  have c2 : cmpD .Eq (.str x) (.str ⟨#[112, 97, 105, 114]⟩) = some false := by simp only [cmpD, h2]
  unfold stepS
  refine ss_assign (x := .d (.int (st - 1))) (μ₁ := μ) (e_bin' (e_var rfl) e_int rfl) ?_
  refine ss_ite_f (μ₁ := μ) (o := (.next, [some (.d (.list ts)), some (.d (.int last)), some (.d (.int (st - 1))), some (.d (.int (wt - 1)))], μ)) ?_ ?_ (then_next ss_nil)
  · exact b_bop (bs_or_f (b_val (e_cmp' (e_idx' (e_idx' (e_var rfl) (e_var rfl) hi) e_int rfl) e_str c1)) (bs_or_f (b_val (e_cmp' (e_idx' (e_idx' (e_var rfl) (e_var rfl) hi) e_int rfl) e_str c2)) bs_or_nil))
  · exact ss_assign (x := .d (.int (wt - 1))) (μ₁ := μ) (e_bin' (e_var rfl) e_int rfl) ss_nil
end

theorem turn1 {F : List Fn} {ts : List PyData} {last : Int} {μ : Mu} {n s w w' : Nat} (hs : 0 < s) (hw : 0 < w)
    (he : evSs F stepS [some (.d (.list ts)), some (.d (.int last)), some (.d (.int (s : Int))), some (.d (.int (w : Int)))] μ = some (.next, [some (.d (.list ts)), some (.d (.int last)), some (.d (.int ((s : Int) - 1))), some (.d (.int (w' : Int)))], μ)) :
    whileF (evB F testS) (evSs F stepS) (n + 1) [some (.d (.list ts)), some (.d (.int last)), some (.d (.int (s : Int))), some (.d (.int (w : Int)))] μ = whileF (evB F testS) (evSs F stepS) n [some (.d (.list ts)), some (.d (.int last)), some (.d (.int ((s - 1 : Nat) : Int))), some (.d (.int (w' : Int)))] μ := by
  rw [show ((s - 1 : Nat) : Int) = (s : Int) - 1 from by omega]
  simp only [whileF, test_true (show (0 : Int) < (w : Int) by omega) (show (0 : Int) < (s : Int) by omega), Option.bind_some, he]
  rfl
/-- the scan goes over one whole tree -/
theorem scan {F : List Fn} {ts : List PyData} {last : Int} {μ : Mu} (hl : ts.length ≤ 1000) : ∀ (T : Ty) (pre suf : List PyData) (n w : Nat), ts = pre ++ flat T ++ suf → 0 < w →
    whileF (evB F testS) (evSs F stepS) (n + (flat T).length) [some (.d (.list ts)), some (.d (.int last)), some (.d (.int ((pre.length + (flat T).length : Nat) : Int))), some (.d (.int (w : Int)))] μ =
      whileF (evB F testS) (evSs F stepS) n [some (.d (.list ts)), some (.d (.int last)), some (.d (.int (pre.length : Int))), some (.d (.int ((w - 1 : Nat) : Int)))] μ := by
  have leaf : ∀ (x : Str) (k : Int) (pre suf : List PyData) (n w : Nat), ts = pre ++ [.tuple [.str x, .int k]] ++ suf → 0 < w → (x == (⟨#[102, 117, 110]⟩ : Str)) = false → (x == (⟨#[112, 97, 105, 114]⟩ : Str)) = false →
      whileF (evB F testS) (evSs F stepS) (n + 1) [some (.d (.list ts)), some (.d (.int last)), some (.d (.int ((pre.length + 1 : Nat) : Int))), some (.d (.int (w : Int)))] μ =
        whileF (evB F testS) (evSs F stepS) n [some (.d (.list ts)), some (.d (.int last)), some (.d (.int (pre.length : Int))), some (.d (.int ((w - 1 : Nat) : Int)))] μ := by
    intro x k pre suf n w e hw h1 h2
    have hlen : ts.length = pre.length + 1 + suf.length := by rw [e]; simp; omega
    have hi : idxD (.list ts) (.int (((pre.length + 1 : Nat) : Int) - 1)) = some (.tuple [.str x, .int k]) := idx_list (by omega) (by
      rw [show (((pre.length + 1 : Nat) : Int) - 1).toNat = pre.length from by omega, e, List.append_assoc, List.getElem?_append_right (Nat.le_refl _), Nat.sub_self]; rfl)
    have := step_leaf (F := F) (μ := μ) (last := last) (wt := (w : Int)) h1 h2 hi
    rw [show (w : Int) - 1 = ((w - 1 : Nat) : Int) from by omega] at this
    rw [turn1 (by omega) hw this]
    rfl
  intro T
  induction T with
  | int => intro pre suf n w e hw; exact leaf _ _ pre suf n w e hw rfl rfl
  | bool => intro pre suf n w e hw; exact leaf _ _ pre suf n w e hw rfl rfl
  | var k => intro pre suf n w e hw; exact leaf _ _ pre suf n w e hw rfl rfl
  | node f l r ihl ihr =>
    intro pre suf n w e hw
    have e' : ts = pre ++ flat l ++ (flat r ++ ([.tuple [.str (mk f), .int 0]] ++ suf)) := by rw [e]; simp [flat]
    have e'' : ts = (pre ++ flat l) ++ flat r ++ ([.tuple [.str (mk f), .int 0]] ++ suf) := by rw [e]; simp [flat]
    have e3 : ts = (pre ++ flat l ++ flat r) ++ ([.tuple [.str (mk f), .int 0]] ++ suf) := by rw [e]; simp [flat]
    have hlen : ts.length = pre.length + (flat l).length + (flat r).length + (1 + suf.length) := by rw [e3]; simp; omega
    have hfl : (flat (.node f l r)).length = (flat l).length + (flat r).length + 1 := by simp [flat]; omega
    rw [hfl]
    have hi : idxD (.list ts) (.int (((pre.length + ((flat l).length + (flat r).length + 1) : Nat) : Int) - 1)) = some (.tuple [.str (mk f), .int 0]) := idx_list (by omega) (by
      rw [show (((pre.length + ((flat l).length + (flat r).length + 1) : Nat) : Int) - 1).toNat = (pre ++ flat l ++ flat r).length from by simp; omega, e3, List.getElem?_append_right (Nat.le_refl _), Nat.sub_self]; rfl)
    have st := step_node (F := F) (μ := μ) (last := last) (wt := (w : Int)) hi
    rw [show (w : Int) + 1 = ((w + 1 : Nat) : Int) from by omega] at st
    rw [show n + ((flat l).length + (flat r).length + 1) = (n + (flat l).length + (flat r).length) + 1 from by omega, turn1 (by omega) hw st]
    rw [show pre.length + ((flat l).length + (flat r).length + 1) - 1 = (pre ++ flat l).length + (flat r).length from by simp; omega]
    rw [ihr (pre ++ flat l) _ (n + (flat l).length) (w + 1) e'' (by omega)]
    rw [show w + 1 - 1 = w from by omega, List.length_append]
    exact ihl pre _ n w e' hw

theorem parts_any {f : Bool} {l r : Ty} {μ : Mu} (hl : (flat (.node f l r)).length ≤ 1000) : f_parts [.d (.list (flat (.node f l r)))] μ = some (.list [.list (flat l), .list (flat r)], μ) := by
  rw [f_parts_at rfl]
  unfold b_parts_of
  have hfl : (flat (.node f l r)).length = (flat l).length + (flat r).length + 1 := by simp [flat]; omega
  obtain ⟨ts, hts⟩ : ∃ ts, ts = flat (.node f l r) := ⟨_, rfl⟩
  have e3 : ts = flat l ++ flat r ++ [.tuple [.str (mk f), .int 0]] := by rw [hts]; rfl
  rw [← hts] at hl hfl ⊢
  have hlen := len_list (xs := ts) (by omega)
  have hlast : idxD (.list ts) (.int ((ts.length : Int) - 1)) = some (.tuple [.str (mk f), .int 0]) := idx_list (by omega) (by
    rw [show ((ts.length : Int) - 1).toNat = (flat l ++ flat r).length from by simp; omega, e3, List.getElem?_append_right (Nat.le_refl _), Nat.sub_self]; rfl)
  have pl := flat_pos l
  have hsc := scan (F := []) (μ := μ) (last := (ts.length : Int) - 1) hl r (flat l) [.tuple [.str (mk f), .int 0]] ((flat l).length + 2) 1 e3 (by omega)
  have hend : whileF (evB [] testS) (evSs [] stepS) ((flat l).length + 2) [some (.d (.list ts)), some (.d (.int ((ts.length : Int) - 1))), some (.d (.int ((flat l).length : Int))), some (.d (.int ((1 - 1 : Nat) : Int)))] μ = some (.next, [some (.d (.list ts)), some (.d (.int ((ts.length : Int) - 1))), some (.d (.int ((flat l).length : Int))), some (.d (.int 0))], μ) := by
    show whileF _ _ (((flat l).length + 1) + 1) [some (.d (.list ts)), some (.d (.int ((ts.length : Int) - 1))), some (.d (.int ((flat l).length : Int))), some (.d (.int 0))] μ = _
    simp only [whileF, test_false, Option.bind_some]; rfl
  rw [hend] at hsc
  have hlm : ts.length ≤ 16777216 := by omega
  have s1 : slcD (.list ts) .none (.int ((flat l).length : Int)) = some (.list (flat l)) := by
    simp only [slcD, loD, hiD, if_pos (by omega : (0 : Int) ≤ ((flat l).length : Int)), Option.bind_eq_bind, Option.bind_some, if_pos hlm]
    rw [e3]; simp
  have s2 : slcD (.list ts) (.int ((flat l).length : Int)) (.int ((ts.length : Int) - 1)) = some (.list (flat r)) := by
    simp only [slcD, loD, hiD, if_pos (by omega : (0 : Int) ≤ ((flat l).length : Int)), if_pos (by omega : (0 : Int) ≤ (ts.length : Int) - 1), Option.bind_eq_bind, Option.bind_some, if_pos hlm]
    rw [show ((ts.length : Int) - 1).toNat = (flat l ++ flat r).length from by simp; omega, e3, List.take_left' rfl, show (((flat l).length : Int)).toNat = (flat l).length from by omega, List.drop_left' rfl]
  apply fn_d (x := .list [.list (flat l), .list (flat r)]) (μ' := μ)
  case e => rw [List.take_length]
  refine ss_assign (x := .d (.int ((ts.length : Int) - 1))) (μ₁ := μ) (e_bin' (e_prim1 (e_var rfl) hlen) e_int rfl) ?_
  refine ss_ite_f (μ₁ := μ) ?_ ss_nil ?_
  · cases f with
    | true => exact b_bop (bs_and_f (b_val (e_cmp' (e_idx' (e_idx' (e_var rfl) (e_var rfl) hlast) e_int rfl) e_str rfl)))
    | false => exact b_bop (bs_and_t (b_val (e_cmp' (e_idx' (e_idx' (e_var rfl) (e_var rfl) hlast) e_int rfl) e_str rfl)) (bs_and_f (b_val (e_cmp' (e_idx' (e_idx' (e_var rfl) (e_var rfl) hlast) e_int rfl) e_str rfl))))
  · apply then_next
    refine ss_assign (x := .d (.int ((ts.length : Int) - 1))) (μ₁ := μ) (e_var rfl) ?_
    refine ss_assign (x := .d (.int 1)) (μ₁ := μ) e_int ?_
    refine ss_whl (o := (.next, [some (.d (.list ts)), some (.d (.int ((ts.length : Int) - 1))), some (.d (.int ((flat l).length : Int))), some (.d (.int 0))], μ)) ?_ ?_
    · show whileF (evB [] testS) (evSs [] stepS) (ts.length + 1) [some (.d (.list ts)), some (.d (.int ((ts.length : Int) - 1))), some (.d (.int ((ts.length : Int) - 1))), some (.d (.int 1))] μ = _
      rw [← hsc]
      congr 1
      · omega
      · rw [show (ts.length : Int) - 1 = (((flat l).length + (flat r).length : Nat) : Int) from by omega]; rfl
    · apply then_next
      exact ss_ret (e_lst (l_cons (e_slc' (e_var rfl) e_none (e_var rfl) s1) (l_cons (e_slc' (e_var rfl) (e_var rfl) (e_var rfl) s2) l_nil)) rfl (Nat.le_of_ble_eq_true rfl))
def fitS : MSs := (.cons (.ite (.val (.cmp .Eq (.var 2) (.lst .nil)))
 (.cons (.ret (.bool true))
 .nil)
 .nil)
 (.cons (.unpack [5, 6] (.idx (.var 2) (.bin .Sub (.prim .len (.cons (.var 2) .nil)) (.int 1))))
 (.cons (.delat 2 (.bin .Sub (.prim .len (.cons (.var 2) .nil)) (.int 1)))
 (.cons (.assign 4 (.idx (.idx (.var 6) (.bin .Sub (.prim .len (.cons (.var 6) .nil)) (.int 1))) (.int 0)))
 (.cons (.ite (.val (.cmp .Eq (.var 4) (.str ⟨#[118, 97, 114]⟩)))
 (.cons .cont
 .nil)
 .nil)
 (.cons (.ite (.val (.cmp .Eq (.var 4) (.str ⟨#[102, 117, 110]⟩)))
 (.cons (.ite (.val (.cmp .NotEq (.idx (.var 5) (.int 0)) (.str ⟨#[99, 108, 111]⟩)))
 (.cons (.ret (.bool false))
 .nil)
 .nil)
 .nil)
 (.cons (.ite (.val (.cmp .NotEq (.idx (.var 5) (.int 0)) (.var 4)))
 (.cons (.ret (.bool false))
 .nil)
 (.cons (.ite (.val (.cmp .Eq (.var 4) (.str ⟨#[112, 97, 105, 114]⟩)))
 (.cons (.assign 7 (.call 0 (.cons (.var 6) .nil)))
 (.cons (.append 2 (.tup (.cons (.idx (.var 5) (.int 2)) (.cons (.idx (.var 7) (.int 1)) .nil))))
 (.cons (.append 2 (.tup (.cons (.idx (.var 5) (.int 1)) (.cons (.idx (.var 7) (.int 0)) .nil))))
 .nil)))
 .nil)
 .nil))
 .nil))
 .nil))))))
theorem b_fits_eq : b_value_fits = .cons (.newlist 2 (.cons (.tup (.cons (.var 0) (.cons (.var 1) .nil))) .nil)) (.cons (.forr 3 (.prim .len (.cons (.var 1) .nil)) fitS) (.cons (.ret (.bool true)) .nil)) := rfl
end Mini

namespace Mini
open PySem
local macro_rules | `(tactic| walk_at "evd") => `(tactic| first
  | ((with_reducible apply e_var); exact rfl)
  | with_reducible exact e_int | with_reducible exact e_str | with_reducible apply l_cons | with_reducible exact l_nil
  | with_reducible apply e_bin' | with_reducible apply e_idx' | with_reducible apply e_cmp'
  | with_reducible apply e_tup | with_reducible apply e_lst | with_reducible exact e_none | with_reducible exact e_bool
  | with_reducible apply e_prim1 | with_reducible apply e_prim2 | with_reducible apply e_call | with_reducible apply e_slc' | with_reducible apply e_isBool
  | with_reducible assumption
  | with_reducible apply b_val | with_reducible apply b_bop | with_reducible exact bs_and_nil | with_reducible exact bs_or_nil
  | ((with_reducible apply bs_and_f); (repeat walk_at "evd"); done) | ((with_reducible apply bs_and_t); (case h => (repeat walk_at "evd"); done))
  | ((with_reducible apply bs_or_t); (repeat walk_at "evd"); done) | ((with_reducible apply bs_or_f); (case h => (repeat walk_at "evd"); done))
  | with_reducible apply b_not_t | with_reducible apply b_not_f
  | ((with_reducible apply e_ite_t); (case hc => (repeat walk_at "evd"); done)) | ((with_reducible apply e_ite_f); (case hc => (repeat walk_at "evd"); done))
  | ((with_reducible apply e_bop); (case ha => (repeat walk_at "evd"); done))
  | with_reducible exact v_nil | ((with_reducible apply v_stop); (case hr => exact rfl)) | ((with_reducible apply v_on); (case hr => exact rfl))
  | with_reducible exact ss_nil | with_reducible apply ss_ret | with_reducible apply ss_assign | with_reducible apply ss_unpack
  | ((with_reducible apply ss_ite_t); (case hc => (repeat walk_at "evd"); done)) | ((with_reducible apply ss_ite_f); (case hc => (repeat walk_at "evd"); done))
  | with_reducible exact then_ret | with_reducible apply then_next
  | exact rfl
  | exact Nat.le_of_ble_eq_true rfl)



inductive Vl where
  | int (n : Int)
  | bool (b : Int)
  | clo (p : Int) (e : PyData)
  | pair (a b : Vl)
def Vl.tag : Vl → Str
  | .int _ => ⟨#[105, 110, 116]⟩
  | .bool _ => ⟨#[98, 111, 111, 108]⟩
  | .clo _ _ => ⟨#[99, 108, 111]⟩
  | .pair _ _ => ⟨#[112, 97, 105, 114]⟩
def encV : Vl → PyData
  | .int n => .tuple [.str ⟨#[105, 110, 116]⟩, .int n]
  | .bool b => .tuple [.str ⟨#[98, 111, 111, 108]⟩, .int b]
  | .clo p e => .tuple [.str ⟨#[99, 108, 111]⟩, .int p, e]
  | .pair a b => .tuple [.str ⟨#[112, 97, 105, 114]⟩, encV a, encV b]
def okV : Vl → Prop
  | .clo _ e => e.canLay0 = true
  | .pair a b => okV a ∧ okV b
  | _ => True
def fits : Vl → Ty → Bool
  | _, .var _ => true
  | v, .node true _ _ => v.tag == (⟨#[99, 108, 111]⟩ : Str)
  | v, .int => v.tag == (⟨#[105, 110, 116]⟩ : Str)
  | v, .bool => v.tag == (⟨#[98, 111, 111, 108]⟩ : Str)
  | .pair a b, .node false l r => fits a l && fits b r
  | _, .node false _ _ => false
theorem encV_lay : ∀ v : Vl, okV v → (encV v).canLay0 = true
  | .int n, _ => by simp only [encV, PyData.canLay0, PyData.canLayAll0]; decide +kernel
  | .bool n, _ => by simp only [encV, PyData.canLay0, PyData.canLayAll0]; decide +kernel
  | .clo p e, h => by
    have h' : e.canLay0 = true := h
    simp only [encV, PyData.canLay0, PyData.canLayAll0, h']; decide +kernel
  | .pair a b, h => by simp only [encV, PyData.canLay0, PyData.canLayAll0, encV_lay a h.1, encV_lay b h.2]; decide +kernel
theorem lay_append : ∀ a b : List PyData, PyData.canLayAll0 a = true → PyData.canLayAll0 b = true → PyData.canLayAll0 (a ++ b) = true
  | [], _, _, hb => hb
  | x :: a, b, ha, hb => by
    simp only [PyData.canLayAll0, Bool.and_eq_true] at ha
    simp only [List.cons_append, PyData.canLayAll0, ha.1, lay_append a b ha.2 hb, Bool.and_self]
theorem flat_lay : ∀ T : Ty, PyData.canLayAll0 (flat T) = true
  | .int => by simp only [flat, PyData.canLay0, PyData.canLayAll0]; decide +kernel
  | .bool => by simp only [flat, PyData.canLay0, PyData.canLayAll0]; decide +kernel
  | .var k => by simp only [flat, PyData.canLay0, PyData.canLayAll0]; decide +kernel
  | .node f l r => by
    simp only [flat]
    refine lay_append _ _ (lay_append _ _ (flat_lay l) (flat_lay r)) ?_
    cases f <;> (simp only [mk, PyData.canLay0, PyData.canLayAll0]; decide +kernel)
def encE (p : Vl × Ty) : PyData := .tuple [encV p.1, .list (flat p.2)]
theorem encE_lay {p : Vl × Ty} (h : okV p.1) : (encE p).canLay0 = true := by
  simp only [encE, PyData.canLay0, PyData.canLayAll0, encV_lay p.1 h, flat_lay p.2, Bool.and_self]
theorem stk_lay : ∀ S : List (Vl × Ty), (∀ p ∈ S, okV p.1) → PyData.canLayAll0 (S.map encE) = true
  | [], _ => rfl
  | p :: S, h => by
    simp only [List.map_cons, PyData.canLayAll0, encE_lay (h p (.head _)), stk_lay S fun q m => h q (.tail _ m), Bool.and_self]

def tailF : MSs := (.cons (.ite (.val (.cmp .Eq (.var 4) (.str ⟨#[118, 97, 114]⟩)))
 (.cons .cont
 .nil)
 .nil)
 (.cons (.ite (.val (.cmp .Eq (.var 4) (.str ⟨#[102, 117, 110]⟩)))
 (.cons (.ite (.val (.cmp .NotEq (.idx (.var 5) (.int 0)) (.str ⟨#[99, 108, 111]⟩)))
 (.cons (.ret (.bool false))
 .nil)
 .nil)
 .nil)
 (.cons (.ite (.val (.cmp .NotEq (.idx (.var 5) (.int 0)) (.var 4)))
 (.cons (.ret (.bool false))
 .nil)
 (.cons (.ite (.val (.cmp .Eq (.var 4) (.str ⟨#[112, 97, 105, 114]⟩)))
 (.cons (.assign 7 (.call 0 (.cons (.var 6) .nil)))
 (.cons (.append 2 (.tup (.cons (.idx (.var 5) (.int 2)) (.cons (.idx (.var 7) (.int 1)) .nil))))
 (.cons (.append 2 (.tup (.cons (.idx (.var 5) (.int 1)) (.cons (.idx (.var 7) (.int 0)) .nil))))
 .nil)))
 .nil)
 .nil))
 .nil))
 .nil))
section
variable {va ta tn mk0 v0 u0 pa : Option MV} {l us : List PyData} {vd : PyData} {mkr : Str} {nm : Int} {r : Option (Out × Rho × Mu)}
theorem empty_ok : evSs [f_parts] fitS [va, ta, some (.r 0), tn, mk0, v0, u0, pa] [[]] = some (.ret (.d (.bool true)), [va, ta, some (.r 0), tn, mk0, v0, u0, pa], [[]]) := by
  unfold fitS
  exact ss_ite_t (b_val (e_cmp (e_var rfl) (e_lst l_nil rfl (Nat.le_of_ble_eq_true rfl)) rfl rfl rfl)) (ss_ret e_bool) then_ret
theorem pop_ok (hl : l.length ≤ 1000) (hus : us.length ≤ 1000) (hlay : PyData.canLayAll0 (l ++ [.tuple [vd, .list us]]) = true) (hu0 : 1 ≤ us.length) (hu : us[us.length - 1]? = some (.tuple [.str mkr, .int nm]))
    (hr : evSs [f_parts] tailF [va, ta, some (.r 0), tn, some (.d (.str mkr)), some (.d vd), some (.d (.list us)), pa] [l] = r) :
    evSs [f_parts] fitS [va, ta, some (.r 0), tn, mk0, v0, u0, pa] [l ++ [.tuple [vd, .list us]]] = r := by
  have hlen : primD .len [.list (l ++ [.tuple [vd, .list us]])] = some (.int ((l.length : Int) + 1)) := by
    simp only [primD, List.length_append, List.length_singleton]; rw [if_pos (by omega)]; rfl
  have hlu : primD .len [.list us] = some (.int (us.length : Int)) := len_list (by omega)
  have hidx : idxD (.list (l ++ [.tuple [vd, .list us]])) (.int ((l.length : Int) + 1 - 1)) = some (.tuple [vd, .list us]) := idx_list (by omega) (by
    rw [show ((l.length : Int) + 1 - 1).toNat = l.length from by omega, List.getElem?_append_right (Nat.le_refl _), Nat.sub_self]; rfl)
  have hux : idxD (.list us) (.int ((us.length : Int) - 1)) = some (.tuple [.str mkr, .int nm]) := idx_list (by omega) (by rw [show ((us.length : Int) - 1).toNat = us.length - 1 from by omega]; exact hu)
  have hne : cmpD .Eq (.list (l ++ [.tuple [vd, .list us]])) (.list []) = some false := by
    have h1 : eqOk (.list (l ++ [.tuple [vd, .list us]])) (.list []) = true := by
      unfold eqOk
      rw [show (PyData.list (l ++ [.tuple [vd, .list us]])).canLay0 = true from by simp only [PyData.canLay0]; exact hlay]
      rw [show (PyData.list []).canLay0 = true from rfl, Bool.and_self, Bool.true_and]
      exact decide_eq_true (Nat.le_trans (Nat.min_le_right _ _) (by simp [PyData.depth, PyData.depthAll]))
    show (if eqOk (.list (l ++ [.tuple [vd, .list us]])) (.list []) then some (PyData.eqv (.list (l ++ [.tuple [vd, .list us]])) (.list [])) else none) = _
    rw [if_pos h1]
    cases l <;> rfl
  have her : (l ++ [PyData.tuple [vd, .list us]]).eraseIdx ((l.length : Int) + 1 - 1).toNat = l := by
    rw [show ((l.length : Int) + 1 - 1).toNat = l.length from by omega, List.eraseIdx_append_of_length_le (Nat.le_refl _), Nat.sub_self]; simp
  unfold fitS
  refine ss_ite_f (μ₁ := [l ++ [.tuple [vd, .list us]]]) (b_val (e_cmp (e_var rfl) (e_lst l_nil rfl (Nat.le_of_ble_eq_true rfl)) rfl rfl hne)) ss_nil ?_
  apply then_next
  refine ss_unpack (xs := [vd, .list us]) (μ₁ := [l ++ [.tuple [vd, .list us]]]) (e_idx (e_var rfl) (e_bin' (e_prim (l_cons (e_var rfl) l_nil) rfl hlen) e_int rfl) rfl rfl hidx) rfl ?_
  refine ss_delat (k := (l.length : Int) + 1 - 1) (μ₁ := [l ++ [.tuple [vd, .list us]]]) (xs := l ++ [.tuple [vd, .list us]]) rfl (e_bin' (e_prim (l_cons (e_var rfl) l_nil) rfl hlen) e_int rfl) rfl ⟨by omega, by simp; omega, by simp; omega⟩ ?_
  rw [her]
  refine ss_assign (x := .d (.str mkr)) (μ₁ := [l]) (e_idx' (e_idx' (e_var rfl) (e_bin' (e_prim1 (e_var rfl) hlu) e_int rfl) hux) e_int rfl) ?_
  exact hr

theorem t_var : evSs [f_parts] tailF [va, ta, some (.r 0), tn, some (.d (.str ⟨#[118, 97, 114]⟩)), some (.d vd), some (.d (.list us)), pa] [l] = some (.cont, [va, ta, some (.r 0), tn, some (.d (.str ⟨#[118, 97, 114]⟩)), some (.d vd), some (.d (.list us)), pa], [l]) := by
  unfold tailF
  exact ss_ite_t (b_val (e_cmp' (e_var rfl) e_str rfl)) ss_cont then_cont
theorem t_fun {tg : Str} {rs : List PyData} (b : Bool) (hb : (tg == (⟨#[99, 108, 111]⟩ : Str)) = b) : evSs [f_parts] tailF [va, ta, some (.r 0), tn, some (.d (.str ⟨#[102, 117, 110]⟩)), some (.d (.tuple (.str tg :: rs))), some (.d (.list us)), pa] [l] =
    some (if b then .next else .ret (.d (.bool false)), [va, ta, some (.r 0), tn, some (.d (.str ⟨#[102, 117, 110]⟩)), some (.d (.tuple (.str tg :: rs))), some (.d (.list us)), pa], [l]) := by
  unfold tailF
  have c1 : cmpD .NotEq (.str tg) (.str ⟨#[99, 108, 111]⟩) = some (!b) := by simp only [cmpD, bne, hb]
  refine ss_ite_f (b_val (e_cmp' (e_var rfl) e_str rfl)) ss_nil ?_
  apply then_next
  cases b with
  | true =>
    refine ss_ite_t (b_val (e_cmp' (e_var rfl) e_str rfl)) (o := (.next, [va, ta, some (.r 0), tn, some (.d (.str ⟨#[102, 117, 110]⟩)), some (.d (.tuple (.str tg :: rs))), some (.d (.list us)), pa], [l])) ?_ (then_next ss_nil)
    exact ss_ite_f (b_val (e_cmp' (e_idx' (e_var rfl) e_int rfl) e_str c1)) ss_nil (then_next ss_nil)
  | false =>
    refine ss_ite_t (b_val (e_cmp' (e_var rfl) e_str rfl)) (o := (.ret (.d (.bool false)), [va, ta, some (.r 0), tn, some (.d (.str ⟨#[102, 117, 110]⟩)), some (.d (.tuple (.str tg :: rs))), some (.d (.list us)), pa], [l])) ?_ then_ret
    exact ss_ite_t (b_val (e_cmp' (e_idx' (e_var rfl) e_int rfl) e_str c1)) (ss_ret e_bool) then_ret
theorem t_leaf {tg : Str} {rs : List PyData} (b : Bool) (hb : (tg == mkr) = b) (h1 : (mkr == (⟨#[118, 97, 114]⟩ : Str)) = false) (h2 : (mkr == (⟨#[102, 117, 110]⟩ : Str)) = false) (h3 : b = true → (mkr == (⟨#[112, 97, 105, 114]⟩ : Str)) = false) :
    evSs [f_parts] tailF [va, ta, some (.r 0), tn, some (.d (.str mkr)), some (.d (.tuple (.str tg :: rs))), some (.d (.list us)), pa] [l] =
    some (if b then .next else .ret (.d (.bool false)), [va, ta, some (.r 0), tn, some (.d (.str mkr)), some (.d (.tuple (.str tg :: rs))), some (.d (.list us)), pa], [l]) := by
  unfold tailF
  have c0 : cmpD .Eq (.str mkr) (.str ⟨#[118, 97, 114]⟩) = some false := by simp only [cmpD, h1]
  have c2 : cmpD .Eq (.str mkr) (.str ⟨#[102, 117, 110]⟩) = some false := by simp only [cmpD, h2]
  have c1 : cmpD .NotEq (.str tg) (.str mkr) = some (!b) := by simp only [cmpD, bne, hb]
  refine ss_ite_f (b_val (e_cmp' (e_var rfl) e_str c0)) ss_nil ?_
  apply then_next
  cases b with
  | true =>
    have c3 : cmpD .Eq (.str mkr) (.str ⟨#[112, 97, 105, 114]⟩) = some false := by simp only [cmpD, h3 rfl]
    refine ss_ite_f (b_val (e_cmp' (e_var rfl) e_str c2)) (o := (.next, [va, ta, some (.r 0), tn, some (.d (.str mkr)), some (.d (.tuple (.str tg :: rs))), some (.d (.list us)), pa], [l])) ?_ (then_next ss_nil)
    refine ss_ite_f (b_val (e_cmp' (e_idx' (e_var rfl) e_int rfl) (e_var rfl) c1)) (o := (.next, [va, ta, some (.r 0), tn, some (.d (.str mkr)), some (.d (.tuple (.str tg :: rs))), some (.d (.list us)), pa], [l])) ?_ (then_next ss_nil)
    exact ss_ite_f (b_val (e_cmp' (e_var rfl) e_str c3)) ss_nil (then_next ss_nil)
  | false =>
    refine ss_ite_f (b_val (e_cmp' (e_var rfl) e_str c2)) (o := (.ret (.d (.bool false)), [va, ta, some (.r 0), tn, some (.d (.str mkr)), some (.d (.tuple (.str tg :: rs))), some (.d (.list us)), pa], [l])) ?_ then_ret
    exact ss_ite_t (b_val (e_cmp' (e_idx' (e_var rfl) e_int rfl) (e_var rfl) c1)) (ss_ret e_bool) then_ret
theorem t_pair {A B : Vl} {L R : Ty} (hl : l.length ≤ 1000) (hT : (flat (.node false L R)).length ≤ 1000) : evSs [f_parts] tailF [va, ta, some (.r 0), tn, some (.d (.str ⟨#[112, 97, 105, 114]⟩)), some (.d (encV (.pair A B))), some (.d (.list (flat (.node false L R)))), pa] [l] =
    some (.next, [va, ta, some (.r 0), tn, some (.d (.str ⟨#[112, 97, 105, 114]⟩)), some (.d (encV (.pair A B))), some (.d (.list (flat (.node false L R)))), some (.d (.list [.list (flat L), .list (flat R)]))], [l ++ [encE (B, R)] ++ [encE (A, L)]]) := by
  unfold tailF
  refine ss_ite_f (b_val (e_cmp' (e_var rfl) e_str rfl)) ss_nil ?_
  apply then_next
  have body : evSs [f_parts] (.cons (.assign 7 (.call 0 (.cons (.var 6) .nil))) (.cons (.append 2 (.tup (.cons (.idx (.var 5) (.int 2)) (.cons (.idx (.var 7) (.int 1)) .nil)))) (.cons (.append 2 (.tup (.cons (.idx (.var 5) (.int 1)) (.cons (.idx (.var 7) (.int 0)) .nil)))) .nil))) [va, ta, some (.r 0), tn, some (.d (.str ⟨#[112, 97, 105, 114]⟩)), some (.d (encV (.pair A B))), some (.d (.list (flat (.node false L R)))), pa] [l] =
      some (.next, [va, ta, some (.r 0), tn, some (.d (.str ⟨#[112, 97, 105, 114]⟩)), some (.d (encV (.pair A B))), some (.d (.list (flat (.node false L R)))), some (.d (.list [.list (flat L), .list (flat R)]))], [l ++ [encE (B, R)] ++ [encE (A, L)]]) := by
    have hp1 : f_parts [.d (.list (flat (.node false L R)))] [l] = some (.list [.list (flat L), .list (flat R)], [l]) := parts_any hT
    refine ss_assign (x := .d (.list [.list (flat L), .list (flat R)])) (μ₁ := [l]) (e_call (l_cons (e_var rfl) l_nil) rfl hp1) ?_
    refine ss_append (μ₁ := [l]) (xs := l) (dx := encE (B, R)) rfl (e_tup (l_cons (e_idx' (dx := encV (.pair A B)) (e_var rfl) e_int rfl) (l_cons (e_idx' (e_var rfl) e_int rfl) l_nil)) rfl (Nat.le_of_ble_eq_true rfl)) rfl (by omega) ?_
    refine ss_append (μ₁ := [l ++ [encE (B, R)]]) (xs := l ++ [encE (B, R)]) (dx := encE (A, L)) rfl (e_tup (l_cons (e_idx' (dx := encV (.pair A B)) (e_var rfl) e_int rfl) (l_cons (e_idx' (e_var rfl) e_int rfl) l_nil)) rfl (Nat.le_of_ble_eq_true rfl)) rfl (by simp; omega) ?_
    exact ss_nil
  refine ss_ite_f (b_val (e_cmp' (e_var rfl) e_str rfl)) (o := (.next, [va, ta, some (.r 0), tn, some (.d (.str ⟨#[112, 97, 105, 114]⟩)), some (.d (encV (.pair A B))), some (.d (.list (flat (.node false L R)))), some (.d (.list [.list (flat L), .list (flat R)]))], [l ++ [encE (B, R)] ++ [encE (A, L)]])) ?_ (then_next ss_nil)
  refine ss_ite_f (b_val (e_cmp' (e_idx' (dx := encV (.pair A B)) (e_var rfl) e_int rfl) (e_var rfl) rfl)) (o := (.next, [va, ta, some (.r 0), tn, some (.d (.str ⟨#[112, 97, 105, 114]⟩)), some (.d (encV (.pair A B))), some (.d (.list (flat (.node false L R)))), some (.d (.list [.list (flat L), .list (flat R)]))], [l ++ [encE (B, R)] ++ [encE (A, L)]])) ?_ (then_next ss_nil)
  exact ss_ite_t (b_val (e_cmp' (e_var rfl) e_str rfl)) body (then_next ss_nil)
end
end Mini

namespace Mini
open PySem
local macro_rules | `(tactic| walk_at "evd") => `(tactic| first
  | ((with_reducible apply e_var); exact rfl)
  | with_reducible exact e_int | with_reducible exact e_str | with_reducible apply l_cons | with_reducible exact l_nil
  | with_reducible apply e_bin' | with_reducible apply e_idx' | with_reducible apply e_cmp'
  | with_reducible apply e_tup | with_reducible apply e_lst | with_reducible exact e_none | with_reducible exact e_bool
  | with_reducible apply e_prim1 | with_reducible apply e_prim2 | with_reducible apply e_call | with_reducible apply e_slc' | with_reducible apply e_isBool
  | with_reducible assumption
  | with_reducible apply b_val | with_reducible apply b_bop | with_reducible exact bs_and_nil | with_reducible exact bs_or_nil
  | ((with_reducible apply bs_and_f); (repeat walk_at "evd"); done) | ((with_reducible apply bs_and_t); (case h => (repeat walk_at "evd"); done))
  | ((with_reducible apply bs_or_t); (repeat walk_at "evd"); done) | ((with_reducible apply bs_or_f); (case h => (repeat walk_at "evd"); done))
  | with_reducible apply b_not_t | with_reducible apply b_not_f
  | ((with_reducible apply e_ite_t); (case hc => (repeat walk_at "evd"); done)) | ((with_reducible apply e_ite_f); (case hc => (repeat walk_at "evd"); done))
  | ((with_reducible apply e_bop); (case ha => (repeat walk_at "evd"); done))
  | with_reducible exact v_nil | ((with_reducible apply v_stop); (case hr => exact rfl)) | ((with_reducible apply v_on); (case hr => exact rfl))
  | with_reducible exact ss_nil | with_reducible apply ss_ret | with_reducible apply ss_assign | with_reducible apply ss_unpack
  | ((with_reducible apply ss_ite_t); (case hc => (repeat walk_at "evd"); done)) | ((with_reducible apply ss_ite_f); (case hc => (repeat walk_at "evd"); done))
  | with_reducible exact then_ret | with_reducible apply then_next
  | exact rfl
  | exact Nat.le_of_ble_eq_true rfl)



def szS : List (Vl × Ty) → Nat
  | [] => 0
  | p :: S => (flat p.2).length + szS S
theorem szS_append : ∀ a b : List (Vl × Ty), szS (a ++ b) = szS a + szS b
  | [], b => by simp [szS]
  | p :: a, b => by simp only [List.cons_append, szS, szS_append a b]; omega
theorem len_le : ∀ S : List (Vl × Ty), S.length ≤ szS S
  | [] => Nat.le_refl _
  | p :: S => by have := flat_pos p.2; have := len_le S; simp only [List.length_cons, szS]; omega
def allS (S : List (Vl × Ty)) : Bool := S.all fun p => fits p.1 p.2
theorem allS_append (a b : List (Vl × Ty)) : allS (a ++ b) = (allS a && allS b) := List.all_append
theorem allS_one (v : Vl) (T : Ty) : allS [(v, T)] = fits v T := by simp [allS]
theorem encV_form (v : Vl) : ∃ rs, encV v = .tuple (.str v.tag :: rs) := by cases v <;> exact ⟨_, rfl⟩
theorem fits_var (v : Vl) (k : Int) : fits v (.var k) = true := by cases v <;> rfl
theorem fits_fun (v : Vl) (l r : Ty) : fits v (.node true l r) = (v.tag == (⟨#[99, 108, 111]⟩ : Str)) := by cases v <;> rfl
theorem fits_int (v : Vl) : fits v .int = (v.tag == (⟨#[105, 110, 116]⟩ : Str)) := by cases v <;> rfl
theorem fits_bool (v : Vl) : fits v .bool = (v.tag == (⟨#[98, 111, 111, 108]⟩ : Str)) := by cases v <;> rfl

def Fin3 (S : List (Vl × Ty)) (o : Out) : Prop := (allS S = true ∧ (o = .next ∨ o = .ret (.d (.bool true)))) ∨ (allS S = false ∧ o = .ret (.d (.bool false)))
theorem Fin3.more {S U : List (Vl × Ty)} {o : Out} (h : Fin3 S o) (e : allS U = allS S) : Fin3 U o := by unfold Fin3; rw [e]; exact h

theorem fits_loop {va ta : Option MV} : ∀ (r : Nat) (k : Int) (S : List (Vl × Ty)) (tn mk0 v0 u0 pa : Option MV), (∀ p ∈ S, okV p.1) → szS S ≤ r → szS S ≤ 500 →
    ∃ o ρ' μ', forF 3 (evSs [f_parts] fitS) r k [va, ta, some (.r 0), tn, mk0, v0, u0, pa] [S.map encE] = some (o, ρ', μ') ∧ Fin3 S o
  | 0, k, S, tn, mk0, v0, u0, pa, hok, hsz, _ => by
    have h1 := len_le S
    have h2 : S = [] := List.length_eq_zero_iff.mp (by omega)
    subst h2
    exact ⟨_, _, _, rfl, .inl ⟨rfl, .inl rfl⟩⟩
  | r + 1, k, S, tn, mk0, v0, u0, pa, hok, hsz, hb => by
    have go : ∀ {o ρ₁ μ₁}, evSs [f_parts] fitS [va, ta, some (.r 0), some (.d (.int k)), mk0, v0, u0, pa] [S.map encE] = some (o, ρ₁, μ₁) →
        forF 3 (evSs [f_parts] fitS) (r + 1) k [va, ta, some (.r 0), tn, mk0, v0, u0, pa] [S.map encE] = (match o with | .next => forF 3 (evSs [f_parts] fitS) r (k + 1) ρ₁ μ₁ | .cont => forF 3 (evSs [f_parts] fitS) r (k + 1) ρ₁ μ₁ | .ret v => some (.ret v, ρ₁, μ₁)) := by
      intro o ρ₁ μ₁ h
      simp only [forF, List.set_cons_succ, List.set_cons_zero]
      rw [h]; rfl
    rcases List.eq_nil_or_concat S with rfl | ⟨S', x, rfl⟩
    · exact ⟨_, _, _, (go empty_ok).trans rfl, .inl ⟨rfl, .inr rfl⟩⟩
    · obtain ⟨v, T⟩ := x
      rw [List.concat_eq_append] at hok hsz hb go ⊢
      rw [szS_append] at hsz hb
      have hp := flat_pos T
      simp only [szS] at hsz hb
      have hl' := len_le S'
      have hok' : ∀ p ∈ S', okV p.1 := fun p m => hok p (List.mem_append_left _ m)
      have okv : okV v := hok (v, T) (List.mem_append_right _ (.head _))
      have em : (S' ++ [(v, T)]).map encE = S'.map encE ++ [.tuple [encV v, .list (flat T)]] := by simp [encE]
      have hlay : PyData.canLayAll0 (S'.map encE ++ [.tuple [encV v, .list (flat T)]]) = true := by rw [← em]; exact stk_lay _ hok
      have pop := fun {rr} (hr) => pop_ok (va := va) (ta := ta) (tn := some (.d (.int k))) (mk0 := mk0) (v0 := v0) (u0 := u0) (pa := pa) (l := S'.map encE) (us := flat T) (vd := encV v) (r := rr) (by simp; omega) (by omega) hlay hp (flat_last T) hr
      rw [em] at go ⊢
      have key : ∀ b : Bool, fits v T = b → evSs [f_parts] tailF [va, ta, some (.r 0), some (.d (.int k)), some (.d (.str T.top)), some (.d (encV v)), some (.d (.list (flat T))), pa] [S'.map encE] = some (if b then .next else .ret (.d (.bool false)), [va, ta, some (.r 0), some (.d (.int k)), some (.d (.str T.top)), some (.d (encV v)), some (.d (.list (flat T))), pa], [S'.map encE]) →
          ∃ o ρ' μ', forF 3 (evSs [f_parts] fitS) (r + 1) k [va, ta, some (.r 0), tn, mk0, v0, u0, pa] [S'.map encE ++ [.tuple [encV v, .list (flat T)]]] = some (o, ρ', μ') ∧ Fin3 (S' ++ [(v, T)]) o := by
        intro b hbv h
        have h2 := go (pop h)
        cases b with
        | true =>
          obtain ⟨o, ρ', μ', e1, e2⟩ := fits_loop r (k + 1) S' (some (.d (.int k))) (some (.d (.str T.top))) (some (.d (encV v))) (some (.d (.list (flat T)))) pa hok' (by omega) (by omega)
          exact ⟨o, ρ', μ', h2.trans e1, e2.more (by rw [allS_append, allS_one, hbv, Bool.and_true])⟩
        | false => exact ⟨_, _, _, h2, .inr ⟨by rw [allS_append, allS_one, hbv, Bool.and_false], rfl⟩⟩
      obtain ⟨rs, hrs⟩ := encV_form v
      cases T with
      | var n =>
        have h2 := go (pop t_var)
        obtain ⟨o, ρ', μ', e1, e2⟩ := fits_loop r (k + 1) S' (some (.d (.int k))) (some (.d (.str ⟨#[118, 97, 114]⟩))) (some (.d (encV v))) (some (.d (.list (flat (.var n))))) pa hok' (by omega) (by omega)
        exact ⟨o, ρ', μ', h2.trans e1, e2.more (by rw [allS_append, allS_one, fits_var, Bool.and_true])⟩
      | int =>
        refine key _ (fits_int v) ?_
        rw [hrs]
        exact t_leaf (mkr := ⟨#[105, 110, 116]⟩) _ rfl rfl rfl fun _ => rfl
      | bool =>
        refine key _ (fits_bool v) ?_
        rw [hrs]
        exact t_leaf (mkr := ⟨#[98, 111, 111, 108]⟩) _ rfl rfl rfl fun _ => rfl
      | node f L R =>
        cases f with
        | true =>
          refine key _ (fits_fun v L R) ?_
          rw [hrs]
          exact t_fun _ rfl
        | false =>
          have hnot : (∀ a b, v ≠ .pair a b) → fits v (.node false L R) = false ∧ (v.tag == (⟨#[112, 97, 105, 114]⟩ : Str)) = false := fun h => by
            cases v with
            | pair a b => exact absurd rfl (h a b)
            | _ => exact ⟨rfl, rfl⟩
          by_cases hpair : ∃ a b, v = .pair a b
          · obtain ⟨a, b, rfl⟩ := hpair
            have h2 := go (pop (t_pair (A := a) (B := b) (L := L) (R := R) (by simp; omega) (by omega)))
            have hsz2 : (flat (.node false L R)).length = (flat L).length + (flat R).length + 1 := by simp [flat]; omega
            obtain ⟨o, ρ', μ', e1, e2⟩ := fits_loop r (k + 1) (S' ++ [(b, R)] ++ [(a, L)]) (some (.d (.int k))) (some (.d (.str ⟨#[112, 97, 105, 114]⟩))) (some (.d (encV (.pair a b)))) (some (.d (.list (flat (.node false L R))))) (some (.d (.list [.list (flat L), .list (flat R)]))) (fun p m => by
              rcases List.mem_append.mp m with m | m
              · rcases List.mem_append.mp m with m | m
                · exact hok' p m
                · rw [List.mem_singleton.mp m]; exact okv.2
              · rw [List.mem_singleton.mp m]; exact okv.1) (by rw [szS_append, szS_append]; simp only [szS]; omega) (by rw [szS_append, szS_append]; simp only [szS]; omega)
            rw [show (S' ++ [(b, R)] ++ [(a, L)]).map encE = S'.map encE ++ [encE (b, R)] ++ [encE (a, L)] from by simp] at e1
            refine ⟨o, ρ', μ', h2.trans e1, e2.more ?_⟩
            rw [allS_append, allS_append, allS_append, allS_one, allS_one, allS_one]
            simp only [fits]
            cases allS S' <;> cases fits a L <;> cases fits b R <;> rfl
          · obtain ⟨h1, h2⟩ := hnot fun a b e => hpair ⟨a, b, e⟩
            refine key false h1 ?_
            rw [hrs]
            exact t_leaf (mkr := ⟨#[112, 97, 105, 114]⟩) false h2 rfl rfl fun e => nomatch e

theorem fits_ok {v : Vl} {T : Ty} (hv : okV v) (hT : (flat T).length ≤ 400) : f_fits [.d (encV v), .d (.list (flat T))] [] = some (.bool (fits v T), []) := by
  rw [f_fits_at rfl, b_fits_eq]
  obtain ⟨o, ρ', μ', e, hf⟩ := fits_loop (va := some (.d (encV v))) (ta := some (.d (.list (flat T)))) (flat T).length 0 [(v, T)] none none none none none (fun p m => by rw [List.mem_singleton.mp m]; exact hv) (by simp [szS]) (by simp [szS]; omega)
  unfold Fin3 at hf
  rw [allS_one] at hf
  have fin : evSs [f_parts] (.cons (.newlist 2 (.cons (.tup (.cons (.var 0) (.cons (.var 1) .nil))) .nil)) (.cons (.forr 3 (.prim .len (.cons (.var 1) .nil)) fitS) (.cons (.ret (.bool true)) .nil))) ([.d (encV v), .d (.list (flat T))].map some ++ List.replicate 6 none) [] = some (.ret (.d (.bool (fits v T))), ρ', μ') := by
    refine ss_newlist (μ₁ := []) (vs := [.d (encE (v, T))]) (xs := [encE (v, T)]) (l_cons (e_tup (l_cons (e_var rfl) (l_cons (e_var rfl) l_nil)) rfl (Nat.le_of_ble_eq_true rfl)) l_nil) rfl (Nat.le_of_ble_eq_true rfl) ?_
    refine ss_forr (k := ((flat T).length : Int)) (μ₁ := [[encE (v, T)]]) (o := (o, ρ', μ')) (e_prim1 (e_var rfl) (len_list (by omega))) (by omega) ?_ ?_
    · rw [Int.toNat_natCast]; exact e
    · rcases hf with ⟨h1, rfl | rfl⟩ | ⟨h1, rfl⟩
      · rw [h1]; exact then_next (ss_ret e_bool)
      · rw [h1]; exact then_ret
      · rw [h1]; exact then_ret
  exact fn_d fin rfl
end Mini

namespace Mini
open PySem
local macro_rules | `(tactic| walk_at "evd") => `(tactic| first
  | ((with_reducible apply e_var); exact rfl)
  | with_reducible exact e_int | with_reducible exact e_str | with_reducible apply l_cons | with_reducible exact l_nil
  | with_reducible apply e_bin' | with_reducible apply e_idx' | with_reducible apply e_cmp'
  | with_reducible apply e_tup | with_reducible apply e_lst | with_reducible exact e_none | with_reducible exact e_bool
  | with_reducible apply e_prim1 | with_reducible apply e_prim2 | with_reducible apply e_call | with_reducible apply e_slc' | with_reducible apply e_isBool
  | with_reducible assumption
  | with_reducible apply b_val | with_reducible apply b_bop | with_reducible exact bs_and_nil | with_reducible exact bs_or_nil
  | ((with_reducible apply bs_and_f); (repeat walk_at "evd"); done) | ((with_reducible apply bs_and_t); (case h => (repeat walk_at "evd"); done))
  | ((with_reducible apply bs_or_t); (repeat walk_at "evd"); done) | ((with_reducible apply bs_or_f); (case h => (repeat walk_at "evd"); done))
  | with_reducible apply b_not_t | with_reducible apply b_not_f
  | ((with_reducible apply e_ite_t); (case hc => (repeat walk_at "evd"); done)) | ((with_reducible apply e_ite_f); (case hc => (repeat walk_at "evd"); done))
  | ((with_reducible apply e_bop); (case ha => (repeat walk_at "evd"); done))
  | with_reducible exact v_nil | ((with_reducible apply v_stop); (case hr => exact rfl)) | ((with_reducible apply v_on); (case hr => exact rfl))
  | with_reducible exact ss_nil | with_reducible apply ss_ret | with_reducible apply ss_assign | with_reducible apply ss_unpack
  | ((with_reducible apply ss_ite_t); (case hc => (repeat walk_at "evd"); done)) | ((with_reducible apply ss_ite_f); (case hc => (repeat walk_at "evd"); done))
  | with_reducible exact then_ret | with_reducible apply then_next
  | exact rfl
  | exact Nat.le_of_ble_eq_true rfl)



theorem cell_ex {xs : List Int} {i : Int} (hl : xs.length ≤ 63) (h0 : 0 ≤ i) : ∃ c, f_cell [.d (.list (xs.map .int)), .d (.int i)] [] = some (.int c, []) := by
  rw [f_cell_at rfl]
  have hlen := len_list (xs := xs.map PyData.int) (by simp; omega)
  rw [List.length_map] at hlen
  unfold b_law_cell
  by_cases hi : i < xs.length
  · have hc : cmpD .Lt (.int i) (.int (xs.length : Int)) = some true := by simp [cmpD, hi]
    have hx : idxD (.list (xs.map .int)) (.int i) = some (.int (xs.getD i.toNat 0)) := idx_list (by omega) (by
      rw [List.getElem?_map, List.getElem?_eq_getElem (by omega), List.getD_eq_getElem?_getD, List.getElem?_eq_getElem (by omega)]; rfl)
    refine ⟨xs.getD i.toNat 0, ?_⟩
    apply fn_d
    · repeat walk_at "evd"
    · rfl
  · have hc : cmpD .Lt (.int i) (.int (xs.length : Int)) = some false := by simp [cmpD]; omega
    refine ⟨i, ?_⟩
    apply fn_d
    · repeat walk_at "evd"
    · rfl
theorem fmod_nat (c : Int) (m : Nat) (h : 0 < m) : ∃ k : Nat, k < m ∧ c.fmod (m : Int) = (k : Int) := by
  have h1 := Int.fmod_nonneg_of_pos c (by omega : (0 : Int) < (m : Int))
  have h2 := Int.fmod_lt_of_pos c (by omega : (0 : Int) < (m : Int))
  exact ⟨(c.fmod m).toNat, by omega, by omega⟩
theorem mod_ok (c : Int) (m : Nat) (h : 0 < m) : ∃ k : Nat, k < m ∧ binD .Mod (.int c) (.int (m : Int)) = some (.int (k : Int)) ∧ c.fmod (m : Int) = (k : Int) := by
  obtain ⟨k, hk, e⟩ := fmod_nat c m h
  exact ⟨k, hk, by simp only [binD, if_neg (by omega : ¬ (m : Int) = 0), e], e⟩

def encT (p : Vl × Ty) : PyData := .tuple [encV p.1, .list (flat p.2), .bool (fits p.1 p.2)]
def vAt (d b ab : Int) (e : PyData) : Nat → Vl
  | 0 => .int d
  | 1 => .bool b
  | 2 => .clo ab e
  | _ => .pair (.bool 1) (.int d)
def tAt : Nat → Ty
  | 0 => .int
  | 1 => .bool
  | 2 => .node true (.var 0) .int
  | _ => .node false .bool .int
theorem fits_at {d b ab : Int} {e : PyData} {i j : Nat} (hi : i < 4) (hj : j < 4) : fits (vAt d b ab e i) (tAt j) = decide (i = j) := by
  rcases (by omega : i = 0 ∨ i = 1 ∨ i = 2 ∨ i = 3) with rfl | rfl | rfl | rfl <;> rcases (by omega : j = 0 ∨ j = 1 ∨ j = 2 ∨ j = 3) with rfl | rfl | rfl | rfl <;> rfl
def valsD (d b ab : Int) (e : PyData) : List PyData := [encV (vAt d b ab e 0), encV (vAt d b ab e 1), encV (vAt d b ab e 2), encV (vAt d b ab e 3)]
def formsD : List PyData := [.list (flat (tAt 0)), .list (flat (tAt 1)), .list (flat (tAt 2)), .list (flat (tAt 3))]
theorem vals_idx {d b ab : Int} {e : PyData} {i : Nat} (hi : i < 4) : idxD (.list (valsD d b ab e)) (.int (i : Int)) = some (encV (vAt d b ab e i)) := idx_list (by omega) (by
  rw [Int.toNat_natCast]
  rcases (by omega : i = 0 ∨ i = 1 ∨ i = 2 ∨ i = 3) with rfl | rfl | rfl | rfl <;> rfl)
theorem forms_idx {i : Nat} (hi : i < 4) : idxD (.list formsD) (.int (i : Int)) = some (.list (flat (tAt i))) := idx_list (by omega) (by
  rw [Int.toNat_natCast]
  rcases (by omega : i = 0 ∨ i = 1 ∨ i = 2 ∨ i = 3) with rfl | rfl | rfl | rfl <;> rfl)
theorem vAt_ok {d b ab : Int} {e : PyData} {i : Nat} (he : e.canLay0 = true) : okV (vAt d b ab e i) := by
  unfold vAt; split
  · trivial
  · trivial
  · exact he
  · exact ⟨trivial, trivial⟩
theorem tAt_len (i : Nat) : (flat (tAt i)).length ≤ 3 := by unfold tAt; split <;> simp [flat]

theorem leaf_ok (c d : Int) {e : PyData} (he : e.canLay0 = true) : ∃ p : Vl × Ty, f_leaf [.d (.int c), .d (.int d), .d e] [] = some (encT p, []) ∧ okV p.1 ∧ (flat p.2).length ≤ 3 := by
  rw [f_leaf_at rfl]
  unfold b_law_leaf
  obtain ⟨b, _, eb, _⟩ := mod_ok (c.fdiv 4) 2 (by omega)
  obtain ⟨i, hi, ei, _⟩ := mod_ok c 4 (by omega)
  obtain ⟨t, ht, et, _⟩ := mod_ok d 8 (by omega)
  replace eb : binD .Mod (.int (c.fdiv 4)) (.int 2) = some (.int (b : Int)) := eb
  replace ei : binD .Mod (.int c) (.int 4) = some (.int (i : Int)) := ei
  replace et : binD .Mod (.int d) (.int 8) = some (.int (t : Int)) := et
  have d4 : binD .FloorDiv (.int c) (.int 4) = some (.int (c.fdiv 4)) := by simp only [binD]; rw [if_pos (by omega)]
  obtain ⟨ab, hab⟩ : ∃ ab, primD .abs [.int c] = some (.int ab) := ⟨_, rfl⟩
  obtain ⟨ad, had⟩ : ∃ ad, primD .abs [.int d] = some (.int ad) := ⟨_, rfl⟩
  have hv := vals_idx (d := d) (b := (b : Int)) (ab := ab) (e := e) hi
  have fin : ∀ (p : Vl × Ty), evSs [f_parts, f_fits, f_cell] (.cons (.ite (.val (.cmp .Eq (.var 6) (.int 4)))
 (.cons (.ret (.tup (.cons (.idx (.var 3) (.var 5)) (.cons (.lst (.cons (.tup (.cons (.str ⟨#[118, 97, 114]⟩) (.cons (.prim .abs (.cons (.var 1) .nil)) .nil))) .nil)) (.cons (.bool true) .nil)))))
 .nil)
 .nil)
 (.cons (.ite (.val (.cmp .Lt (.var 6) (.int 4)))
 (.cons (.ret (.tup (.cons (.idx (.var 3) (.var 5)) (.cons (.idx (.var 4) (.var 5)) (.cons (.bool true) .nil)))))
 .nil)
 .nil)
 (.cons (.ret (.tup (.cons (.idx (.var 3) (.var 5)) (.cons (.idx (.var 4) (.bin .Mod (.bin .Add (.var 5) (.var 6)) (.int 4))) (.cons (.bool false) .nil)))))
 .nil))) [some (.d (.int c)), some (.d (.int d)), some (.d e), some (.d (.list (valsD d (b : Int) ab e))), some (.d (.list formsD)), some (.d (.int (i : Int))), some (.d (.int (t : Int)))] [] = some (.ret (.d (encT p)), [some (.d (.int c)), some (.d (.int d)), some (.d e), some (.d (.list (valsD d (b : Int) ab e))), some (.d (.list formsD)), some (.d (.int (i : Int))), some (.d (.int (t : Int)))], []) →
      fnOf [f_parts, f_fits, f_cell] 4 b_law_leaf [.d (.int c), .d (.int d), .d e] [] = some (encT p, []) := by
    intro p h
    unfold b_law_leaf
    apply fn_d (x := encT p) (μ' := [])
    case e => rfl
    refine ss_assign (x := .d (.list (valsD d (b : Int) ab e))) (μ₁ := []) ?_ ?_
    · exact e_lst (l_cons (e_tup (l_cons e_str (l_cons (e_var rfl) l_nil)) rfl (Nat.le_of_ble_eq_true rfl)) (l_cons (e_tup (l_cons e_str (l_cons (e_bin' (e_bin' (e_var rfl) e_int d4) e_int eb) l_nil)) rfl (Nat.le_of_ble_eq_true rfl)) (l_cons (e_tup (l_cons e_str (l_cons (e_prim1 (e_var rfl) hab) (l_cons (e_var rfl) l_nil))) rfl (Nat.le_of_ble_eq_true rfl)) (l_cons (e_tup (l_cons e_str (l_cons (e_tup (l_cons e_str (l_cons e_int l_nil)) rfl (Nat.le_of_ble_eq_true rfl)) (l_cons (e_tup (l_cons e_str (l_cons (e_var rfl) l_nil)) rfl (Nat.le_of_ble_eq_true rfl)) l_nil))) rfl (Nat.le_of_ble_eq_true rfl)) l_nil)))) rfl (Nat.le_of_ble_eq_true rfl)
    · refine ss_assign (x := .d (.list formsD)) (μ₁ := []) ?_ ?_
      · have it : ∀ (s : Str) (ρ : Rho), evE [f_parts, f_fits, f_cell] (.tup (.cons (.str s) (.cons (.int 0) .nil))) ρ [] = some (.d (.tuple [.str s, .int 0]), []) := fun s ρ => e_tup (l_cons e_str (l_cons e_int l_nil)) rfl (Nat.le_of_ble_eq_true rfl)
        exact e_lst (l_cons (e_lst (l_cons (it _ _) l_nil) rfl (Nat.le_of_ble_eq_true rfl)) (l_cons (e_lst (l_cons (it _ _) l_nil) rfl (Nat.le_of_ble_eq_true rfl)) (l_cons (e_lst (l_cons (it _ _) (l_cons (it _ _) (l_cons (it _ _) l_nil))) rfl (Nat.le_of_ble_eq_true rfl)) (l_cons (e_lst (l_cons (it _ _) (l_cons (it _ _) (l_cons (it _ _) l_nil))) rfl (Nat.le_of_ble_eq_true rfl)) l_nil)))) rfl (Nat.le_of_ble_eq_true rfl)
      · refine ss_assign (x := .d (.int (i : Int))) (μ₁ := []) (e_bin' (e_var rfl) e_int ei) ?_
        refine ss_assign (x := .d (.int (t : Int))) (μ₁ := []) (e_bin' (e_var rfl) e_int et) ?_
        exact h
  by_cases h4 : t = 4
  · have c4 : cmpD .Eq (.int (t : Int)) (.int 4) = some true := by simp [cmpD, h4]
    refine ⟨(vAt d (b : Int) ab e i, .var ad), fin _ ?_, vAt_ok he, by simp [flat]⟩
    refine ss_ite_t (b_val (e_cmp' (e_var rfl) e_int c4)) (ss_ret ?_) then_ret
    have ef : fits (vAt d (b : Int) ab e i) (.var ad) = true := fits_var _ _
    simp only [encT, ef]
    exact e_tup (l_cons (e_idx' (e_var rfl) (e_var rfl) hv) (l_cons (e_lst (l_cons (e_tup (l_cons e_str (l_cons (e_prim1 (e_var rfl) had) l_nil)) rfl (Nat.le_of_ble_eq_true rfl)) l_nil) rfl (Nat.le_of_ble_eq_true rfl)) (l_cons e_bool l_nil))) rfl (Nat.le_of_ble_eq_true rfl)
  · have c4 : cmpD .Eq (.int (t : Int)) (.int 4) = some false := by simp [cmpD]; omega
    by_cases h3 : t < 4
    · have c3 : cmpD .Lt (.int (t : Int)) (.int 4) = some true := by simp [cmpD]; omega
      refine ⟨(vAt d (b : Int) ab e i, tAt i), fin _ ?_, vAt_ok he, tAt_len i⟩
      refine ss_ite_f (b_val (e_cmp' (e_var rfl) e_int c4)) ss_nil ?_
      apply then_next
      refine ss_ite_t (b_val (e_cmp' (e_var rfl) e_int c3)) (ss_ret ?_) then_ret
      have ef : fits (vAt d (b : Int) ab e i) (tAt i) = true := by rw [fits_at hi hi]; simp
      simp only [encT, ef]
      exact e_tup (l_cons (e_idx' (e_var rfl) (e_var rfl) hv) (l_cons (e_idx' (e_var rfl) (e_var rfl) (forms_idx hi)) (l_cons e_bool l_nil))) rfl (Nat.le_of_ble_eq_true rfl)
    · have c3 : cmpD .Lt (.int (t : Int)) (.int 4) = some false := by simp [cmpD]; omega
      obtain ⟨j, hj, ej, fj⟩ := mod_ok ((i : Int) + (t : Int)) 4 (by omega)
      replace ej : binD .Mod (.int ((i : Int) + (t : Int))) (.int 4) = some (.int (j : Int)) := ej
      have hij : i ≠ j := by
        rw [Int.fmod_eq_emod_of_nonneg _ (by omega)] at fj
        omega
      refine ⟨(vAt d (b : Int) ab e i, tAt j), fin _ ?_, vAt_ok he, tAt_len j⟩
      refine ss_ite_f (b_val (e_cmp' (e_var rfl) e_int c4)) ss_nil ?_
      apply then_next
      refine ss_ite_f (b_val (e_cmp' (e_var rfl) e_int c3)) ss_nil ?_
      apply then_next
      refine ss_ret ?_
      have ef : fits (vAt d (b : Int) ab e i) (tAt j) = false := by rw [fits_at hi hj]; simp [hij]
      simp only [encT, ef]
      exact e_tup (l_cons (e_idx' (e_var rfl) (e_var rfl) hv) (l_cons (e_idx' (e_var rfl) (e_bin' (e_bin' (e_var rfl) (e_var rfl) rfl) e_int ej) (forms_idx hj)) (l_cons e_bool l_nil))) rfl (Nat.le_of_ble_eq_true rfl)

theorem join_ok {p q : Vl × Ty} {c : Int} {e : PyData} (hp : okV p.1) (hq : okV q.1) (he : e.canLay0 = true) (hl : (flat p.2).length + (flat q.2).length ≤ 100) :
    ∃ u : Vl × Ty, f_join [.d (encT p), .d (encT q), .d (.int c), .d e] [] = some (encT u, []) ∧ okV u.1 ∧ (flat u.2).length ≤ (flat p.2).length + (flat q.2).length + 1 := by
  rw [f_join_at rfl]
  unfold b_law_join
  obtain ⟨t, ht, et, _⟩ := mod_ok c 8 (by omega)
  replace et : binD .Mod (.int c) (.int 8) = some (.int (t : Int)) := et
  have s1 : binD .Add (.list (flat p.2)) (.list (flat q.2)) = some (.list (flat p.2 ++ flat q.2)) := by simp only [binD]; rw [if_pos (by omega)]
  have s2 : ∀ f, binD .Add (.list (flat p.2 ++ flat q.2)) (.list [.tuple [.str (mk f), .int 0]]) = some (.list (flat (.node f p.2 q.2))) := fun f => by simp only [binD]; rw [if_pos (by simp; omega)]; rfl
  have it : ∀ (s : Str) (ρ : Rho), evE [f_parts, f_fits, f_cell, f_leaf] (.lst (.cons (.tup (.cons (.str s) (.cons (.int 0) .nil))) .nil)) ρ [] = some (.d (.list [.tuple [.str s, .int 0]]), []) := fun s ρ => e_lst (l_cons (e_tup (l_cons e_str (l_cons e_int l_nil)) rfl (Nat.le_of_ble_eq_true rfl)) l_nil) rfl (Nat.le_of_ble_eq_true rfl)
  have hlen : ∀ f, (flat (.node f p.2 q.2)).length ≤ (flat p.2).length + (flat q.2).length + 1 := fun f => by simp [flat]; omega
  have hpair : okV (.pair p.1 q.1) := ⟨hp, hq⟩
  have go : ∀ n : Nat, n ≤ 8 → cmpD .Eq (.int (t : Int)) (.int (n : Int)) = some (decide (t = n)) := fun n hn => by
    simp only [cmpD]
    by_cases h : t = n
    · subst h; simp
    · rw [decide_eq_false h]; simp; omega
  have g4 := go 4 (by omega)
  have g5 := go 5 (by omega)
  have g6 := go 6 (by omega)
  have g7 := go 7 (by omega)
  replace g4 : cmpD .Eq (.int (t : Int)) (.int 4) = some (decide (t = 4)) := g4
  replace g5 : cmpD .Eq (.int (t : Int)) (.int 5) = some (decide (t = 5)) := g5
  replace g6 : cmpD .Eq (.int (t : Int)) (.int 6) = some (decide (t = 6)) := g6
  replace g7 : cmpD .Eq (.int (t : Int)) (.int 7) = some (decide (t = 7)) := g7
  have a1 : ∀ {ρ : Rho} {x : PyData} {rr}, evE [f_parts, f_fits, f_cell, f_leaf] (.tup rr) ρ [] = some (.d x, []) → evE [f_parts, f_fits, f_cell, f_leaf] (.tup rr) ρ [] = some (.d x, []) := fun h => h
  by_cases h4 : t = 4
  · rw [decide_eq_true h4] at g4
    refine ⟨(.clo 0 e, .node true p.2 q.2), ?_, he, hlen true⟩
    apply fn_d (x := encT (.clo 0 e, .node true p.2 q.2)) (μ' := [])
    case e => rfl
    refine ss_assign (x := .d (.int (t : Int))) (μ₁ := []) (e_bin' (e_var rfl) e_int et) ?_
    refine ss_assign (x := .d (encV (.pair p.1 q.1))) (μ₁ := []) (e_tup (l_cons e_str (l_cons (e_idx' (dx := encT p) (e_var rfl) e_int rfl) (l_cons (e_idx' (dx := encT q) (e_var rfl) e_int rfl) l_nil))) rfl (Nat.le_of_ble_eq_true rfl)) ?_
    refine ss_assign (x := .d (.list (flat p.2 ++ flat q.2))) (μ₁ := []) (e_bin' (e_idx' (dx := encT p) (e_var rfl) e_int rfl) (e_idx' (dx := encT q) (e_var rfl) e_int rfl) s1) ?_
    refine ss_ite_t (b_val (e_cmp' (e_var rfl) e_int g4)) (ss_ret ?_) then_ret
    exact e_tup (l_cons (e_tup (l_cons e_str (l_cons e_int (l_cons (e_var rfl) l_nil))) rfl (Nat.le_of_ble_eq_true rfl)) (l_cons (e_bin' (e_var rfl) (it _ _) (s2 true)) (l_cons e_bool l_nil))) rfl (Nat.le_of_ble_eq_true rfl)
  · rw [decide_eq_false h4] at g4
    by_cases h5 : t = 5
    · rw [decide_eq_true h5] at g5
      refine ⟨(.pair p.1 q.1, .node true p.2 q.2), ?_, hpair, hlen true⟩
      apply fn_d (x := encT (.pair p.1 q.1, .node true p.2 q.2)) (μ' := [])
      case e => rfl
      refine ss_assign (x := .d (.int (t : Int))) (μ₁ := []) (e_bin' (e_var rfl) e_int et) ?_
      refine ss_assign (x := .d (encV (.pair p.1 q.1))) (μ₁ := []) (e_tup (l_cons e_str (l_cons (e_idx' (dx := encT p) (e_var rfl) e_int rfl) (l_cons (e_idx' (dx := encT q) (e_var rfl) e_int rfl) l_nil))) rfl (Nat.le_of_ble_eq_true rfl)) ?_
      refine ss_assign (x := .d (.list (flat p.2 ++ flat q.2))) (μ₁ := []) (e_bin' (e_idx' (dx := encT p) (e_var rfl) e_int rfl) (e_idx' (dx := encT q) (e_var rfl) e_int rfl) s1) ?_
      refine ss_ite_f (b_val (e_cmp' (e_var rfl) e_int g4)) ss_nil ?_
      apply then_next
      refine ss_ite_t (b_val (e_cmp' (e_var rfl) e_int g5)) (ss_ret ?_) then_ret
      exact e_tup (l_cons (e_var rfl) (l_cons (e_bin' (e_var rfl) (it _ _) (s2 true)) (l_cons e_bool l_nil))) rfl (Nat.le_of_ble_eq_true rfl)
    · rw [decide_eq_false h5] at g5
      by_cases h6 : t = 6
      · rw [decide_eq_true h6] at g6
        refine ⟨(.clo 0 e, .node false p.2 q.2), ?_, he, hlen false⟩
        apply fn_d (x := encT (.clo 0 e, .node false p.2 q.2)) (μ' := [])
        case e => rfl
        refine ss_assign (x := .d (.int (t : Int))) (μ₁ := []) (e_bin' (e_var rfl) e_int et) ?_
        refine ss_assign (x := .d (encV (.pair p.1 q.1))) (μ₁ := []) (e_tup (l_cons e_str (l_cons (e_idx' (dx := encT p) (e_var rfl) e_int rfl) (l_cons (e_idx' (dx := encT q) (e_var rfl) e_int rfl) l_nil))) rfl (Nat.le_of_ble_eq_true rfl)) ?_
        refine ss_assign (x := .d (.list (flat p.2 ++ flat q.2))) (μ₁ := []) (e_bin' (e_idx' (dx := encT p) (e_var rfl) e_int rfl) (e_idx' (dx := encT q) (e_var rfl) e_int rfl) s1) ?_
        refine ss_ite_f (b_val (e_cmp' (e_var rfl) e_int g4)) ss_nil ?_
        apply then_next
        refine ss_ite_f (b_val (e_cmp' (e_var rfl) e_int g5)) ss_nil ?_
        apply then_next
        refine ss_ite_t (b_val (e_cmp' (e_var rfl) e_int g6)) (ss_ret ?_) then_ret
        exact e_tup (l_cons (e_tup (l_cons e_str (l_cons e_int (l_cons (e_var rfl) l_nil))) rfl (Nat.le_of_ble_eq_true rfl)) (l_cons (e_bin' (e_var rfl) (it _ _) (s2 false)) (l_cons e_bool l_nil))) rfl (Nat.le_of_ble_eq_true rfl)
      · rw [decide_eq_false h6] at g6
        by_cases h7 : t = 7
        · rw [decide_eq_true h7] at g7
          refine ⟨(.pair p.1 q.1, .var 0), ?_, hpair, by simp [flat]⟩
          apply fn_d (x := encT (.pair p.1 q.1, .var 0)) (μ' := [])
          case e => rfl
          refine ss_assign (x := .d (.int (t : Int))) (μ₁ := []) (e_bin' (e_var rfl) e_int et) ?_
          refine ss_assign (x := .d (encV (.pair p.1 q.1))) (μ₁ := []) (e_tup (l_cons e_str (l_cons (e_idx' (dx := encT p) (e_var rfl) e_int rfl) (l_cons (e_idx' (dx := encT q) (e_var rfl) e_int rfl) l_nil))) rfl (Nat.le_of_ble_eq_true rfl)) ?_
          refine ss_assign (x := .d (.list (flat p.2 ++ flat q.2))) (μ₁ := []) (e_bin' (e_idx' (dx := encT p) (e_var rfl) e_int rfl) (e_idx' (dx := encT q) (e_var rfl) e_int rfl) s1) ?_
          refine ss_ite_f (b_val (e_cmp' (e_var rfl) e_int g4)) ss_nil ?_
          apply then_next
          refine ss_ite_f (b_val (e_cmp' (e_var rfl) e_int g5)) ss_nil ?_
          apply then_next
          refine ss_ite_f (b_val (e_cmp' (e_var rfl) e_int g6)) ss_nil ?_
          apply then_next
          refine ss_ite_t (b_val (e_cmp' (e_var rfl) e_int g7)) (ss_ret ?_) then_ret
          exact e_tup (l_cons (e_var rfl) (l_cons (it _ _) (l_cons e_bool l_nil))) rfl (Nat.le_of_ble_eq_true rfl)
        · rw [decide_eq_false h7] at g7
          refine ⟨(.pair p.1 q.1, .node false p.2 q.2), ?_, hpair, hlen false⟩
          apply fn_d (x := encT (.pair p.1 q.1, .node false p.2 q.2)) (μ' := [])
          case e => rfl
          refine ss_assign (x := .d (.int (t : Int))) (μ₁ := []) (e_bin' (e_var rfl) e_int et) ?_
          refine ss_assign (x := .d (encV (.pair p.1 q.1))) (μ₁ := []) (e_tup (l_cons e_str (l_cons (e_idx' (dx := encT p) (e_var rfl) e_int rfl) (l_cons (e_idx' (dx := encT q) (e_var rfl) e_int rfl) l_nil))) rfl (Nat.le_of_ble_eq_true rfl)) ?_
          refine ss_assign (x := .d (.list (flat p.2 ++ flat q.2))) (μ₁ := []) (e_bin' (e_idx' (dx := encT p) (e_var rfl) e_int rfl) (e_idx' (dx := encT q) (e_var rfl) e_int rfl) s1) ?_
          refine ss_ite_f (b_val (e_cmp' (e_var rfl) e_int g4)) ss_nil ?_
          apply then_next
          refine ss_ite_f (b_val (e_cmp' (e_var rfl) e_int g5)) ss_nil ?_
          apply then_next
          refine ss_ite_f (b_val (e_cmp' (e_var rfl) e_int g6)) ss_nil ?_
          apply then_next
          refine ss_ite_f (b_val (e_cmp' (e_var rfl) e_int g7)) ss_nil ?_
          apply then_next
          refine ss_ret ?_
          refine e_tup (l_cons (e_var rfl) (l_cons (e_bin' (e_var rfl) (it _ _) (s2 false)) (l_cons (x := .d (.bool (fits p.1 p.2 && fits q.1 q.2))) (μ₁ := []) ?_ l_nil))) rfl (Nat.le_of_ble_eq_true rfl)
          have ip : idxD (encT p) (.int 2) = some (.bool (fits p.1 p.2)) := rfl
          have iq : idxD (encT q) (.int 2) = some (.bool (fits q.1 q.2)) := rfl
          refine e_bop (e_idx' (dx := encT p) (e_var rfl) e_int ip) ?_
          cases hfp : fits p.1 p.2 with
          | false => exact v_stop rfl
          | true => exact v_on rfl (e_idx' (dx := encT q) (e_var rfl) e_int iq) v_nil

def turnS : MSs := (.cons (.assign 8 (.call 2 (.cons (.var 0) (.cons (.bin .Add (.int 9) (.var 5)) .nil))))
 (.cons (.assign 9 (.bin .Mod (.bin .FloorDiv (.var 8) (.int 8)) (.bin .Sub (.prim .len (.cons (.var 4) .nil)) (.int 1))))
 (.cons (.assign 4 (.bin .Add (.bin .Add (.slc (.var 4) .none (.var 9)) (.lst (.cons (.call 4 (.cons (.idx (.var 4) (.var 9)) (.cons (.idx (.var 4) (.bin .Add (.var 9) (.int 1))) (.cons (.var 8) (.cons (.var 2) .nil))))) .nil))) (.slc (.var 4) (.bin .Add (.var 9) (.int 2)) .none)))
 .nil)))
def endS : MSs :=
 (.cons (.unpack [10, 11, 12] (.idx (.var 4) (.int 0)))
 (.cons (.assign 6 (.slc (.var 11) .none .none))
 (.cons (.assign 7 (.call 1 (.cons (.var 10) (.cons (.var 11) .nil))))
 (.cons (.ite (.bop .And (.cons (.val (.var 12)) (.cons (.val (.cmp .IsNot (.var 7) (.bool true))) .nil)))
 (.cons (.ret (.bool false))
 .nil)
 .nil)
 (.cons (.ite (.bop .And (.cons (.not (.val (.var 12))) (.cons (.val (.cmp .IsNot (.var 7) (.bool false))) .nil)))
 (.cons (.ret (.bool false))
 .nil)
 .nil)
 (.cons (.ite (.val (.cmp .NotEq (.var 11) (.var 6)))
 (.cons (.ret (.bool false))
 .nil)
 .nil)
 (.cons (.ite (.val (.cmp .NotEq (.var 2) (.lst (.cons (.tup (.cons (.str ⟨#[105, 110, 116]⟩) (.cons (.var 1) .nil))) .nil))))
 (.cons (.ret (.bool false))
 .nil)
 .nil)
 (.cons (.ret (.bool true))
 .nil))))))))
theorem b_law_eq : b_law = .cons (.assign 1 (.call 2 (.cons (.var 0) (.cons (.int 0) .nil))))
 (.cons (.assign 2 (.lst (.cons (.tup (.cons (.str ⟨#[105, 110, 116]⟩) (.cons (.var 1) .nil))) .nil)))
 (.cons (.assign 3 (.bin .Add (.int 1) (.bin .Mod (.var 1) (.int 4))))
 (.cons (.compr 4 [2, 0] (.var 3) (.call 3 (.cons (.call 2 (.cons (.var 2) (.cons (.bin .Add (.int 1) (.bin .Mult (.int 2) (.var 0))) .nil))) (.cons (.call 2 (.cons (.var 2) (.cons (.bin .Add (.int 2) (.bin .Mult (.int 2) (.var 0))) .nil))) (.cons (.var 1) .nil)))))
 (.cons (.forr 5 (.bin .Sub (.var 3) (.int 1)) turnS) endS)))) := rfl
end Mini

namespace Mini
open PySem
local macro_rules | `(tactic| walk_at "evd") => `(tactic| first
  | ((with_reducible apply e_var); exact rfl)
  | with_reducible exact e_int | with_reducible exact e_str | with_reducible apply l_cons | with_reducible exact l_nil
  | with_reducible apply e_bin' | with_reducible apply e_idx' | with_reducible apply e_cmp'
  | with_reducible apply e_tup | with_reducible apply e_lst | with_reducible exact e_none | with_reducible exact e_bool
  | with_reducible apply e_prim1 | with_reducible apply e_prim2 | with_reducible apply e_call | with_reducible apply e_slc' | with_reducible apply e_isBool
  | with_reducible assumption
  | with_reducible apply b_val | with_reducible apply b_bop | with_reducible exact bs_and_nil | with_reducible exact bs_or_nil
  | ((with_reducible apply bs_and_f); (repeat walk_at "evd"); done) | ((with_reducible apply bs_and_t); (case h => (repeat walk_at "evd"); done))
  | ((with_reducible apply bs_or_t); (repeat walk_at "evd"); done) | ((with_reducible apply bs_or_f); (case h => (repeat walk_at "evd"); done))
  | with_reducible apply b_not_t | with_reducible apply b_not_f
  | ((with_reducible apply e_ite_t); (case hc => (repeat walk_at "evd"); done)) | ((with_reducible apply e_ite_f); (case hc => (repeat walk_at "evd"); done))
  | ((with_reducible apply e_bop); (case ha => (repeat walk_at "evd"); done))
  | with_reducible exact v_nil | ((with_reducible apply v_stop); (case hr => exact rfl)) | ((with_reducible apply v_on); (case hr => exact rfl))
  | with_reducible exact ss_nil | with_reducible apply ss_ret | with_reducible apply ss_assign | with_reducible apply ss_unpack
  | ((with_reducible apply ss_ite_t); (case hc => (repeat walk_at "evd"); done)) | ((with_reducible apply ss_ite_f); (case hc => (repeat walk_at "evd"); done))
  | with_reducible exact then_ret | with_reducible apply then_next
  | exact rfl
  | exact Nat.le_of_ble_eq_true rfl)


theorem flat_depth : ∀ T : Ty, PyData.depthAll (flat T) ≤ 1
  | .int => by simp [flat, PyData.depth, PyData.depthAll]
  | .bool => by simp [flat, PyData.depth, PyData.depthAll]
  | .var k => by simp [flat, PyData.depth, PyData.depthAll]
  | .node f l r => by
    have app : ∀ a b : List PyData, PyData.depthAll a ≤ 1 → PyData.depthAll b ≤ 1 → PyData.depthAll (a ++ b) ≤ 1 := fun a b ha hb => by
      induction a with
      | nil => exact hb
      | cons x a ih =>
        simp only [PyData.depthAll] at ha
        have := ih (by omega)
        simp only [List.cons_append, PyData.depthAll]; omega
    simp only [flat]
    exact app _ _ (app _ _ (flat_depth l) (flat_depth r)) (by simp [PyData.depth, PyData.depthAll])
theorem flat_same (T : Ty) : cmpD .NotEq (.list (flat T)) (.list (flat T)) = some false := by
  have hl : (PyData.list (flat T)).canLay0 = true := by simp only [PyData.canLay0]; exact flat_lay T
  have h1 : eqOk (.list (flat T)) (.list (flat T)) = true := by
    have := flat_depth T
    unfold eqOk
    rw [hl, Bool.and_self, Bool.true_and]
    refine decide_eq_true ?_
    simp only [PyData.depth]
    omega
  show (if eqOk (.list (flat T)) (.list (flat T)) then some (!PyData.eqv (.list (flat T)) (.list (flat T))) else none) = _
  rw [if_pos h1, SeqAt.eqv_refl _ hl]; rfl
theorem slc_all {xs : List PyData} (h : xs.length ≤ 16777216) : slcD (.list xs) .none .none = some (.list xs) := by
  simp [slcD, loD, hiD, h]


def sumT : List (Vl × Ty) → Nat
  | [] => 0
  | p :: r => (flat p.2).length + 1 + sumT r
theorem sumT_append : ∀ a b : List (Vl × Ty), sumT (a ++ b) = sumT a + sumT b
  | [], b => by simp [sumT]
  | p :: a, b => by simp only [List.cons_append, sumT, sumT_append a b]; omega

theorem comp_ok {xs : List Int} (hl : xs.length ≤ 63) {en : PyData} (hen : en.canLay0 = true) : ∀ (n : Nat) (k : Int), 0 ≤ k → ∃ Ps : List (Vl × Ty), compF (evE [f_parts, f_fits, f_cell, f_leaf, f_join] (.call 3 (.cons (.call 2 (.cons (.var 2) (.cons (.bin .Add (.int 1) (.bin .Mult (.int 2) (.var 0))) .nil))) (.cons (.call 2 (.cons (.var 2) (.cons (.bin .Add (.int 2) (.bin .Mult (.int 2) (.var 0))) .nil))) (.cons (.var 1) .nil))))) [some (.d en), some (.d (.list (xs.map .int)))] n k [] = some (Ps.map encT, []) ∧ Ps.length = n ∧ sumT Ps ≤ 4 * n ∧ ∀ p ∈ Ps, okV p.1
  | 0, k, _ => ⟨[], rfl, rfl, by simp [sumT], fun _ m => nomatch m⟩
  | n + 1, k, hk => by
    obtain ⟨c, hc⟩ := cell_ex (xs := xs) (i := 1 + 2 * k) hl (by omega)
    obtain ⟨d, hd⟩ := cell_ex (xs := xs) (i := 2 + 2 * k) hl (by omega)
    obtain ⟨p, hp, h1, h2⟩ := leaf_ok c d hen
    obtain ⟨Ps, e, e1, e2, e3⟩ := comp_ok hl hen n (k + 1) (by omega)
    have m2 : binD .Mult (.int 2) (.int k) = some (.int (2 * k)) := by simp only [binD]; rw [if_pos (by omega)]
    refine ⟨p :: Ps, ?_, by simp [e1], by simp only [sumT]; omega, fun u m => ?_⟩
    · have hev : evE [f_parts, f_fits, f_cell, f_leaf, f_join] (.call 3 (.cons (.call 2 (.cons (.var 2) (.cons (.bin .Add (.int 1) (.bin .Mult (.int 2) (.var 0))) .nil))) (.cons (.call 2 (.cons (.var 2) (.cons (.bin .Add (.int 2) (.bin .Mult (.int 2) (.var 0))) .nil))) (.cons (.var 1) .nil)))) [some (.d (.int k)), some (.d en), some (.d (.list (xs.map .int)))] [] = some (.d (encT p), []) :=
        e_call (l_cons (e_call (l_cons (e_var rfl) (l_cons (e_bin' e_int (e_bin' e_int (e_var rfl) m2) rfl) l_nil)) rfl hc) (l_cons (e_call (l_cons (e_var rfl) (l_cons (e_bin' e_int (e_bin' e_int (e_var rfl) m2) rfl) l_nil)) rfl hd) (l_cons (e_var rfl) l_nil))) rfl hp
      simp only [compF, hev, Option.bind_some, e, Option.map_some, List.map_cons]
    · rcases List.mem_cons.mp m with rfl | m
      · exact h1
      · exact e3 u m

theorem turn_ok {xs : List Int} (hl : xs.length ≤ 63) {en : PyData} (hen : en.canLay0 = true) {fst cnt i : Int} (h0 : 0 ≤ i) {Ts : List (Vl × Ty)} {n : Nat} (hn : Ts.length = n + 2) (hs : sumT Ts ≤ 50) (hok : ∀ p ∈ Ts, okV p.1) {c0 p0 : Option MV} :
    ∃ (Us : List (Vl × Ty)) (c' p' : Option MV), evSs [f_parts, f_fits, f_cell, f_leaf, f_join] turnS [some (.d (.list (xs.map .int))), some (.d (.int fst)), some (.d en), some (.d (.int cnt)), some (.d (.list (Ts.map encT))), some (.d (.int i)), none, none, c0, p0, none, none, none] [] = some (.next, [some (.d (.list (xs.map .int))), some (.d (.int fst)), some (.d en), some (.d (.int cnt)), some (.d (.list (Us.map encT))), some (.d (.int i)), none, none, c', p', none, none, none], []) ∧ Us.length = n + 1 ∧ sumT Us ≤ sumT Ts ∧ ∀ p ∈ Us, okV p.1 := by
  obtain ⟨c, hc⟩ := cell_ex (xs := xs) (i := 9 + i) hl (by omega)
  obtain ⟨p, hp, ep, _⟩ := mod_ok (c.fdiv 8) (n + 1) (by omega)
  have hle : n ≤ 50 := by
    have : ∀ l : List (Vl × Ty), l.length ≤ sumT l := fun l => by
      induction l with
      | nil => simp [sumT]
      | cons T l ih => simp only [List.length_cons, sumT]; omega
    have := this Ts
    omega
  have hlen : primD .len [.list (Ts.map encT)] = some (.int ((n : Int) + 2)) := by
    simp only [primD, List.length_map, hn]; rw [if_pos (by omega)]; rfl
  have d2 : binD .FloorDiv (.int c) (.int 8) = some (.int (c.fdiv 8)) := by simp only [binD]; rw [if_pos (by omega)]
  have ep' : binD .Mod (.int (c.fdiv 8)) (.int ((n : Int) + 2 - 1)) = some (.int (p : Int)) := by
    rw [show (n : Int) + 2 - 1 = ((n + 1 : Nat) : Int) from by omega]; exact ep
  have ha : Ts[p]? = some Ts[p] := List.getElem?_eq_getElem (by omega)
  have hb : Ts[p + 1]? = some Ts[p + 1] := List.getElem?_eq_getElem (by omega)
  obtain ⟨A, hA⟩ : ∃ A, A = Ts[p] := ⟨_, rfl⟩
  obtain ⟨B, hB⟩ : ∃ B, B = Ts[p + 1] := ⟨_, rfl⟩
  rw [← hA] at ha
  rw [← hB] at hb
  have split : Ts = Ts.take p ++ A :: B :: Ts.drop (p + 2) := by
    rw [hA, hB, ← List.drop_eq_getElem_cons, ← List.drop_eq_getElem_cons, List.take_append_drop]
  have hsum : sumT Ts = sumT (Ts.take p) + ((flat A.2).length + 1 + ((flat B.2).length + 1 + sumT (Ts.drop (p + 2)))) := by
    conv => lhs; rw [split]
    rw [sumT_append]; rfl
  have okA : okV A.1 := hok A (List.mem_of_getElem? ha)
  have okB : okV B.1 := hok B (List.mem_of_getElem? hb)
  obtain ⟨u, hj, hu1, hu2⟩ := join_ok (c := c) okA okB hen (by omega)
  have i1 : idxD (.list (Ts.map encT)) (.int (p : Int)) = some (encT A) := idx_list (by omega) (by rw [Int.toNat_natCast, List.getElem?_map, ha]; rfl)
  have i2 : idxD (.list (Ts.map encT)) (.int ((p : Int) + 1)) = some (encT B) := idx_list (by omega) (by rw [show ((p : Int) + 1).toNat = p + 1 from by omega, List.getElem?_map, hb]; rfl)
  have hlm : (Ts.map encT).length ≤ 16777216 := by simp; omega
  have s1 : slcD (.list (Ts.map encT)) .none (.int (p : Int)) = some (.list ((Ts.take p).map encT)) := by
    simp only [slcD, loD, hiD, if_pos (by omega : (0 : Int) ≤ (p : Int)), Option.bind_eq_bind, Option.bind_some, if_pos hlm]
    simp
  have s2 : slcD (.list (Ts.map encT)) (.int ((p : Int) + 2)) .none = some (.list ((Ts.drop (p + 2)).map encT)) := by
    simp only [slcD, loD, hiD, if_pos (by omega : (0 : Int) ≤ (p : Int) + 2), Option.bind_eq_bind, Option.bind_some, if_pos hlm]
    rw [List.take_length, show ((p : Int) + 2).toNat = p + 2 from by omega, List.map_drop]
  have b1 : binD .Add (.list ((Ts.take p).map encT)) (.list [encT u]) = some (.list ((Ts.take p ++ [u]).map encT)) := by
    simp only [binD]; rw [if_pos (by simp; omega)]; simp
  have b2 : binD .Add (.list ((Ts.take p ++ [u]).map encT)) (.list ((Ts.drop (p + 2)).map encT)) = some (.list ((Ts.take p ++ [u] ++ Ts.drop (p + 2)).map encT)) := by
    simp only [binD]; rw [if_pos (by simp; omega)]; simp
  refine ⟨Ts.take p ++ [u] ++ Ts.drop (p + 2), some (.d (.int c)), some (.d (.int (p : Int))), ?_, ?_, ?_, fun T m => ?_⟩
  · unfold turnS
    refine ss_assign (x := .d (.int c)) (μ₁ := []) (e_call (l_cons (e_var rfl) (l_cons (e_bin' e_int (e_var rfl) rfl) l_nil)) rfl hc) ?_
    refine ss_assign (x := .d (.int (p : Int))) (μ₁ := []) (e_bin' (e_bin' (e_var rfl) e_int d2) (e_bin' (e_prim1 (e_var rfl) hlen) e_int rfl) ep') ?_
    refine ss_assign (x := .d (.list ((Ts.take p ++ [u] ++ Ts.drop (p + 2)).map encT))) (μ₁ := []) (e_bin' (e_bin' (e_slc' (e_var rfl) e_none (e_var rfl) s1) (e_lst (l_cons (e_call (l_cons (e_idx' (e_var rfl) (e_var rfl) i1) (l_cons (e_idx' (e_var rfl) (e_bin' (e_var rfl) e_int rfl) i2) (l_cons (e_var rfl) (l_cons (e_var rfl) l_nil)))) rfl hj) l_nil) rfl (Nat.le_of_ble_eq_true rfl)) b1) (e_slc' (e_var rfl) (e_bin' (e_var rfl) e_int rfl) e_none s2) b2) ?_
    exact ss_nil
  · simp only [List.length_append, List.length_take, List.length_drop, List.length_singleton]; omega
  · rw [sumT_append, sumT_append, hsum]; simp only [sumT]; omega
  · rcases List.mem_append.mp m with m | m
    · rcases List.mem_append.mp m with m | m
      · exact hok T (List.mem_of_mem_take m)
      · rw [List.mem_singleton.mp m]; exact hu1
    · exact hok T (List.mem_of_mem_drop m)

theorem loop_ok {xs : List Int} (hl : xs.length ≤ 63) {en : PyData} (hen : en.canLay0 = true) {fst cnt : Int} : ∀ (n : Nat) (i : Int) (Ts : List (Vl × Ty)) (i0 c0 p0 : Option MV), 0 ≤ i → Ts.length = n + 1 → sumT Ts ≤ 50 → (∀ p ∈ Ts, okV p.1) →
    ∃ (T : Vl × Ty) (i' c' p' : Option MV), forF 5 (evSs [f_parts, f_fits, f_cell, f_leaf, f_join] turnS) n i [some (.d (.list (xs.map .int))), some (.d (.int fst)), some (.d en), some (.d (.int cnt)), some (.d (.list (Ts.map encT))), i0, none, none, c0, p0, none, none, none] [] = some (.next, [some (.d (.list (xs.map .int))), some (.d (.int fst)), some (.d en), some (.d (.int cnt)), some (.d (.list ([encT T]))), i', none, none, c', p', none, none, none], []) ∧ okV T.1 ∧ (flat T.2).length ≤ 50
  | 0, i, Ts, i0, c0, p0, h0, hn, hs, hok => by
    obtain ⟨T, rfl⟩ : ∃ T, Ts = [T] := by
      match Ts, hn with
      | [T], _ => exact ⟨T, rfl⟩
    exact ⟨T, i0, c0, p0, rfl, hok T (.head _), by simp only [sumT] at hs; omega⟩
  | n + 1, i, Ts, i0, c0, p0, h0, hn, hs, hok => by
    obtain ⟨Us, c', p', e, h1, h2, h3⟩ := turn_ok hl hen (fst := fst) (cnt := cnt) (i := i) (c0 := c0) (p0 := p0) h0 hn hs hok
    obtain ⟨T, i'', c'', p'', e', q⟩ := loop_ok hl hen (fst := fst) (cnt := cnt) n (i + 1) Us (some (.d (.int i))) c' p' (by omega) h1 (by omega) h3
    refine ⟨T, i'', c'', p'', ?_, q⟩
    rw [← e']
    simp only [forF, List.set_cons_succ, List.set_cons_zero]
    rw [e]
    rfl

theorem en_same (f : Int) : cmpD .NotEq (.list [.tuple [.str ⟨#[105, 110, 116]⟩, .int f]]) (.list [.tuple [.str ⟨#[105, 110, 116]⟩, .int f]]) = some false ∧ (PyData.list [.tuple [.str ⟨#[105, 110, 116]⟩, .int f]]).canLay0 = true := by
  have hl : (PyData.list [.tuple [.str ⟨#[105, 110, 116]⟩, .int f]]).canLay0 = true := by simp only [PyData.canLay0, PyData.canLayAll0]; decide +kernel
  have h1 : eqOk (.list [.tuple [.str ⟨#[105, 110, 116]⟩, .int f]]) (.list [.tuple [.str ⟨#[105, 110, 116]⟩, .int f]]) = true := by
    unfold eqOk
    rw [hl, Bool.and_self, Bool.true_and]
    refine decide_eq_true ?_
    simp [PyData.depth, PyData.depthAll]
  refine ⟨?_, hl⟩
  show (if eqOk _ _ then some (!PyData.eqv (.list [.tuple [.str ⟨#[105, 110, 116]⟩, .int f]]) (.list [.tuple [.str ⟨#[105, 110, 116]⟩, .int f]])) else none) = _
  rw [if_pos h1, SeqAt.eqv_refl _ hl]; rfl

theorem law_ok (xs : List Int) (hl : xs.length ≤ 63) : f_law [.d (.list (xs.map .int))] [] = some (.bool true, []) := by
  rw [f_law_at rfl, b_law_eq]
  obtain ⟨fst, hc0⟩ := cell_ex (xs := xs) (i := 0) hl (by omega)
  obtain ⟨m, hm, e, _⟩ := mod_ok fst 4 (by omega)
  replace e : binD .Mod (.int fst) (.int 4) = some (.int (m : Int)) := e
  obtain ⟨hes, hen⟩ := en_same fst
  obtain ⟨Ts, hcf, h1, h2, h3⟩ := comp_ok hl hen (m + 1) 0 (by omega)
  obtain ⟨⟨v, T⟩, i', c', p', hfor, hT, hlv⟩ := loop_ok hl hen (fst := fst) (cnt := 1 + (m : Int)) m 0 Ts none none none (by omega) h1 (by omega) h3
  have hsh := fits_ok (v := v) (T := T) hT (by simp only at hlv; omega)
  have hs := slc_all (xs := flat T) (by simp only at hlv; omega)
  have hfs := flat_same T
  obtain ⟨g, hg⟩ : ∃ g, g = fits v T := ⟨_, rfl⟩
  rw [← hg] at hsh
  have hix : idxD (.list [encT (v, T)]) (.int 0) = some (.tuple [encV v, .list (flat T), .bool g]) := by rw [hg]; rfl
  apply fn_d (x := .bool true) (μ' := [])
  case e => rfl
  refine ss_assign (x := .d (.int fst)) (μ₁ := []) (e_call (l_cons (e_var rfl) (l_cons e_int l_nil)) rfl hc0) ?_
  refine ss_assign (x := .d (.list [.tuple [.str ⟨#[105, 110, 116]⟩, .int fst]])) (μ₁ := []) (e_lst (l_cons (e_tup (l_cons e_str (l_cons (e_var rfl) l_nil)) rfl (Nat.le_of_ble_eq_true rfl)) l_nil) rfl (Nat.le_of_ble_eq_true rfl)) ?_
  refine ss_assign (x := .d (.int (1 + (m : Int)))) (μ₁ := []) (e_bin' e_int (e_bin' (e_var rfl) e_int e) rfl) ?_
  refine ss_compr (k := 1 + (m : Int)) (μ₁ := []) (μ₂ := []) (xs := Ts.map encT) (e_var rfl) (by omega) ?_ ?_
  · rw [show (1 + (m : Int)).toNat = m + 1 from by omega]; exact hcf
  · refine ss_forr (k := (m : Int)) (μ₁ := []) (e_bin' (dz := .int (m : Int)) (e_var rfl) e_int (by simp only [binD]; congr 2; omega)) (by omega) hfor ?_
    apply then_next
    unfold endS
    refine ss_unpack (xs := [encV v, .list (flat T), .bool g]) (μ₁ := []) (e_idx' (e_var rfl) e_int hix) rfl ?_
    refine ss_assign (x := .d (.list (flat T))) (μ₁ := []) (e_slc' (e_var rfl) e_none e_none hs) ?_
    refine ss_assign (x := .d (.bool g)) (μ₁ := []) (e_call (l_cons (e_var rfl) (l_cons (e_var rfl) l_nil)) rfl hsh) ?_
    refine ss_ite_f (μ₁ := []) ?_ ss_nil ?_
    · apply b_bop
      cases g with
      | true => exact bs_and_t (b_val (e_var rfl)) (bs_and_f (b_val (e_cmp' (e_var rfl) e_bool rfl)))
      | false => exact bs_and_f (b_val (e_var rfl))
    · apply then_next
      refine ss_ite_f (μ₁ := []) ?_ ss_nil ?_
      · apply b_bop
        cases g with
        | true => exact bs_and_f (b_not_f (b_val (e_var rfl)))
        | false => exact bs_and_t (b_not_t (b_val (e_var rfl))) (bs_and_f (b_val (e_cmp' (e_var rfl) e_bool rfl)))
      · apply then_next
        refine ss_ite_f (b_val (e_cmp' (e_var rfl) (e_var rfl) hfs)) ss_nil ?_
        apply then_next
        refine ss_ite_f (b_val (e_cmp' (e_var rfl) (e_lst (l_cons (e_tup (l_cons e_str (l_cons (e_var rfl) l_nil)) rfl (Nat.le_of_ble_eq_true rfl)) l_nil) rfl (Nat.le_of_ble_eq_true rfl)) hes)) ss_nil ?_
        apply then_next
        exact ss_ret e_bool
end Mini

namespace Mini
open PySem PySem.W PyProof.Rows
def fds21 : List FD := [⟨"parts_of", 1, 3, n_parts_of, b_parts_of⟩, ⟨"value_fits", 2, 6, n_value_fits, b_value_fits⟩, ⟨"_law_cell", 2, 0, n_law_cell, b_law_cell⟩, ⟨"_law_leaf", 3, 4, n_law_leaf, b_law_leaf⟩, ⟨"_law_join", 4, 3, n_law_join, b_law_join⟩, ⟨"law", 1, 12, n_law, b_law⟩]
theorem sem21 : (sems fds21 [])[5]? = some (("law" : Str), f_law) := rfl
end Mini
open PySem PySem.W PyProof.Rows
set_option maxRecDepth 100000 in
set_option maxHeartbeats 8000000 in
theorem PySem.Challenge.cw_k13_0021_holds : PySem.Challenge.rw_k13_0021.Holds := by
  w_on; o_law; k_head; (case hw => w_witness2)
  k_fill
  intro w s₀ s₁ mg mb G Y fa o pm cd doc dV kV ho hd hcd hD hmg hg args vals as hpre hlay hrd hwl hlo
  refine Ground.open G ?_
  intro T B D TE TW
  wrow_args hpre hlay hrd hwl hlo
  rename_i ns _ _ _ _ _ _ _ a vs _ hL _ _ _ hI _ hc _
  have hl : ns.length ≤ 63 := by omega
  refine Mini.law_call T Mini.fds21 ?_ ?_ ?_ rfl hmg ⟨5, Mini.sem21⟩ hL hI (Mini.law_ok ns hl) ?_
  · decide +kernel
  · decide +kernel
  · decide
  · intro h' tk hk
    exact Mini.law_good hg hk
