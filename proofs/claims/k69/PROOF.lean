import PyProof.Rows.All
import Wide.All
import OpenK.AllK
import Wide.FinOn
import PySem.PyData
import PyProof.P3Statements
import PyProof.EqLayable
import KE.LtData
import KE.KeyNested
import HandS.ForMost
import HandS.ForExc
import HandS.Wide
import HandS.TupAny
import HandS.Zip
import HandS.IsInst
import HandS.SetFor
import HandS.EndBits
import HandS.Style
import HandS.TupMul
import KE.DataMinMax
import KE.KDictKeyed
import PyProof.DictMoreH
import KE.KDictWalk
import HandS.Iter
import HandS.Dict
import KE.GoesMore
import HandS.Walk
import HandS.Conv
import HandS.WordsExc
import PySem.Challenge.RW_evercrew_k69_whole_mean_pay_of_endless_l
set_option Elab.async false
set_option linter.all false
set_option maxRecDepth 100000
/-! D0: pure values, a store, a small IR of Python and its weakest preconditions. -/
namespace Den
open PySem (Str PyData CmpOp Operator)

/-- a pure value; lst: a list that never changes again; lck: the script; ref n: the n-th object of the store -/
inductive PV where
  | non | bl (b : Bool) | int (i : Int) | str (x : Str)
  | tup (xs : List PV) | lst (xs : List PV) | lck (xs : List PV)
  | ref (n : Nat) | ty (n : String)
  | dct
  deriving Inhabited

/-- objects that change -/
inductive SO where
  | lst (xs : List PV)
  | ins (c : Str) (fs : List (Str × PV))
  /-- a dict, its keys tuples; g: how it stands, for walks -/
  | dct (es : List (PV × PV)) (g : PySem.Obj)
  deriving Inhabited

abbrev Store := List SO
structure PSt where
  env : List (Option PV)
  st : Store
structure PX where
  cls : Str
  fs : List (Str × PV)

abbrev QV := PV → PSt → Prop
abbrev QX := PX → PSt → Prop
/-- expressions' and statements' transformers -/
abbrev WE := PSt → QV → QX → Prop
structure Post where
  nx : PSt → Prop
  rt : PV → PSt → Prop
  bk : PSt → Prop := fun _ => False
  ct : PSt → Prop := fun _ => False
  ex : QX

/-! ### data -/
mutual
def PV.d : PV → PyData
  | .non => .none
  | .bl b => .bool b
  | .int i => .int i
  | .str x => .str x
  | .tup xs => .tuple (dL xs)
  | .lst xs => .list (dL xs)
  | .lck xs => .dict []
  | .ref _ => .dict []
  | .ty _ => .dict []
  | .dct => .dict []
def dL : List PV → List PyData
  | [] => []
  | x :: xs => x.d :: dL xs
end
theorem dL_map : ∀ xs : List PV, dL xs = xs.map PV.d
  | [] => rfl
  | x :: xs => by rw [dL, dL_map xs]; rfl

abbrev NK := PySem.NestedKey
/-! ### what may be a dict's key -/
mutual
def keyOf : PV → Option NK
  | .non => some .none
  | .bl b => some (.num (if b = true then 1 else 0))
  | .int i => some (.num i)
  | .str x => some (.text x)
  | .tup xs => (keysOf xs).map .tup
  | .lst _ => none
  | .lck _ => none
  | .ref _ => none
  | .ty _ => none
  | .dct => none
def keysOf : List PV → Option (List NK)
  | [] => some []
  | x :: xs => (keyOf x).bind fun k => (keysOf xs).map fun ks => k :: ks
end
/-- no reference within -/
inductive Pure : PV → Prop
  | non : Pure .non
  | bl {b} : Pure (.bl b)
  | int {i} : Pure (.int i)
  | str {x} : Pure (.str x)
  | ty {x} : Pure (.ty x)
  | dct : Pure .dct
  | tup {xs} : (∀ x ∈ xs, Pure x) → Pure (.tup xs)
  | lst {xs} : (∀ x ∈ xs, Pure x) → Pure (.lst xs)
  | lck {xs} : (∀ x ∈ xs, Pure x) → Pure (.lck xs)
inductive PureO : SO → Prop
  | lst {xs} : (∀ x ∈ xs, Pure x) → PureO (.lst xs)
  | ins {c fs} : (∀ p ∈ fs, Pure p.2) → PureO (.ins c fs)
  | dct {es g} : (∀ p ∈ es, Pure p.1 ∧ Pure p.2) → PureO (.dct es g)

/-! ### the IR -/
inductive T where
  | name (i : Nat)
  | nil
  | cons (a : T) (as : T)
  | tup (as : T)
  deriving DecidableEq, Inhabited

inductive Blt where
  | len | abs | int | min2 | max2 | all | any | tuple | list | sum | bool | max1 | min1 | maxP
  deriving DecidableEq, Inhabited
inductive Mth where
  | count | append | pop
  deriving DecidableEq, Inhabited

inductive E where
  | var (i : Nat)
  | int (i : Int) | bl (b : Bool) | non | str (x : Str)
  | gint (x : Str) (i : Int)
  | gstr (x : Str) (y : Str)
  | gty (x : Str) (n : String)
  | dct0 | dct1 (k : Int) (i : Nat)
  | never
  | trg1 (t m : Bool) (a : E) | trg2 (t m : Bool) (a b : E)
  | dnew | ixd (a b : E) | ind (n : Bool) (a b : E) | dget (a b d : E) | dset (a b d : E)
  | attr (a : E) (f : Str) (cs : List Str) | mcall (a : E) (m : Str) (c : Str) (i : Nat) (es : E) | new (c : Str) (i : Nat) (es : E) | isc (a : E) (c : Str)
  | bin (op : Operator) (m : Bool) (a b : E)
  | neg (a : E)
  | cmp (op : CmpOp) (a b : E)
  | chain (op op2 : CmpOp) (a b c : E)
  | and (a b : E) | or (a b : E) | not (a : E)
  | ite (c a b : E)
  | tup (es : E) | lst (m : Bool) (es : E)
  | ix (a b : E) | slc (m : Bool) (a lo hi : E)
  | call (f : Nat) (es : E)
  | blt (f : Blt) (m : Bool) (es : E)
  | isi (a : E) (ns : List (Str × String)) (t : Bool)
  | meth (f : Mth) (a es : E)
  | lc (m : Bool) (own : List (Str × Nat)) (tg : T) (it cond elt : E)
  | lc2 (m : Bool) (own : List (Str × Nat)) (vs1 : List Nat) (tg : T) (it : E) (tg1 : T) (it1 cond elt : E)
  -- what a loop walks
  | seq (e : E) | seqd (e : E) | rng1 (e : E) | rng2 (a b : E) | enum (e : E) | zip (a b : E)
  -- lists of expressions
  | nil | cons (a es : E)
  deriving Inhabited

inductive S where
  | nop
  | seq (a b : S)
  | expr (e : E)
  | ret (e : E) | retN
  | asg (t : T) (e : E)
  | par (i j : Nat) (a b : E)
  | setix (o i e : E)
  | setd (o i e : E)
  | setat (o : E) (f : Str) (cs : List Str) (e : E)
  | par3 (i j l : Nat) (a b c : E)
  | aug (i : Nat) (op : Operator) (e : E)
  | ite (c : E) (a b : S)
  | for (t : T) (it : E) (b : S)
  | while (c : E) (b : S)
  | brk | cnt
  | stuck
  deriving Inhabited

/-! ### operations on values -/
def szOk (n : Nat) : Prop := n ≤ 16777216
/-- a list made: changing (a new object) or frozen -/
def mkL (m : Bool) (xs : List PV) (p : PSt) (Q : QV) : Prop :=
  szOk xs.length ∧ (if m then Q (.ref p.st.length) { p with st := p.st ++ [.lst xs] } else Q (.lst xs) p)

def binI : Operator → Int → Int → (Int → Prop) → Prop
  | .Add, i, j, Q => Q (i + j)
  | .Sub, i, j, Q => Q (i - j)
  | .Mult, i, j, Q => i.natAbs.log2 + j.natAbs.log2 < 1000000 ∧ Q (i * j)
  | .FloorDiv, i, j, Q => (0 < j ∧ j.natAbs.log2 < 9000) ∧ Q (i / j)
  | .Mod, i, j, Q => 0 < j ∧ Q (i % j)
  | .Pow, i, j, Q => (0 ≤ j ∧ j ≤ 1000000 ∧ i.natAbs < 2 ^ 64) ∧ Q (i ^ j.toNat)
  | .LShift, i, j, Q => (0 ≤ j ∧ j ≤ 1000000 ∧ i.natAbs < 2 ^ 64) ∧ Q (i * 2 ^ j.toNat)
  | _, _, _, _ => False
/-- the list that stands behind a value -/
def listOf (p : PSt) : PV → (List PV → Prop) → Prop
  | .lst xs, Q => Q xs
  | .ref n, Q => ∃ xs, p.st[n]? = some (.lst xs) ∧ Q xs
  | _, _ => False
def binV (op : Operator) (m : Bool) (x y : PV) (p : PSt) (Q : QV) : Prop :=
  match x, y with
  | .int i, .int j => binI op i j fun k => Q (.int k) p
  | .tup xs, .tup ys => op = .Add ∧ szOk (xs.length + ys.length) ∧ Q (.tup (xs ++ ys)) p
  | .str a, .str b => op = .Add ∧ szOk (a.length + b.length) ∧ Q (.str (a ++ b)) p
  | .tup xs, .int k => (op = .Mult ∧ xs ≠ [] ∧ 1 ≤ k ∧ k ≤ 1000 ∧ xs.length ≤ 1000) ∧ Q (.tup (List.replicate k.toNat xs).flatten) p
  | x, y => op = .Add ∧ listOf p x fun xs => listOf p y fun ys => mkL m (xs ++ ys) p Q

def cmpI : CmpOp → Int → Int → (Bool → Prop) → Prop
  | .Lt, i, j, Q => Q (decide (i < j))
  | .LtE, i, j, Q => Q (decide (i ≤ j))
  | .Gt, i, j, Q => Q (decide (j < i))
  | .GtE, i, j, Q => Q (decide (j ≤ i))
  | .Eq, i, j, Q => Q (decide (i = j))
  | .NotEq, i, j, Q => Q (!decide (i = j))
  | _, _, _, _ => False
/-- no locked thing, no reference: what == can look at -/
inductive IsD : PV → Prop
  | non : IsD .non
  | bl {b} : IsD (.bl b)
  | int {i} : IsD (.int i)
  | str {x} : PySem.PyData.strOk x = true → IsD (.str x)
  | tup {xs} : (∀ x ∈ xs, IsD x) → IsD (.tup xs)
  | lst {xs} : (∀ x ∈ xs, IsD x) → IsD (.lst xs)
def eqOk (x : PV) : Prop := IsD x ∧ x.d.depth ≤ 64
def flat : PV → Bool
  | .non | .bl _ | .int _ | .str _ => true
  | _ => false
def itemsOf (p : PSt) : PV → (List PV → Prop) → Prop
  | .lst xs, Q => Q xs
  | .tup xs, Q => Q xs
  | .ref n, Q => ∃ xs, p.st[n]? = some (.lst xs) ∧ Q xs
  | _, _ => False
def isNon : PV → Bool
  | .non => true
  | _ => false
def cmpV (op : CmpOp) (x y : PV) (p : PSt) (Q : Bool → Prop) : Prop :=
  match op with
  | .Is => (y = .non ∧ Q (isNon x)) ∨ ∃ a b, x = .bl a ∧ y = .bl b ∧ Q (decide (a = b))
  | .IsNot => (y = .non ∧ Q (!isNon x)) ∨ ∃ a b, x = .bl a ∧ y = .bl b ∧ Q (!decide (a = b))
  | .In => itemsOf p y fun ys => flat x = true ∧ ys.all flat = true ∧ Q (ys.any fun z => PyData.eqv z.d x.d)
  | .NotIn => itemsOf p y fun ys => flat x = true ∧ ys.all flat = true ∧ Q (!(ys.any fun z => PyData.eqv z.d x.d))
  | .Eq => match x, y with
    | .int i, .int j => Q (decide (i = j))
    | x, y => eqOk x ∧ eqOk y ∧ Q (PyData.eqv x.d y.d)
  | .NotEq => match x, y with
    | .int i, .int j => Q (!decide (i = j))
    | x, y => eqOk x ∧ eqOk y ∧ Q (!PyData.eqv x.d y.d)
  | op => match x, y with
    | .int i, .int j => cmpI op i j Q
    | _, _ => False

def ixN (n : Nat) (i : Int) : Option Nat := if 0 ≤ i then (if i < n then some i.toNat else none) else if -(n : Int) ≤ i then some (i + n).toNat else none
def ixV (x y : PV) (p : PSt) (Q : QV) : Prop :=
  match y with
  | .int i => itemsOf p x fun xs => ∃ k v, ixN xs.length i = some k ∧ xs[k]? = some v ∧ Q v p
  | _ => False
def sIx (n d : Nat) : Option Int → Nat
  | none => d
  | some v => if v < 0 then (v + n).toNat else min v.toNat n
def cutP {α : Type} (xs : List α) (lo hi : Option Int) : List α := (xs.drop (sIx xs.length 0 lo)).take (sIx xs.length xs.length hi - sIx xs.length 0 lo)
def slcV (m : Bool) (x : PV) (lo hi : Option Int) (p : PSt) (Q : QV) : Prop :=
  match x with
  | .tup xs => Q (.tup (cutP xs lo hi)) p
  | .lck xs => mkL m (cutP xs lo hi) p Q
  | x => listOf p x fun xs => mkL m (cutP xs lo hi) p Q

/-- type names for isinstance -/
def tyN (p : PSt) : PV → Option String
  | .non => some "NoneType"
  | .bl _ => some "bool"
  | .int _ => some "int"
  | .str _ => some "str"
  | .tup _ => some "tuple"
  | .lst _ => some "list"
  | .dct => some "dict"
  | .ref n => match p.st[n]? with
    | some (.lst _) => some "list"
    | _ => none
  | _ => none
def isSub (a b : String) : Bool := a == b || (a == "bool" && b == "int") || b == "object"
def knownTy (b : String) : Bool := b == "int" || b == "bool" || b == "str" || b == "tuple" || b == "list" || b == "dict"
def isiV (x : PV) (ns : List (Str × String)) (p : PSt) (Q : Bool → Prop) : Prop :=
  (∀ b ∈ ns, knownTy b.2 = true) ∧ ∃ a, tyN p x = some a ∧ Q (ns.any fun b => isSub a b.2)

def allBl : List PV → Option (List Bool)
  | [] => some []
  | .bl b :: xs => (allBl xs).map (b :: ·)
  | _ => none
def allInt : List PV → Option (List Int)
  | [] => some []
  | .int b :: xs => (allInt xs).map (b :: ·)
  | _ => none
/-- the order of lists of ints -/
def ltIs : List Int → List Int → Bool
  | [], [] => false
  | [], _ :: _ => true
  | _ :: _, [] => false
  | j :: js, i :: is => if j = i then ltIs js is else decide (j < i)
/-- the less of two tuples (an int, a tuple of ints) -/
def minT (xs ys : List PV) (Q : PV → Prop) : Prop := ∃ i j is js, xs = [.int i, .tup (is.map .int)] ∧ ys = [.int j, .tup (js.map .int)] ∧ Q (.tup (if ltIs (j :: js) (i :: is) then ys else xs))
def bltV (f : Blt) (m : Bool) (xs : List PV) (p : PSt) (Q : QV) : Prop :=
  match f, xs with
  | .len, [.tup xs] => Q (.int xs.length) p
  | .len, [.str x] => szOk x.length ∧ Q (.int x.length) p
  | .len, [x] => listOf p x fun xs => Q (.int xs.length) p
  | .abs, [.int i] => Q (.int (if i < 0 then -i else i)) p
  | .int, [.int i] => Q (.int i) p
  | .int, [.bl b] => Q (.int (if b then 1 else 0)) p
  | .min2, [.int i, .int j] => Q (.int (if j < i then j else i)) p
  | .min2, [.tup xs, .tup ys] => minT xs ys fun x => Q x p
  | .max2, [.int i, .int j] => Q (.int (if j > i then j else i)) p
  | .all, [x] => listOf p x fun xs => ∃ bs, allBl xs = some bs ∧ Q (.bl (bs.all id)) p
  | .any, [x] => listOf p x fun xs => ∃ bs, allBl xs = some bs ∧ Q (.bl (bs.any id)) p
  | .tuple, [.tup xs] => Q (.tup xs) p
  | .tuple, [x] => listOf p x fun xs => Q (.tup xs) p
  | .list, [x] => itemsOf p x fun xs => mkL m xs p Q
  | .sum, [x] => itemsOf p x fun xs => ∃ ns, allInt xs = some ns ∧ Q (.int ns.sum) p
  | .max1, [x] => listOf p x fun xs => ∃ ns, allInt xs = some ns ∧ 0 < ns.length ∧ ∀ m ∈ ns, (∀ y ∈ ns, y ≤ m) → Q (.int m) p
  | .maxP, [x] => listOf p x fun xs => ∃ ps : List (List Int), xs = ps.map (fun l => PV.tup (l.map .int)) ∧ 0 < ps.length ∧ ∀ m ∈ ps, (∀ y ∈ ps, ltIs m y = false) → Q (.tup (m.map .int)) p
  | .min1, [x] => listOf p x fun xs => ∃ ns, allInt xs = some ns ∧ 0 < ns.length ∧ ∀ m ∈ ns, (∀ y ∈ ns, m ≤ y) → Q (.int m) p
  | _, _ => False
/-- what a method's receiver is, ahead of the arguments -/
def mthPre (f : Mth) (x : PV) (p : PSt) : Prop := listOf p x fun _ => True
def methV (f : Mth) (x : PV) (xs : List PV) (p : PSt) (Q : QV) : Prop :=
  match f, xs with
  | .count, [.int k] => listOf p x fun ys => ∃ ns, allInt ys = some ns ∧ Q (.int (ns.count k : Nat)) p
  | .pop, [.int k] => ∃ n xs j v, x = .ref n ∧ p.st[n]? = some (.lst xs) ∧ (0 ≤ k ∧ k < 16777216 ∧ ixN xs.length k = some j) ∧ xs[j]? = some v ∧ Q v { p with st := p.st.set n (.lst (xs.eraseIdx j)) }
  | .append, [y] => ∃ n xs, x = .ref n ∧ p.st[n]? = some (.lst xs) ∧ xs.length < 16777216 ∧ Q .non { p with st := p.st.set n (.lst (xs ++ [y])) }
  | _, _ => False

/-! ### targets -/
mutual
def wT : T → PV → PSt → (PSt → Prop) → Prop
  | .name i, v, p, Q => i < p.env.length ∧ Q { p with env := p.env.set i (some v) }
  | .tup ts, v, p, Q => ∃ xs, v = .tup xs ∧ wTs ts xs p Q
  | .nil, _, _, _ => False
  | .cons _ _, _, _, _ => False
def wTs : T → List PV → PSt → (PSt → Prop) → Prop
  | .nil, xs, p, Q => xs = [] ∧ Q p
  | .cons t ts, xs, p, Q => ∃ x r, xs = x :: r ∧ wT t x p fun p' => wTs ts r p' Q
  | .name _, _, _, _ => False
  | .tup _, _, _, _ => False
end
def wipeP (env : List (Option PV)) : List Nat → List (Option PV)
  | [] => env
  | v :: vs => (wipeP env vs).set v none

/-! ### what is walked: from the values, the list of the items, and what must stand still meanwhile -/
def srcOf (x : PV) (xs : List PV) : PSt → Prop := match x with
  | .ref n => fun p => p.st[n]? = some (.lst xs)
  | _ => fun _ => True
/-- one thing that is walked -/
def src1 (p : PSt) (x : PV) (Q : List PV → (PSt → Prop) → Prop) : Prop := itemsOf p x fun xs => Q xs (srcOf x xs)
def isTup : PV → Bool
  | .tup _ => true
  | _ => false
def enumL : Nat → List PV → List PV
  | _, [] => []
  | n, x :: xs => .tup [.int n, x] :: enumL (n + 1) xs
def zipL : List PV → List PV → List PV
  | x :: xs, y :: ys => .tup [x, y] :: zipL xs ys
  | _, _ => []
def rngL (lo : Int) (n : Nat) : List PV := (List.range n).map fun (i : Nat) => PV.int (lo + (i : Int))
def rngOk (lo hi : Int) : Prop := -(2 ^ 62) ≤ lo ∧ lo < 2 ^ 62 ∧ -(2 ^ 62) ≤ hi ∧ hi < 2 ^ 62

/-- tuple(range(..)), list(range(..)) -/
def rngV (t m : Bool) (lo hi : Int) (p : PSt) (Q : QV) : Prop := rngOk lo hi ∧ szOk (hi - lo).toNat ∧ (if t then Q (.tup (rngL lo (hi - lo).toNat)) p else mkL m (rngL lo (hi - lo).toNat) p Q)
/-- a dict's entries by keys -/
def getK : List (PV × PV) → NK → Option PV
  | [], _ => none
  | e :: es, k => if keyOf e.1 = some k then some e.2 else getK es k
def putK : List (PV × PV) → PV → NK → PV → List (PV × PV)
  | [], y, _, v => [(y, v)]
  | e :: es, y, k, v => if keyOf e.1 = some k then (e.1, v) :: es else e :: putK es y k v
def isDct (p : PSt) (x : PV) : Prop := ∃ n es g, x = .ref n ∧ p.st[n]? = some (.dct es g)
/-- x is a dict, y may be its key -/
def dKey (p : PSt) (x y : PV) (R : Nat → List (PV × PV) → NK → Prop) : Prop :=
  ∃ n es g k, x = .ref n ∧ p.st[n]? = some (.dct es g) ∧ (∃ ks, y = .tup ks) ∧ keyOf y = some k ∧ k.depth ≤ 8 ∧ R n es k
def dSet (p : PSt) (y z : PV) (n : Nat) (es : List (PV × PV)) (k : NK) (Q : QV) : Prop := match getK es k with
  | some v => Q v p
  | none => es.length < 16777216 ∧ ∀ g, Q z { p with st := p.st.set n (.dct (es ++ [(y, z)]) g) }
/-- an attribute stored -/
def putP (f : Str) (v : PV) : List (Str × PV) → List (Str × PV)
  | [] => [(f, v)]
  | (g, x) :: r => if g = f then (g, v) :: r else (g, x) :: putP f v r
/-- a comprehension's loop: an item to what is appended, if any, and the state behind -/
def lcLoop (turn : PV → PSt → (Option PV → PSt → Prop) → Prop) (stay : PSt → Prop) : List PV → List PV → PSt → (List PV → PSt → Prop) → Prop
  | [], acc, p, Q => stay p ∧ Q acc p
  | x :: xs, acc, p, Q => stay p ∧ turn x p fun y p' => match y with
    | some y => acc.length < 16777216 ∧ lcLoop turn stay xs (acc ++ [y]) p' Q
    | none => lcLoop turn stay xs acc p' Q
/-- the first clause's loop of a comprehension of two -/
def lcOut (turn : PV → List PV → PSt → (List PV → PSt → Prop) → Prop) (stay : PSt → Prop) : List PV → List PV → PSt → (List PV → PSt → Prop) → Prop
  | [], acc, p, Q => stay p ∧ Q acc p
  | x :: xs, acc, p, Q => stay p ∧ turn x acc p fun acc' p' => lcOut turn stay xs acc' p' Q
/-- a for loop -/
def forLoop (turn : PV → PSt → Post → Prop) (stay : PSt → Prop) : List PV → PSt → Post → Prop
  | [], p, D => stay p ∧ D.nx p
  | x :: xs, p, D => stay p ∧ turn x p { nx := fun p' => forLoop turn stay xs p' D, ct := fun p' => forLoop turn stay xs p' D, bk := D.nx, rt := D.rt, ex := D.ex }

/-- no exception leaves a comprehension -/
abbrev noX : QX := fun _ _ => False
/-- the functions: number, arguments, store, ends -/
abbrev FT := Nat → List PV → Store → (PV → Store → Prop) → (PX → Store → Prop) → Prop

/-- a part of a slice -/
def partW (b : Bool) (w : PSt → QV → QX → Prop) (p : PSt) (Q : Option Int → PSt → Prop) (X : QX) : Prop :=
  if b = true then Q none p else w p (fun x p1 => ∃ i, x = .int i ∧ Q (some i) p1) X
def isNonE : E → Bool
  | .non => true
  | _ => false
mutual
/-- an expression -/
def wE (F : FT) : E → PSt → QV → QX → Prop
  | .var i, p, Q, _ => ∃ v, p.env[i]? = some (some v) ∧ Q v p
  | .int i, p, Q, _ => Q (.int i) p
  | .bl b, p, Q, _ => Q (.bl b) p
  | .non, p, Q, _ => Q .non p
  | .str x, p, Q, _ => Q (.str x) p
  | .gint _ i, p, Q, _ => Q (.int i) p
  | .gstr _ y, p, Q, _ => Q (.str y) p
  | .gty _ n, p, Q, _ => Q (.ty n) p
  | .dct0, p, Q, _ => Q .dct p
  | .never, _, _, _ => False
  | .trg1 t m a, p, Q, X => wE F a p (fun x p1 => ∃ n, x = .int n ∧ rngV t m 0 n p1 Q) X
  | .trg2 t m a b, p, Q, X => wE F a p (fun x p1 => wE F b p1 (fun y p2 => ∃ lo hi, x = .int lo ∧ y = .int hi ∧ rngV t m lo hi p2 Q) X) X
  | .dnew, p, Q, _ => ∀ g, Q (.ref p.st.length) { p with st := p.st ++ [.dct [] g] }
  | .ixd a b, p, Q, X => wE F a p (fun x p1 => wE F b p1 (fun y p2 => dKey p2 x y fun _ es k => ∃ v, getK es k = some v ∧ Q v p2) X) X
  | .ind n a b, p, Q, X => wE F a p (fun x p1 => wE F b p1 (fun y p2 => dKey p2 y x fun _ es k => Q (.bl (if n then !(getK es k).isSome else (getK es k).isSome)) p2) X) X
  | .dget a b d, p, Q, X => wE F a p (fun x p1 => isDct p1 x ∧ wE F b p1 (fun y p2 => wE F d p2 (fun z p3 => dKey p3 x y fun _ es k => Q ((getK es k).getD z) p3) X) X) X
  | .dset a b d, p, Q, X => wE F a p (fun x p1 => isDct p1 x ∧ wE F b p1 (fun y p2 => wE F d p2 (fun z p3 => dKey p3 x y fun n es k => dSet p3 y z n es k Q) X) X) X
  | .attr a f cs, p, Q, X => wE F a p (fun x p1 => ∃ n c fs v, x = .ref n ∧ p1.st[n]? = some (.ins c fs) ∧ c ∈ cs ∧ fs.lookup f = some v ∧ Q v p1) X
  | .mcall a m c i es, p, Q, X => wE F a p (fun x p1 => ∃ n fs, x = .ref n ∧ p1.st[n]? = some (.ins c fs) ∧ fs.lookup m = none ∧
      wL F es p1 (fun xs p2 => F i (x :: xs) p2.st (fun v st => Q v { p2 with st := st }) (fun _ _ => False)) X) X
  | .new c i es, p, Q, X => wL F es p (fun xs p1 => F i (.ref p1.st.length :: xs) (p1.st ++ [.ins c []]) (fun v st => v = .non ∧ Q (.ref p1.st.length) { p1 with st := st }) (fun _ _ => False)) X
  | .isc a c, p, Q, X => wE F a p (fun x p1 => ∃ n fs, x = .ref n ∧ p1.st[n]? = some (.ins c fs) ∧ Q (.bl true) p1) X
  | .dct1 _ i, p, Q, _ => ∃ v, p.env[i]? = some (some v) ∧ Q .dct p
  | .bin op m a b, p, Q, X => wE F a p (fun x p1 => wE F b p1 (fun y p2 => binV op m x y p2 Q) X) X
  | .neg a, p, Q, X => wE F a p (fun x p1 => ∃ i, x = .int i ∧ Q (.int (-i)) p1) X
  | .cmp op a b, p, Q, X => wE F a p (fun x p1 => wE F b p1 (fun y p2 => cmpV op x y p2 fun k => Q (.bl k) p2) X) X
  | .chain op op2 a b c, p, Q, X => wE F a p (fun x p1 => wE F b p1 (fun y p2 => cmpV op x y p2 fun k =>
      if k = true then wE F c p2 (fun z p3 => cmpV op2 y z p3 fun k => Q (.bl k) p3) X else Q (.bl false) p2) X) X
  | .and a b, p, Q, X => wE F a p (fun x p1 => ∃ k, x = .bl k ∧ if k = true then wE F b p1 Q X else Q (.bl false) p1) X
  | .or a b, p, Q, X => wE F a p (fun x p1 => ∃ k, x = .bl k ∧ if k = true then Q (.bl true) p1 else wE F b p1 Q X) X
  | .not a, p, Q, X => wE F a p (fun x p1 => ∃ k, x = .bl k ∧ Q (.bl (!k)) p1) X
  | .ite c a b, p, Q, X => wE F c p (fun x p1 => ∃ k, x = .bl k ∧ if k = true then wE F a p1 Q X else wE F b p1 Q X) X
  | .tup es, p, Q, X => wL F es p (fun xs p1 => szOk xs.length ∧ Q (.tup xs) p1) X
  | .lst m es, p, Q, X => wL F es p (fun xs p1 => mkL m xs p1 Q) X
  | .ix a b, p, Q, X => wE F a p (fun x p1 => wE F b p1 (fun y p2 => ixV x y p2 Q) X) X
  | .slc m a lo hi, p, Q, X => wE F a p (fun x p1 => partW (isNonE lo) (wE F lo) p1 (fun l p2 => partW (isNonE hi) (wE F hi) p2 (fun h p3 => slcV m x l h p3 Q) X) X) X
  | .call f es, p, Q, X => wL F es p (fun xs p1 => F f xs p1.st (fun v st => Q v { p1 with st := st }) (fun x st => X x { p1 with st := st })) X
  | .blt f m es, p, Q, X => wL F es p (fun xs p1 => bltV f m xs p1 Q) X
  | .isi a ns _, p, Q, X => wE F a p (fun x p1 => isiV x ns p1 fun k => Q (.bl k) p1) X
  | .meth f a es, p, Q, X => wE F a p (fun x p1 => mthPre f x p1 ∧ wL F es p1 (fun xs p2 => methV f x xs p2 Q) X) X
  | .lc m own tg it c e, p, Q, X => wI F it p (fun xs stay p1 =>
      lcLoop (fun x p2 R => wT tg x p2 fun p3 => wE F c p3 (fun k p4 => ∃ b, k = .bl b ∧ if b = true then wE F e p4 (fun y p5 => R (some y) { p5 with env := wipeP p1.env (own.map (·.2)) }) noX else R none { p4 with env := wipeP p1.env (own.map (·.2)) }) noX)
        stay xs [] { p1 with env := wipeP p1.env (own.map (·.2)) } fun ys p6 => mkL m ys { p6 with env := p1.env } Q) X
  | .lc2 m own vs1 tg it tg1 it1 c e, p, Q, X => wI F it p (fun xs stay p1 =>
      lcOut (fun x acc p2 R => wT tg x p2 fun p3 => wI F it1 p3 (fun ys stay1 p4 =>
          lcLoop (fun y p5 R1 => wT tg1 y p5 fun p6 => wE F c p6 (fun k p7 => ∃ b, k = .bl b ∧ if b = true then wE F e p7 (fun z p8 => R1 (some z) { p8 with env := wipeP p4.env vs1 }) noX else R1 none { p7 with env := wipeP p4.env vs1 }) noX)
            stay1 ys acc { p4 with env := wipeP p4.env vs1 } fun acc' p9 => R acc' { p9 with env := wipeP p1.env (own.map (·.2)) }) noX)
        stay xs [] { p1 with env := wipeP p1.env (own.map (·.2)) } fun ys p6 => mkL m ys { p6 with env := p1.env } Q) X
  | .seq _, _, _, _ => False
  | .seqd _, _, _, _ => False
  | .rng1 _, _, _, _ => False
  | .rng2 _ _, _, _, _ => False
  | .enum _, _, _, _ => False
  | .zip _ _, _, _, _ => False
  | .nil, _, _, _ => False
  | .cons _ _, _, _, _ => False
/-- a list of expressions -/
def wL (F : FT) : E → PSt → (List PV → PSt → Prop) → QX → Prop
  | .nil, p, Q, _ => Q [] p
  | .cons a es, p, Q, X => wE F a p (fun x p1 => wL F es p1 (fun xs p2 => Q (x :: xs) p2) X) X
  | _, _, _, _ => False
/-- what is walked -/
def wI (F : FT) : E → PSt → (List PV → (PSt → Prop) → PSt → Prop) → QX → Prop
  | .seq e, p, Q, X => wE F e p (fun x p1 => src1 p1 x fun xs st => Q xs st p1) X
  | .seqd e, p, Q, X => wE F e p (fun x p1 => ∃ n es g, x = .ref n ∧ p1.st[n]? = some (.dct es g) ∧ Q (es.map (·.1)) (fun p => p.st[n]? = some (.dct es g)) p1) X
  | .rng1 e, p, Q, X => wE F e p (fun x p1 => ∃ n, x = .int n ∧ rngOk 0 n ∧ Q (rngL 0 n.toNat) (fun _ => True) p1) X
  | .rng2 a b, p, Q, X => wE F a p (fun x p1 => wE F b p1 (fun y p2 => ∃ lo hi, x = .int lo ∧ y = .int hi ∧ rngOk lo hi ∧ Q (rngL lo (hi - lo).toNat) (fun _ => True) p2) X) X
  | .enum e, p, Q, X => wE F e p (fun x p1 => src1 p1 x fun xs st => Q (enumL 0 xs) st p1) X
  | .zip a b, p, Q, X => wE F a p (fun x p1 => wE F b p1 (fun y p2 => isTup x = isTup y ∧ src1 p2 x fun xs st => src1 p2 y fun ys st' => Q (zipL xs ys) (fun p => st p ∧ st' p) p2) X) X
  | _, _, _, _ => False
end

/-- an in-place operator -/
def augV (op : Operator) (x y : PV) (p : PSt) (Q : QV) : Prop :=
  match x, y with
  | .int i, .int j => (op = .Add ∧ Q (.int (i + j)) p) ∨ (op = .Sub ∧ Q (.int (i - j)) p)
  | .str a, .str b => op = .Add ∧ szOk (a.length + b.length) ∧ Q (.str (a ++ b)) p
  | _, _ => False

/-- a statement -/
def wS (F : FT) : S → PSt → Post → Prop
  | .nop, p, D => D.nx p
  | .seq a b, p, D => wS F a p { D with nx := fun p' => wS F b p' D }
  | .expr e, p, D => wE F e p (fun _ p1 => D.nx p1) D.ex
  | .ret e, p, D => wE F e p D.rt D.ex
  | .retN, p, D => D.rt .non p
  | .asg t e, p, D => wE F e p (fun x p1 => wT t x p1 D.nx) D.ex
  | .par i j a b, p, D => wE F a p (fun x p1 => wE F b p1 (fun y p2 => i < p2.env.length ∧ j < p2.env.length ∧ D.nx { p2 with env := (p2.env.set i (some x)).set j (some y) }) D.ex) D.ex
  | .setix o i e, p, D => wE F e p (fun v p1 => wE F o p1 (fun x p2 => wE F i p2 (fun y p3 =>
      ∃ n xs k j, x = .ref n ∧ y = .int k ∧ p3.st[n]? = some (.lst xs) ∧ ixN xs.length k = some j ∧ D.nx { p3 with st := p3.st.set n (.lst (xs.set j v)) }) D.ex) D.ex) D.ex
  | .setd o i e, p, D => wE F e p (fun v p1 => wE F o p1 (fun x p2 => wE F i p2 (fun y p3 =>
      dKey p3 x y fun n es k => es.length < 16777216 ∧ ∀ g, D.nx { p3 with st := p3.st.set n (.dct (putK es y k v) g) }) D.ex) D.ex) D.ex
  | .setat o f cs e, p, D => wE F e p (fun v p1 => wE F o p1 (fun x p2 => ∃ n c fs, x = .ref n ∧ p2.st[n]? = some (.ins c fs) ∧ c ∈ cs ∧ fs.length < 1000 ∧ D.nx { p2 with st := p2.st.set n (.ins c (putP f v fs)) }) D.ex) D.ex
  | .par3 i j l a b c, p, D => wE F a p (fun x p1 => wE F b p1 (fun y p2 => wE F c p2 (fun z p3 => i < p3.env.length ∧ j < p3.env.length ∧ l < p3.env.length ∧ D.nx { p3 with env := ((p3.env.set i (some x)).set j (some y)).set l (some z) }) D.ex) D.ex) D.ex
  | .aug i op e, p, D => ∃ x, p.env[i]? = some (some x) ∧ wE F e p (fun y p1 => augV op x y p1 fun z p2 => D.nx { p2 with env := p2.env.set i (some z) }) D.ex
  | .ite c a b, p, D => wE F c p (fun x p1 => ∃ k, x = .bl k ∧ if k = true then wS F a p1 D else wS F b p1 D) D.ex
  | .for t it b, p, D => wI F it p (fun xs stay p1 => forLoop (fun x p2 D' => wT t x p2 fun p3 => wS F b p3 D') stay xs p1 D) D.ex
  | .while c b, p, D => ∃ W : Nat → PSt → Prop, (∃ m, W m p) ∧ ∀ m p, W m p →
      wE F c p (fun x p1 => ∃ k, x = .bl k ∧ if k = true then wS F b p1 { nx := fun p' => ∃ m', m' < m ∧ W m' p', ct := fun p' => ∃ m', m' < m ∧ W m' p', bk := D.nx, rt := D.rt, ex := D.ex } else D.nx p1) D.ex
  | .brk, p, D => D.bk p
  | .cnt, p, D => D.ct p
  | .stuck, _, _ => False

/-- a def: how many parameters, how many names, the body -/
structure Fn where
  np : Nat
  n : Nat
  body : S
  deriving Inhabited

/-- how a value comes out of a def: as it is, or a new list frozen -/
def Out (S' : Store) (v v' : PV) : Prop := (Pure v ∧ v' = v) ∨ ∃ i xs, v = .ref i ∧ S'[i]? = some (.lst xs) ∧ (∀ x ∈ xs, Pure x) ∧ v' = .lst xs
/-- behind a def: all as it is, or what it made is forgotten -/
def Clean (S S' : Store) (v : PV) (Q : PV → Store → Prop) : Prop :=
  Q v S' ∨ ∃ S'' ext v', S' = S'' ++ ext ∧ S''.length = S.length ∧ (∀ (i : Nat) o, S''[i]? = some o → S[i]? = some o ∨ PureO o) ∧ (∀ i, v = .ref i → S.length ≤ i) ∧ Out S' v v' ∧ Q v' S''
def CleanX (S S' : Store) (x : PX) (Q : PX → Store → Prop) : Prop :=
  Q x S' ∨ ∃ S'' ext, S' = S'' ++ ext ∧ S''.length = S.length ∧ (∀ (i : Nat) o, S''[i]? = some o → S[i]? = some o ∨ PureO o) ∧ (∀ p ∈ x.fs, Pure p.2) ∧ Q x S''

/-- a def of the table, at a depth -/
def wF (tbl : List Fn) : Nat → FT
  | 0, _, _, _, _, _ => False
  | d + 1, f, xs, st, Q, X => ∃ fn, tbl[f]? = some fn ∧ xs.length = fn.np ∧ fn.np ≤ fn.n ∧
      wS (wF tbl d) fn.body ⟨xs.map some ++ List.replicate (fn.n - xs.length) none, st⟩
        { nx := fun p => Clean st p.st .non Q, rt := fun v p => Clean st p.st v Q, ex := fun x p => CleanX st p.st x X }
end Den

/-! D0m: the transformers are monotone. -/
namespace Den
open PySem (Str PyData CmpOp Operator)
variable {p : PSt}
theorem listOf_mono {x : PV} {Q Q' : List PV → Prop} (h : ∀ a, Q a → Q' a) : listOf p x Q → listOf p x Q' := by
  cases x <;> simp only [listOf] <;> first | exact fun z => z | exact h _ | exact fun ⟨xs, a, b⟩ => ⟨xs, a, h _ b⟩
theorem itemsOf_mono {x : PV} {Q Q' : List PV → Prop} (h : ∀ a, Q a → Q' a) : itemsOf p x Q → itemsOf p x Q' := by
  cases x <;> simp only [itemsOf] <;> first | exact fun z => z | exact h _ | exact fun ⟨xs, a, b⟩ => ⟨xs, a, h _ b⟩
theorem mkL_mono {m : Bool} {xs : List PV} {Q Q' : QV} (h : ∀ v q, Q v q → Q' v q) : mkL m xs p Q → mkL m xs p Q' := by
  cases m <;> exact fun z => ⟨z.1, h _ _ z.2⟩
theorem binI_mono {op : Operator} {i j : Int} {Q Q' : Int → Prop} (h : ∀ v, Q v → Q' v) : binI op i j Q → binI op i j Q' := by
  cases op <;> simp only [binI] <;> first | exact fun z => z | exact h _ | exact fun z => ⟨z.1, h _ z.2⟩
theorem binV_mono {op : Operator} {m : Bool} {x y : PV} {Q Q' : QV} (h : ∀ v q, Q v q → Q' v q) : binV op m x y p Q → binV op m x y p Q' := by
  unfold binV
  split
  · exact binI_mono fun v => h _ _
  · exact fun z => ⟨z.1, z.2.1, h _ _ z.2.2⟩
  · exact fun z => ⟨z.1, z.2.1, h _ _ z.2.2⟩
  · exact fun z => ⟨z.1, h _ _ z.2⟩
  · exact fun z => ⟨z.1, listOf_mono (fun a => listOf_mono fun b => mkL_mono h) z.2⟩
theorem cmpI_mono {op : CmpOp} {i j : Int} {Q Q' : Bool → Prop} (h : ∀ v, Q v → Q' v) : cmpI op i j Q → cmpI op i j Q' := by
  cases op <;> simp only [cmpI] <;> first | exact fun z => z | exact h _
theorem cmpV_mono {op : CmpOp} {x y : PV} {Q Q' : Bool → Prop} (h : ∀ v, Q v → Q' v) : cmpV op x y p Q → cmpV op x y p Q' := by
  unfold cmpV
  split
  · exact fun z => z.imp (fun z => ⟨z.1, h _ z.2⟩) fun ⟨a, b, z1, z2, z⟩ => ⟨a, b, z1, z2, h _ z⟩
  · exact fun z => z.imp (fun z => ⟨z.1, h _ z.2⟩) fun ⟨a, b, z1, z2, z⟩ => ⟨a, b, z1, z2, h _ z⟩
  · exact itemsOf_mono fun a z => ⟨z.1, z.2.1, h _ z.2.2⟩
  · exact itemsOf_mono fun a z => ⟨z.1, z.2.1, h _ z.2.2⟩
  · split
    · exact h _
    · exact fun z => ⟨z.1, z.2.1, h _ z.2.2⟩
  · split
    · exact h _
    · exact fun z => ⟨z.1, z.2.1, h _ z.2.2⟩
  · split
    · exact cmpI_mono h
    · exact fun z => z
theorem ixV_mono {x y : PV} {Q Q' : QV} (h : ∀ v q, Q v q → Q' v q) : ixV x y p Q → ixV x y p Q' := by
  cases y <;> simp only [ixV] <;> first | exact fun z => z | exact itemsOf_mono fun a ⟨k, v, z1, z2, z3⟩ => ⟨k, v, z1, z2, h _ _ z3⟩
theorem slcV_mono {m : Bool} {x : PV} {lo hi : Option Int} {Q Q' : QV} (h : ∀ v q, Q v q → Q' v q) : slcV m x lo hi p Q → slcV m x lo hi p Q' := by
  unfold slcV
  split
  · exact h _ _
  · exact mkL_mono h
  · exact listOf_mono fun a => mkL_mono h
theorem isiV_mono {x : PV} {ns : List (Str × String)} {Q Q' : Bool → Prop} (h : ∀ v, Q v → Q' v) : isiV x ns p Q → isiV x ns p Q' := fun ⟨a, b, c, d⟩ => ⟨a, b, c, h _ d⟩
theorem bltV_mono {f : Blt} {m : Bool} {xs : List PV} {Q Q' : QV} (h : ∀ v q, Q v q → Q' v q) : bltV f m xs p Q → bltV f m xs p Q' := by
  unfold bltV
  split <;> first
    | exact fun z => z
    | exact h _ _
    | exact fun z => ⟨z.1, h _ _ z.2⟩
    | exact listOf_mono fun a => h _ _
    | exact listOf_mono fun a ⟨bs, z1, z2⟩ => ⟨bs, z1, h _ _ z2⟩
    | exact itemsOf_mono fun a => mkL_mono h
    | exact itemsOf_mono fun a ⟨bs, z1, z2⟩ => ⟨bs, z1, h _ _ z2⟩
    | exact listOf_mono fun a ⟨bs, z1, z2, z3⟩ => ⟨bs, z1, z2, fun m hm hy => h _ _ (z3 m hm hy)⟩
    | exact fun ⟨i, j, is, js, z1, z2, z3⟩ => ⟨i, j, is, js, z1, z2, h _ _ z3⟩
theorem methV_mono {f : Mth} {x : PV} {xs : List PV} {Q Q' : QV} (h : ∀ v q, Q v q → Q' v q) : methV f x xs p Q → methV f x xs p Q' := by
  unfold methV
  split <;> first
    | exact fun z => z
    | exact listOf_mono fun a ⟨bs, z1, z2⟩ => ⟨bs, z1, h _ _ z2⟩
    | exact fun ⟨n, ys, z1, z2, z3, z4⟩ => ⟨n, ys, z1, z2, z3, h _ _ z4⟩
    | exact fun ⟨n, ys, j, v, z1, z2, z3, z4, z5⟩ => ⟨n, ys, j, v, z1, z2, z3, z4, h _ _ z5⟩
theorem augV_mono {op : Operator} {x y : PV} {Q Q' : QV} (h : ∀ v q, Q v q → Q' v q) : augV op x y p Q → augV op x y p Q' := by
  unfold augV
  split <;> first
    | exact fun z => z
    | exact fun z => z.imp (fun z => ⟨z.1, h _ _ z.2⟩) (fun z => ⟨z.1, h _ _ z.2⟩)
    | exact fun z => ⟨z.1, z.2.1, h _ _ z.2.2⟩
mutual
theorem wT_mono : ∀ (t : T) {x : PV} {p : PSt} {Q Q' : PSt → Prop}, (∀ q, Q q → Q' q) → wT t x p Q → wT t x p Q'
  | .name i, x, p, Q, Q', h, z => by simp only [wT] at z ⊢; exact ⟨z.1, h _ z.2⟩
  | .tup ts, x, p, Q, Q', h, z => by
    simp only [wT] at z ⊢
    obtain ⟨xs, e, z⟩ := z
    exact ⟨xs, e, wTs_mono ts h z⟩
  | .nil, x, p, Q, Q', h, z => by simp only [wT] at z
  | .cons _ _, x, p, Q, Q', h, z => by simp only [wT] at z
theorem wTs_mono : ∀ (t : T) {xs : List PV} {p : PSt} {Q Q' : PSt → Prop}, (∀ q, Q q → Q' q) → wTs t xs p Q → wTs t xs p Q'
  | .nil, x, p, Q, Q', h, z => by simp only [wTs] at z ⊢; exact ⟨z.1, h _ z.2⟩
  | .cons t ts, x, p, Q, Q', h, z => by
    simp only [wTs] at z ⊢
    obtain ⟨y, r, e, z⟩ := z
    exact ⟨y, r, e, wT_mono t (fun q => wTs_mono ts h) z⟩
  | .name _, x, p, Q, Q', h, z => by simp only [wTs] at z
  | .tup _, x, p, Q, Q', h, z => by simp only [wTs] at z
end
theorem lcLoop_mono {turn : PV → PSt → (Option PV → PSt → Prop) → Prop} {stay : PSt → Prop} {Q Q' : List PV → PSt → Prop} (ht : ∀ x p R R', (∀ y q, R y q → R' y q) → turn x p R → turn x p R') (h : ∀ a q, Q a q → Q' a q) :
    ∀ (xs acc : List PV) (p : PSt), lcLoop turn stay xs acc p Q → lcLoop turn stay xs acc p Q'
  | [], acc, p, z => ⟨z.1, h _ _ z.2⟩
  | x :: xs, acc, p, z => ⟨z.1, ht _ _ _ _ (fun y q w => by
      cases y with
      | none => exact lcLoop_mono ht h xs acc q w
      | some y => exact ⟨w.1, lcLoop_mono ht h xs (acc ++ [y]) q w.2⟩) z.2⟩
theorem lcOut_mono {turn : PV → List PV → PSt → (List PV → PSt → Prop) → Prop} {stay : PSt → Prop} {Q Q' : List PV → PSt → Prop} (ht : ∀ x acc p R R', (∀ y q, R y q → R' y q) → turn x acc p R → turn x acc p R') (h : ∀ a q, Q a q → Q' a q) :
    ∀ (xs acc : List PV) (p : PSt), lcOut turn stay xs acc p Q → lcOut turn stay xs acc p Q'
  | [], acc, p, z => ⟨z.1, h _ _ z.2⟩
  | x :: xs, acc, p, z => ⟨z.1, ht _ _ _ _ _ (fun y q w => lcOut_mono ht h xs y q w) z.2⟩
/-- what is known grows -/
structure PLe (P D : Post) : Prop where
  nx : ∀ p, P.nx p → D.nx p
  rt : ∀ v p, P.rt v p → D.rt v p
  bk : ∀ p, P.bk p → D.bk p
  cn : ∀ p, P.ct p → D.ct p
  ex : ∀ x p, P.ex x p → D.ex x p
theorem forLoop_mono {turn : PV → PSt → Post → Prop} {stay : PSt → Prop} {P D : Post} (ht : ∀ x p P D, PLe P D → turn x p P → turn x p D) (h : PLe P D) : ∀ (xs : List PV) (p : PSt), forLoop turn stay xs p P → forLoop turn stay xs p D
  | [], p, z => ⟨z.1, h.nx _ z.2⟩
  | x :: xs, p, z => by
    refine ⟨z.1, ht x p _ _ ?_ z.2⟩
    exact ⟨fun q w => forLoop_mono ht h xs q w, h.rt, h.nx, fun q w => forLoop_mono ht h xs q w, h.ex⟩
def FMono (F : FT) : Prop := ∀ i xs st Q Q' X X', (∀ v s, Q v s → Q' v s) → (∀ x s, X x s → X' x s) → F i xs st Q X → F i xs st Q' X'
theorem part_mono {b : Bool} {w : PSt → QV → QX → Prop} {p : PSt} {Q Q' : Option Int → PSt → Prop} {X X' : QX} (hw : ∀ p Q Q' X X', (∀ v q, Q v q → Q' v q) → (∀ x q, X x q → X' x q) → w p Q X → w p Q' X') (h : ∀ v q, Q v q → Q' v q) (hx : ∀ x q, X x q → X' x q) :
    partW b w p Q X → partW b w p Q' X' := by
  cases b with
  | true => exact h _ _
  | false => exact hw _ _ _ _ _ (fun v q ⟨i, e, z⟩ => ⟨i, e, h _ _ z⟩) hx
theorem src1_mono {x : PV} {Q Q' : List PV → (PSt → Prop) → Prop} (h : ∀ a b, Q a b → Q' a b) : src1 p x Q → src1 p x Q' := itemsOf_mono fun a => h _ _
theorem dKey_mono {x y : PV} {R R' : Nat → List (PV × PV) → NK → Prop} (h : ∀ n es k, R n es k → R' n es k) : dKey p x y R → dKey p x y R' := fun ⟨n, es, g, k, z1, z2, z3, z4, z5, z6⟩ => ⟨n, es, g, k, z1, z2, z3, z4, z5, h _ _ _ z6⟩
theorem dSet_mono {y z : PV} {n : Nat} {es : List (PV × PV)} {k : NK} {Q Q' : QV} (h : ∀ v q, Q v q → Q' v q) : dSet p y z n es k Q → dSet p y z n es k Q' := by
  unfold dSet
  split
  · exact h _ _
  · exact fun z => ⟨z.1, fun g => h _ _ (z.2 g)⟩
theorem rngV_mono {t m : Bool} {lo hi : Int} {Q Q' : QV} (h : ∀ v q, Q v q → Q' v q) : rngV t m lo hi p Q → rngV t m lo hi p Q' := by
  intro z
  refine ⟨z.1, z.2.1, ?_⟩
  have z := z.2.2
  cases t with
  | true => exact h _ _ z
  | false => exact mkL_mono h z
structure EM (F : FT) (t : E) : Prop where
  e : ∀ p Q Q' X X', (∀ v q, Q v q → Q' v q) → (∀ x q, X x q → X' x q) → wE F t p Q X → wE F t p Q' X'
  l : ∀ p Q Q' X X', (∀ v q, Q v q → Q' v q) → (∀ x q, X x q → X' x q) → wL F t p Q X → wL F t p Q' X'
  i : ∀ p Q Q' X X', (∀ v s q, Q v s q → Q' v s q) → (∀ x q, X x q → X' x q) → wI F t p Q X → wI F t p Q' X'
theorem if_mono {k : Bool} {a b a' b' : Prop} (h : a → a') (h' : b → b') : (if k = true then a else b) → (if k = true then a' else b') := by
  cases k with
  | true => exact h
  | false => exact h'
theorem em_all {F : FT} (hF : FMono F) (e : E) : EM F e := by
  have noL : ∀ {e : E}, (∀ p Q X, wL F e p Q X = False) → ∀ p (Q Q' : List PV → PSt → Prop) X X', (∀ v q, Q v q → Q' v q) → (∀ x q, X x q → X' x q) → wL F e p Q X → wL F e p Q' X' := fun h p Q Q' X X' _ _ z => by rw [h] at z; exact z.elim
  have noI : ∀ {e : E}, (∀ p Q X, wI F e p Q X = False) → ∀ p (Q Q' : List PV → (PSt → Prop) → PSt → Prop) X X', (∀ v s q, Q v s q → Q' v s q) → (∀ x q, X x q → X' x q) → wI F e p Q X → wI F e p Q' X' := fun h p Q Q' X X' _ _ z => by rw [h] at z; exact z.elim
  have noE : ∀ {e : E}, (∀ p Q X, wE F e p Q X = False) → ∀ p (Q Q' : QV) X X', (∀ v q, Q v q → Q' v q) → (∀ x q, X x q → X' x q) → wE F e p Q X → wE F e p Q' X' := fun h p Q Q' X X' _ _ z => by rw [h] at z; exact z.elim
  induction e with
  | var i => exact ⟨fun p Q Q' X X' h hx z => by simp only [wE] at z ⊢; obtain ⟨v, a, b⟩ := z; exact ⟨v, a, h _ _ b⟩, noL (by simp [wL]), noI (by simp [wI])⟩
  | int i => exact ⟨fun p Q Q' X X' h hx z => by simp only [wE] at z ⊢; exact h _ _ z, noL (by simp [wL]), noI (by simp [wI])⟩
  | bl i => exact ⟨fun p Q Q' X X' h hx z => by simp only [wE] at z ⊢; exact h _ _ z, noL (by simp [wL]), noI (by simp [wI])⟩
  | non => exact ⟨fun p Q Q' X X' h hx z => by simp only [wE] at z ⊢; exact h _ _ z, noL (by simp [wL]), noI (by simp [wI])⟩
  | str i => exact ⟨fun p Q Q' X X' h hx z => by simp only [wE] at z ⊢; exact h _ _ z, noL (by simp [wL]), noI (by simp [wI])⟩
  | gint i j => exact ⟨fun p Q Q' X X' h hx z => by simp only [wE] at z ⊢; exact h _ _ z, noL (by simp [wL]), noI (by simp [wI])⟩
  | never => exact ⟨fun p Q Q' X X' h hx z => by simp only [wE] at z, noL (by simp [wL]), noI (by simp [wI])⟩
  | trg1 t m a ha => exact ⟨fun p Q Q' X X' h hx z => by
      simp only [wE] at z ⊢
      exact ha.e _ _ _ _ _ (fun x q ⟨n, z1, z2⟩ => ⟨n, z1, rngV_mono h z2⟩) hx z, noL (by simp [wL]), noI (by simp [wI])⟩
  | trg2 t m a b ha hb => exact ⟨fun p Q Q' X X' h hx z => by
      simp only [wE] at z ⊢
      exact ha.e _ _ _ _ _ (fun x q => hb.e _ _ _ _ _ (fun y q ⟨n, k, z1, z2, z3⟩ => ⟨n, k, z1, z2, rngV_mono h z3⟩) hx) hx z, noL (by simp [wL]), noI (by simp [wI])⟩
  | dnew => exact ⟨fun p Q Q' X X' h hx z => by simp only [wE] at z ⊢; exact fun g => h _ _ (z g), noL (by simp [wL]), noI (by simp [wI])⟩
  | ixd a b ha hb => exact ⟨fun p Q Q' X X' h hx z => by
      simp only [wE] at z ⊢
      exact ha.e _ _ _ _ _ (fun x q => hb.e _ _ _ _ _ (fun y q => dKey_mono fun n es k ⟨v, z1, z2⟩ => ⟨v, z1, h _ _ z2⟩) hx) hx z, noL (by simp [wL]), noI (by simp [wI])⟩
  | ind n a b ha hb => exact ⟨fun p Q Q' X X' h hx z => by
      simp only [wE] at z ⊢
      exact ha.e _ _ _ _ _ (fun x q => hb.e _ _ _ _ _ (fun y q => dKey_mono fun n es k => h _ _) hx) hx z, noL (by simp [wL]), noI (by simp [wI])⟩
  | dget a b d ha hb hd => exact ⟨fun p Q Q' X X' h hx z => by
      simp only [wE] at z ⊢
      exact ha.e _ _ _ _ _ (fun x q z => ⟨z.1, hb.e _ _ _ _ _ (fun y q => hd.e _ _ _ _ _ (fun t q => dKey_mono fun n es k => h _ _) hx) hx z.2⟩) hx z, noL (by simp [wL]), noI (by simp [wI])⟩
  | dset a b d ha hb hd => exact ⟨fun p Q Q' X X' h hx z => by
      simp only [wE] at z ⊢
      exact ha.e _ _ _ _ _ (fun x q z => ⟨z.1, hb.e _ _ _ _ _ (fun y q => hd.e _ _ _ _ _ (fun t q => dKey_mono fun n es k => dSet_mono h) hx) hx z.2⟩) hx z, noL (by simp [wL]), noI (by simp [wI])⟩
  | attr a f cs ha => exact ⟨fun p Q Q' X X' h hx z => by
      simp only [wE] at z ⊢
      exact ha.e _ _ _ _ _ (fun x q ⟨n, c, fs, v, z1, z2, z3, z4, z5⟩ => ⟨n, c, fs, v, z1, z2, z3, z4, h _ _ z5⟩) hx z, noL (by simp [wL]), noI (by simp [wI])⟩
  | mcall a m c i es ha he => exact ⟨fun p Q Q' X X' h hx z => by
      simp only [wE] at z ⊢
      exact ha.e _ _ _ _ _ (fun x q ⟨n, fs, z1, z2, z3, z4⟩ => ⟨n, fs, z1, z2, z3, he.l _ _ _ _ _ (fun xs q2 z => hF _ _ _ _ _ _ _ (fun v s => h _ _) (fun v s w => w) z) hx z4⟩) hx z, noL (by simp [wL]), noI (by simp [wI])⟩
  | new c i es he => exact ⟨fun p Q Q' X X' h hx z => by
      simp only [wE] at z ⊢
      exact he.l _ _ _ _ _ (fun xs q2 z => hF _ _ _ _ _ _ _ (fun v s w => ⟨w.1, h _ _ w.2⟩) (fun v s w => w) z) hx z, noL (by simp [wL]), noI (by simp [wI])⟩
  | isc a c ha => exact ⟨fun p Q Q' X X' h hx z => by
      simp only [wE] at z ⊢
      exact ha.e _ _ _ _ _ (fun x q ⟨n, fs, z1, z2, z3⟩ => ⟨n, fs, z1, z2, h _ _ z3⟩) hx z, noL (by simp [wL]), noI (by simp [wI])⟩
  | dct0 => exact ⟨fun p Q Q' X X' h hx z => by simp only [wE] at z ⊢; exact h _ _ z, noL (by simp [wL]), noI (by simp [wI])⟩
  | dct1 k i => exact ⟨fun p Q Q' X X' h hx z => by simp only [wE] at z ⊢; obtain ⟨v, a, b⟩ := z; exact ⟨v, a, h _ _ b⟩, noL (by simp [wL]), noI (by simp [wI])⟩
  | gstr i j => exact ⟨fun p Q Q' X X' h hx z => by simp only [wE] at z ⊢; exact h _ _ z, noL (by simp [wL]), noI (by simp [wI])⟩
  | gty i j => exact ⟨fun p Q Q' X X' h hx z => by simp only [wE] at z ⊢; exact h _ _ z, noL (by simp [wL]), noI (by simp [wI])⟩
  | bin op m a b ha hb => exact ⟨fun p Q Q' X X' h hx z => by
      simp only [wE] at z ⊢
      exact ha.e _ _ _ _ _ (fun v q => hb.e _ _ _ _ _ (fun u q => binV_mono h) hx) hx z, noL (by simp [wL]), noI (by simp [wI])⟩
  | neg a ha => exact ⟨fun p Q Q' X X' h hx z => by
      simp only [wE] at z ⊢
      exact ha.e _ _ _ _ _ (fun v q ⟨i, e, z⟩ => ⟨i, e, h _ _ z⟩) hx z, noL (by simp [wL]), noI (by simp [wI])⟩
  | cmp op a b ha hb => exact ⟨fun p Q Q' X X' h hx z => by
      simp only [wE] at z ⊢
      exact ha.e _ _ _ _ _ (fun v q => hb.e _ _ _ _ _ (fun u q => cmpV_mono fun k => h _ _) hx) hx z, noL (by simp [wL]), noI (by simp [wI])⟩
  | chain op op2 a b c ha hb hc => exact ⟨fun p Q Q' X X' h hx z => by
      simp only [wE] at z ⊢
      exact ha.e _ _ _ _ _ (fun v q => hb.e _ _ _ _ _ (fun u q => cmpV_mono fun k => if_mono (hc.e _ _ _ _ _ (fun t q => cmpV_mono fun k => h _ _) hx) (h _ _)) hx) hx z, noL (by simp [wL]), noI (by simp [wI])⟩
  | and a b ha hb => exact ⟨fun p Q Q' X X' h hx z => by
      simp only [wE] at z ⊢
      exact ha.e _ _ _ _ _ (fun v q ⟨k, e, z⟩ => ⟨k, e, if_mono (hb.e _ _ _ _ _ h hx) (h _ _) z⟩) hx z, noL (by simp [wL]), noI (by simp [wI])⟩
  | or a b ha hb => exact ⟨fun p Q Q' X X' h hx z => by
      simp only [wE] at z ⊢
      exact ha.e _ _ _ _ _ (fun v q ⟨k, e, z⟩ => ⟨k, e, if_mono (h _ _) (hb.e _ _ _ _ _ h hx) z⟩) hx z, noL (by simp [wL]), noI (by simp [wI])⟩
  | not a ha => exact ⟨fun p Q Q' X X' h hx z => by
      simp only [wE] at z ⊢
      exact ha.e _ _ _ _ _ (fun v q ⟨k, e, z⟩ => ⟨k, e, h _ _ z⟩) hx z, noL (by simp [wL]), noI (by simp [wI])⟩
  | ite c a b hc ha hb => exact ⟨fun p Q Q' X X' h hx z => by
      simp only [wE] at z ⊢
      exact hc.e _ _ _ _ _ (fun v q ⟨k, e, z⟩ => ⟨k, e, if_mono (ha.e _ _ _ _ _ h hx) (hb.e _ _ _ _ _ h hx) z⟩) hx z, noL (by simp [wL]), noI (by simp [wI])⟩
  | tup es he => exact ⟨fun p Q Q' X X' h hx z => by
      simp only [wE] at z ⊢
      exact he.l _ _ _ _ _ (fun v q z => ⟨z.1, h _ _ z.2⟩) hx z, noL (by simp [wL]), noI (by simp [wI])⟩
  | lst m es he => exact ⟨fun p Q Q' X X' h hx z => by
      simp only [wE] at z ⊢
      exact he.l _ _ _ _ _ (fun v q => mkL_mono h) hx z, noL (by simp [wL]), noI (by simp [wI])⟩
  | ix a b ha hb => exact ⟨fun p Q Q' X X' h hx z => by
      simp only [wE] at z ⊢
      exact ha.e _ _ _ _ _ (fun v q => hb.e _ _ _ _ _ (fun u q => ixV_mono h) hx) hx z, noL (by simp [wL]), noI (by simp [wI])⟩
  | slc m a lo hi ha hl hh => exact ⟨fun p Q Q' X X' h hx z => by
      simp only [wE] at z ⊢
      exact ha.e _ _ _ _ _ (fun v q => part_mono hl.e (fun u q => part_mono hh.e (fun t q => slcV_mono h) hx) hx) hx z, noL (by simp [wL]), noI (by simp [wI])⟩
  | call f es he => exact ⟨fun p Q Q' X X' h hx z => by
      simp only [wE] at z ⊢
      exact he.l _ _ _ _ _ (fun v q => hF _ _ _ _ _ _ _ (fun u s => h _ _) (fun u s => hx _ _)) hx z, noL (by simp [wL]), noI (by simp [wI])⟩
  | blt f m es he => exact ⟨fun p Q Q' X X' h hx z => by
      simp only [wE] at z ⊢
      exact he.l _ _ _ _ _ (fun v q => bltV_mono h) hx z, noL (by simp [wL]), noI (by simp [wI])⟩
  | isi a ns t ha => exact ⟨fun p Q Q' X X' h hx z => by
      simp only [wE] at z ⊢
      exact ha.e _ _ _ _ _ (fun v q => isiV_mono fun k => h _ _) hx z, noL (by simp [wL]), noI (by simp [wI])⟩
  | meth f a es ha he => exact ⟨fun p Q Q' X X' h hx z => by
      simp only [wE] at z ⊢
      exact ha.e _ _ _ _ _ (fun v q z => ⟨z.1, he.l _ _ _ _ _ (fun u q => methV_mono h) hx z.2⟩) hx z, noL (by simp [wL]), noI (by simp [wI])⟩
  | lc m own tg it c e hi hc he => exact ⟨fun p Q Q' X X' h hx z => by
      simp only [wE] at z ⊢
      refine hi.i _ _ _ _ _ (fun v s q => ?_) hx z
      refine lcLoop_mono (fun x p R R' hr => ?_) (fun a q => mkL_mono h) _ _ _
      refine wT_mono tg fun q => ?_
      refine hc.e _ _ _ _ _ (fun k q ⟨b, e, z⟩ => ⟨b, e, ?_⟩) fun _ _ z => z
      exact if_mono (he.e _ _ _ _ _ (fun y q => hr _ _) fun _ _ z => z) (hr _ _) z, noL (by simp [wL]), noI (by simp [wI])⟩
  | lc2 m own vs1 tg it tg1 it1 c e hi hi1 hc he => exact ⟨fun p Q Q' X X' h hx z => by
      simp only [wE] at z ⊢
      refine hi.i _ _ _ _ _ (fun v s q => ?_) hx z
      refine lcOut_mono (fun x acc p R R' hr => ?_) (fun a q => mkL_mono h) _ _ _
      refine wT_mono tg fun q => ?_
      refine hi1.i _ _ _ _ _ (fun v s q => ?_) fun _ _ z => z
      refine lcLoop_mono (fun x p R R' hr => ?_) (fun a q => hr _ _) _ _ _
      refine wT_mono tg1 fun q => ?_
      refine hc.e _ _ _ _ _ (fun k q ⟨b, e, z⟩ => ⟨b, e, ?_⟩) fun _ _ z => z
      exact if_mono (he.e _ _ _ _ _ (fun y q => hr _ _) fun _ _ z => z) (hr _ _) z, noL (by simp [wL]), noI (by simp [wI])⟩
  | seq e he => exact ⟨noE (by simp [wE]), noL (by simp [wL]), fun p Q Q' X X' h hx z => by
      simp only [wI] at z ⊢
      exact he.e _ _ _ _ _ (fun v q => src1_mono fun a b => h _ _ _) hx z⟩
  | seqd e he => exact ⟨noE (by simp [wE]), noL (by simp [wL]), fun p Q Q' X X' h hx z => by
      simp only [wI] at z ⊢
      exact he.e _ _ _ _ _ (fun v q ⟨n, es, g, z1, z2, z3⟩ => ⟨n, es, g, z1, z2, h _ _ _ z3⟩) hx z⟩
  | rng1 e he => exact ⟨noE (by simp [wE]), noL (by simp [wL]), fun p Q Q' X X' h hx z => by
      simp only [wI] at z ⊢
      exact he.e _ _ _ _ _ (fun v q ⟨n, e, a, z⟩ => ⟨n, e, a, h _ _ _ z⟩) hx z⟩
  | rng2 a b ha hb => exact ⟨noE (by simp [wE]), noL (by simp [wL]), fun p Q Q' X X' h hx z => by
      simp only [wI] at z ⊢
      exact ha.e _ _ _ _ _ (fun v q => hb.e _ _ _ _ _ (fun u q ⟨n, k, e, e', a, z⟩ => ⟨n, k, e, e', a, h _ _ _ z⟩) hx) hx z⟩
  | enum e he => exact ⟨noE (by simp [wE]), noL (by simp [wL]), fun p Q Q' X X' h hx z => by
      simp only [wI] at z ⊢
      exact he.e _ _ _ _ _ (fun v q => src1_mono fun a b => h _ _ _) hx z⟩
  | zip a b ha hb => exact ⟨noE (by simp [wE]), noL (by simp [wL]), fun p Q Q' X X' h hx z => by
      simp only [wI] at z ⊢
      exact ha.e _ _ _ _ _ (fun v q => hb.e _ _ _ _ _ (fun u q z => ⟨z.1, src1_mono (fun a b => src1_mono fun a b => h _ _ _) z.2⟩) hx) hx z⟩
  | nil => exact ⟨noE (by simp [wE]), fun p Q Q' X X' h hx z => by simp only [wL] at z ⊢; exact h _ _ z, noI (by simp [wI])⟩
  | cons a es ha he => exact ⟨noE (by simp [wE]), fun p Q Q' X X' h hx z => by
      simp only [wL] at z ⊢
      exact ha.e _ _ _ _ _ (fun v q => he.l _ _ _ _ _ (fun u q => h _ _) hx) hx z, noI (by simp [wI])⟩
theorem wS_mono {F : FT} (hF : FMono F) (s : S) : ∀ p P D, PLe P D → wS F s p P → wS F s p D := by
  have em := em_all hF
  induction s with
  | nop =>
    intro p P D h z
    simp only [wS] at z ⊢; exact h.nx _ z
  | seq a b ha hb =>
    intro p P D h z
    simp only [wS] at z ⊢
    refine ha _ _ _ ?_ z
    exact ⟨fun q => hb _ _ _ h, h.rt, h.bk, h.cn, h.ex⟩
  | expr e =>
    intro p P D h z
    simp only [wS] at z ⊢; exact (em e).e _ _ _ _ _ (fun v q => h.nx _) h.ex z
  | ret e =>
    intro p P D h z
    simp only [wS] at z ⊢; exact (em e).e _ _ _ _ _ h.rt h.ex z
  | retN =>
    intro p P D h z
    simp only [wS] at z ⊢; exact h.rt _ _ z
  | asg t e =>
    intro p P D h z
    simp only [wS] at z ⊢; exact (em e).e _ _ _ _ _ (fun v q => wT_mono t h.nx) h.ex z
  | par i j a b =>
    intro p P D h z
    simp only [wS] at z ⊢
    exact (em a).e _ _ _ _ _ (fun v q => (em b).e _ _ _ _ _ (fun u q z => ⟨z.1, z.2.1, h.nx _ z.2.2⟩) h.ex) h.ex z
  | setix o i e =>
    intro p P D h z
    simp only [wS] at z ⊢
    exact (em e).e _ _ _ _ _ (fun v q => (em o).e _ _ _ _ _ (fun u q => (em i).e _ _ _ _ _ (fun t q ⟨n, xs, k, j, z1, z2, z3, z4, z5⟩ => ⟨n, xs, k, j, z1, z2, z3, z4, h.nx _ z5⟩) h.ex) h.ex) h.ex z
  | setd o i e =>
    intro p P D h z
    simp only [wS] at z ⊢
    exact (em e).e _ _ _ _ _ (fun v q => (em o).e _ _ _ _ _ (fun u q => (em i).e _ _ _ _ _ (fun t q => dKey_mono fun n es k z => ⟨z.1, fun g => h.nx _ (z.2 g)⟩) h.ex) h.ex) h.ex z
  | setat o f cs e =>
    intro p P D h z
    simp only [wS] at z ⊢
    exact (em e).e _ _ _ _ _ (fun v q => (em o).e _ _ _ _ _ (fun u q ⟨n, c, fs, z1, z2, z3, z4, z5⟩ => ⟨n, c, fs, z1, z2, z3, z4, h.nx _ z5⟩) h.ex) h.ex z
  | par3 i j l a b c =>
    intro p P D h z
    simp only [wS] at z ⊢
    exact (em a).e _ _ _ _ _ (fun v q => (em b).e _ _ _ _ _ (fun u q => (em c).e _ _ _ _ _ (fun t q z => ⟨z.1, z.2.1, z.2.2.1, h.nx _ z.2.2.2⟩) h.ex) h.ex) h.ex z
  | aug i op e =>
    intro p P D h z
    simp only [wS] at z ⊢
    obtain ⟨x, e1, z⟩ := z
    exact ⟨x, e1, (em e).e _ _ _ _ _ (fun v q => augV_mono fun u q => h.nx _) h.ex z⟩
  | ite c a b ha hb =>
    intro p P D h z
    simp only [wS] at z ⊢
    exact (em c).e _ _ _ _ _ (fun v q ⟨k, e, z⟩ => ⟨k, e, if_mono (ha _ _ _ h) (hb _ _ _ h) z⟩) h.ex z
  | «for» t it b hb =>
    intro p P D h z
    simp only [wS] at z ⊢
    refine (em it).i _ _ _ _ _ (fun v s q => ?_) h.ex z
    refine forLoop_mono (fun x p P D h => ?_) h _ _
    exact wT_mono t fun q => hb _ _ _ h
  | «while» c b hb =>
    intro p P D h z
    simp only [wS] at z ⊢
    obtain ⟨W, w0, z⟩ := z
    refine ⟨W, w0, fun m p hw => (em c).e _ _ _ _ _ (fun v q ⟨k, e, z⟩ => ⟨k, e, if_mono (hb _ _ _ ?_) (h.nx _) z⟩) h.ex (z m p hw)⟩
    exact ⟨fun _ z => z, h.rt, h.nx, fun _ z => z, h.ex⟩
  | brk =>
    intro p P D h z
    simp only [wS] at z ⊢; exact h.bk _ z
  | cnt =>
    intro p P D h z
    simp only [wS] at z ⊢; exact h.cn _ z
  | stuck =>
    intro p P D h z
    simp only [wS] at z
theorem wF_mono (tbl : List Fn) : ∀ d, FMono (wF tbl d)
  | 0 => fun i xs st Q Q' X X' _ _ z => by simp only [wF] at z
  | d + 1 => fun i xs st Q Q' X X' h hx z => by
    obtain ⟨fn, e1, e2, e3, z⟩ := z
    have hc : ∀ {s v}, Clean st s v Q → Clean st s v Q' := fun z => z.imp (h _ _) fun ⟨S'', ext, v', a, b, c, d, e, f⟩ => ⟨S'', ext, v', a, b, c, d, e, h _ _ f⟩
    refine ⟨fn, e1, e2, e3, wS_mono (wF_mono tbl d) _ _ _ _ ?_ z⟩
    exact ⟨fun p => hc, fun v p => hc, fun _ z => z, fun _ z => z, fun x p z => z.imp (hx _ _) fun ⟨S'', ext, a, b, c, d, e⟩ => ⟨S'', ext, a, b, c, d, hx _ _ e⟩⟩
end Den

/-! D1a: pure values in the heap; what stays. -/
namespace Den
open PySem PySem.Spec PyProof.Rows L2

/-- the addresses of the store's objects; hd: lists that are being made, which no value knows -/
structure Phi where
  ad : List Addr
  hd : List Addr
/-- a is none of them -/
def Phi.off (ph : Phi) (a : Addr) : Prop := a ∉ ph.ad ∧ a ∉ ph.hd
def Phi.push (ph : Phi) (a : Addr) : Phi := ⟨ph.ad ++ [a], ph.hd⟩
def Phi.hide (ph : Phi) (a : Addr) : Phi := ⟨ph.ad, a :: ph.hd⟩
/-! ### a pure value stands in the heap; ph: the addresses of the store's objects -/
section
variable (K : PySem.W.Frag)
mutual
def RV (ph : Phi) (H : Hp) : PV → V → Prop
  | .non, v => v = .non
  | .bl b, v => v = .bl b
  | .int i, v => v = .int i
  | .str x, v => v = .str x
  | .ty n, v => v = .ty n
  | .tup xs, v => ∃ a vs, v = .ref a ∧ SqT K H a vs ∧ RVs ph H xs vs
  | .lst xs, v => ∃ a vs, v = .ref a ∧ H a = some (.lst vs) ∧ ph.off a ∧ RVs ph H xs vs
  | .lck xs, v => ∃ a vs, v = .ref a ∧ ((Rd H a (.lst vs) ∧ ph.off a) ∨ SqL K (fun _ => none) a vs) ∧ RVs ph H xs vs
  | .ref n, v => ∃ a, v = .ref a ∧ ph.ad[n]? = some a
  | .dct, v => ∃ a kvs, v = .ref a ∧ H a = some (.dK kvs) ∧ ph.off a
def RVs (ph : Phi) (H : Hp) : List PV → List V → Prop
  | [], vs => vs = []
  | x :: xs, vs => ∃ v r, vs = v :: r ∧ RV ph H x v ∧ RVs ph H xs r
end
end

/-- what a run leaves: new objects behind ph, all that is tracked but not of ph as it was -/
structure Ext (ph : Phi) (H : Hp) (ph' : Phi) (H' : Hp) : Prop where
  more : ∃ m, ph'.ad = ph.ad ++ m ∧ ∀ a ∈ m, H a = none
  hid : ∃ m, ph'.hd = m ++ ph.hd ∧ ∀ a ∈ m, H a = none
  keep : ∀ a o, H a = some o → a ∉ ph.ad → H' a = some o
  dom : ∀ a o, H a = some o → ∃ o', H' a = some o'
theorem Ext.refl {ph : Phi} {H : Hp} : Ext ph H ph H := ⟨⟨[], by simp, by simp⟩, ⟨[], rfl, by simp⟩, fun _ _ h _ => h, fun _ o h => ⟨o, h⟩⟩
theorem Ext.trans {p0 p1 p2 : Phi} {H0 H1 H2 : Hp} (a : Ext p0 H0 p1 H1) (b : Ext p1 H1 p2 H2) : Ext p0 H0 p2 H2 := by
  obtain ⟨m, e1, n1⟩ := a.more
  obtain ⟨m', e2, n2⟩ := b.more
  obtain ⟨q, e3, n3⟩ := a.hid
  obtain ⟨q', e4, n4⟩ := b.hid
  have back : ∀ c, H1 c = none → H0 c = none := fun c h => by
    cases q : H0 c with
    | none => rfl
    | some o =>
      obtain ⟨o', z⟩ := a.dom c o q
      rw [h] at z; cases z
  refine ⟨⟨m ++ m', by rw [e2, e1, List.append_assoc], fun c hc => ?_⟩, ⟨q' ++ q, by rw [e4, e3, List.append_assoc], fun c hc => (List.mem_append.mp hc).elim (fun z => back c (n4 c z)) (n3 c)⟩, fun c o h hn => ?_, fun c o h => ?_⟩
  · rcases List.mem_append.mp hc with h | h
    · exact n1 c h
    · cases q : H0 c with
      | none => rfl
      | some o =>
        obtain ⟨o', z⟩ := a.dom c o q
        rw [n2 c h] at z; cases z
  · refine b.keep c o (a.keep c o h hn) ?_
    rw [e1]
    intro hc
    rcases List.mem_append.mp hc with h' | h'
    · exact hn h'
    · rw [n1 c h'] at h; cases h
  · obtain ⟨o1, h1⟩ := a.dom c o h
    exact b.dom c o1 h1

section
variable {K : PySem.W.Frag} {ph ph' : Phi} {H H' : Hp}
theorem Ext.mem (e : Ext ph H ph' H') {n : Nat} {a : Addr} (h : ph.ad[n]? = some a) : ph'.ad[n]? = some a := by
  obtain ⟨m, e1, _⟩ := e.more
  rw [e1, List.getElem?_append_left (List.getElem?_eq_some_iff.mp h).1]
  exact h
theorem Ext.notin' (e : Ext ph H ph' H') {a : Addr} {o : HO} (h : H a = some o) (hn : a ∉ ph.ad) : a ∉ ph'.ad := by
  obtain ⟨m, e1, n1⟩ := e.more
  rw [e1]
  intro hc
  rcases List.mem_append.mp hc with h' | h'
  · exact hn h'
  · rw [n1 a h'] at h; cases h
theorem Ext.notin (e : Ext ph H ph' H') {a : Addr} {o : HO} (h : H a = some o) (hn : ph.off a) : ph'.off a := by
  refine ⟨e.notin' h hn.1, fun hm => ?_⟩
  obtain ⟨m, e1, n1⟩ := e.hid
  rw [e1] at hm
  rcases List.mem_append.mp hm with z | z
  · rw [n1 a z] at h; cases h
  · exact hn.2 z
/-- a tuple is never one of the store's objects -/
def Apart (ph : Phi) (H : Hp) : Prop := ∀ a ∈ ph.ad, ∃ o, H a = some o ∧ Mut (some o)
theorem Apart.tup (ap : Apart ph H) {a : Addr} {xs : List V} (h : H a = some (.tup xs)) : a ∉ ph.ad := fun hm => by
  obtain ⟨o, e, m⟩ := ap a hm
  rw [h] at e; cases e
  exact m
theorem Apart.frz (ap : Apart ph H) {a : Addr} {o : Obj} {u : HO} (h : H a = some (.frz o u)) : a ∉ ph.ad := fun hm => by
  obtain ⟨o, e, m⟩ := ap a hm
  rw [h] at e; cases e
  exact m
theorem Ext.sqT (e : Ext ph H ph' H') (ap : Apart ph H) {a : Addr} {xs : List V} (h : SqT K H a xs) : SqT K H' a xs := by
  rcases h with (h | ⟨o, h⟩) | h
  · exact .inl (.inl (e.keep _ _ h (ap.tup h)))
  · exact .inl (.inr ⟨o, e.keep _ _ h (ap.frz h)⟩)
  · exact .inr h
mutual
theorem RV.mono (e : Ext ph H ph' H') (ap : Apart ph H) : ∀ (x : PV) (v : V), RV K ph H x v → RV K ph' H' x v
  | .non, _, h => by simpa [RV] using h
  | .bl _, _, h => by simpa [RV] using h
  | .int _, _, h => by simpa [RV] using h
  | .str _, _, h => by simpa [RV] using h
  | .ty _, _, h => by simpa [RV] using h
  | .dct, v, h => by
    unfold RV at h ⊢
    obtain ⟨a, kvs, e1, h1, h3⟩ := h
    exact ⟨a, kvs, e1, e.keep _ _ h1 h3.1, e.notin h1 h3⟩
  | .tup xs, v, h => by
    unfold RV at h ⊢
    obtain ⟨a, vs, e1, h1, h2⟩ := h
    exact ⟨a, vs, e1, e.sqT ap h1, RVs.mono e ap xs vs h2⟩
  | .lst xs, v, h => by
    unfold RV at h ⊢
    obtain ⟨a, vs, e1, h1, h3, h2⟩ := h
    exact ⟨a, vs, e1, e.keep _ _ h1 h3.1, e.notin h1 h3, RVs.mono e ap xs vs h2⟩
  | .lck xs, v, h => by
    unfold RV at h ⊢
    obtain ⟨a, vs, e1, h1, h2⟩ := h
    rcases h1 with ⟨h1 | ⟨o, h1⟩, h3⟩ | h1
    · exact ⟨a, vs, e1, .inl ⟨.inl (e.keep _ _ h1 h3.1), e.notin h1 h3⟩, RVs.mono e ap xs vs h2⟩
    · exact ⟨a, vs, e1, .inl ⟨.inr ⟨o, e.keep _ _ h1 h3.1⟩, e.notin h1 h3⟩, RVs.mono e ap xs vs h2⟩
    · exact ⟨a, vs, e1, .inr h1, RVs.mono e ap xs vs h2⟩
  | .ref n, v, h => by
    unfold RV at h ⊢
    obtain ⟨a, e1, h1⟩ := h
    exact ⟨a, e1, e.mem h1⟩
theorem RVs.mono (e : Ext ph H ph' H') (ap : Apart ph H) : ∀ (xs : List PV) (vs : List V), RVs K ph H xs vs → RVs K ph' H' xs vs
  | [], _, h => by simpa [RVs] using h
  | x :: xs, vs, h => by
    unfold RVs at h ⊢
    obtain ⟨v, r, e1, h1, h2⟩ := h
    exact ⟨v, r, e1, RV.mono e ap x v h1, RVs.mono e ap xs r h2⟩
end
theorem sqL_none {a : Addr} {xs : List V} (h : SqL K (fun _ => none) a xs) : SqL K H a xs := by
  rcases h with (h | ⟨o, h⟩) | h
  · cases h
  · cases h
  · exact .inr h
theorem RVs.length : ∀ {xs : List PV} {vs : List V}, RVs K ph H xs vs → vs.length = xs.length
  | [], _, h => by unfold RVs at h; rw [h]; rfl
  | x :: xs, _, h => by
    unfold RVs at h
    obtain ⟨v, r, rfl, _, h2⟩ := h
    rw [List.length_cons, List.length_cons, RVs.length h2]
theorem RVs.get : ∀ {xs : List PV} {vs : List V} {i : Nat} {x : PV}, RVs K ph H xs vs → xs[i]? = some x → ∃ v, vs[i]? = some v ∧ RV K ph H x v
  | [], _, _, _, _, e => by simp at e
  | y :: xs, _, 0, x, h, e => by
    unfold RVs at h
    obtain ⟨v, r, rfl, h1, _⟩ := h
    simp at e; subst e
    exact ⟨v, by simp, h1⟩
  | y :: xs, _, i + 1, x, h, e => by
    unfold RVs at h
    obtain ⟨v, r, rfl, _, h2⟩ := h
    obtain ⟨u, h3, h4⟩ := RVs.get (i := i) (x := x) h2 (by simpa using e)
    exact ⟨u, by simpa using h3, h4⟩
theorem RVs.append : ∀ {xs ys : List PV} {vs us : List V}, RVs K ph H xs vs → RVs K ph H ys us → RVs K ph H (xs ++ ys) (vs ++ us)
  | [], _, _, _, h, h' => by unfold RVs at h; subst h; exact h'
  | x :: xs, _, _, _, h, h' => by
    unfold RVs at h
    obtain ⟨v, r, rfl, h1, h2⟩ := h
    show RVs K ph H (x :: (xs ++ _)) _
    unfold RVs
    exact ⟨v, r ++ _, rfl, h1, RVs.append h2 h'⟩
theorem RVs.drop : ∀ {xs : List PV} {vs : List V} (n : Nat), RVs K ph H xs vs → RVs K ph H (xs.drop n) (vs.drop n)
  | _, _, 0, h => h
  | [], _, n + 1, h => by unfold RVs at h; subst h; simp [RVs]
  | x :: xs, _, n + 1, h => by
    unfold RVs at h
    obtain ⟨v, r, rfl, h1, h2⟩ := h
    exact RVs.drop n h2
theorem RVs.take : ∀ {xs : List PV} {vs : List V} (n : Nat), RVs K ph H xs vs → RVs K ph H (xs.take n) (vs.take n)
  | xs, vs, 0, h => by simp [RVs]
  | [], _, n + 1, h => by unfold RVs at h; subst h; simp [RVs]
  | x :: xs, _, n + 1, h => by
    unfold RVs at h
    obtain ⟨v, r, rfl, h1, h2⟩ := h
    show RVs K ph H (x :: xs.take n) (v :: r.take n)
    unfold RVs
    exact ⟨v, _, rfl, h1, RVs.take n h2⟩
theorem RVs.set : ∀ {xs : List PV} {vs : List V} {x : PV} {v : V} (i : Nat), RVs K ph H xs vs → RV K ph H x v → RVs K ph H (xs.set i x) (vs.set i v)
  | [], _, _, _, _, h, _ => by unfold RVs at h; subst h; simp [RVs]
  | y :: xs, _, _, _, 0, h, hx => by
    unfold RVs at h
    obtain ⟨v, r, rfl, h1, h2⟩ := h
    show RVs K ph H (_ :: xs) (_ :: r)
    unfold RVs
    exact ⟨_, r, rfl, hx, h2⟩
  | y :: xs, _, _, _, i + 1, h, hx => by
    unfold RVs at h
    obtain ⟨v, r, rfl, h1, h2⟩ := h
    show RVs K ph H (y :: xs.set i _) (v :: r.set i _)
    unfold RVs
    exact ⟨v, _, rfl, h1, RVs.set i h2 hx⟩
theorem RVs.one {x : PV} {v : V} (h : RV K ph H x v) : RVs K ph H [x] [v] := by
  unfold RVs
  exact ⟨v, [], rfl, h, by simp [RVs]⟩
theorem RVs.nil : RVs K ph H [] [] := by simp [RVs]
theorem RVs.cons {x : PV} {v : V} {xs : List PV} {vs : List V} (h : RV K ph H x v) (h' : RVs K ph H xs vs) : RVs K ph H (x :: xs) (v :: vs) := by
  unfold RVs
  exact ⟨v, vs, rfl, h, h'⟩
theorem RVs.cons_inv {x : PV} {xs : List PV} {vs : List V} (h : RVs K ph H (x :: xs) vs) : ∃ v r, vs = v :: r ∧ RV K ph H x v ∧ RVs K ph H xs r := by
  unfold RVs at h
  exact h
theorem RVs.nil_inv {vs : List V} (h : RVs K ph H [] vs) : vs = [] := by unfold RVs at h; exact h
end

/-! ### the state -/
/-- the classes' names, and the world's hash of keys -/
structure CTab where
  c : Str → Option Addr
  hw : NK → Int
instance : CoeFun CTab fun _ => Str → Option Addr := ⟨CTab.c⟩
abbrev Ent := NK × Addr × V
def EntR (p : Ent) (q : NK × Addr × Value) : Prop := p.1 = q.1 ∧ p.2.1 = q.2.1 ∧ RelV p.2.2 q.2.2
/-- a dict's object with its entries, keys by their addresses; hw: the world's hash -/
def DctAt (hw : NK → Int) (a : Addr) (g : Obj) (es : List Ent) (h : Heap) : Prop := es.length ≤ sizeLine ∧ (a == sysModules) = false ∧ ∃ xs : List (NK × Addr × Value), Paired EntR es xs ∧
  ∃ ents ep, h.get? a = some g ∧ g.ExactDict ∧ g.data = .dict ents ep ∧ ents.toList = xs.map (fun x => (⟨hw x.1, .ref x.2.1, x.2.2⟩ : DictEntry)) ∧ (xs.map (·.1)).Nodup
def DctO (hw : NK → Int) (a : Addr) (g : Obj) (es : List Ent) : HO := .ext (DctAt hw a g es)
def RO (K : PySem.W.Frag) (ct : CTab) (ph : Phi) (H : Hp) : SO → Addr → Prop
  | .lst xs, a => ∃ vs, H a = some (.lst vs) ∧ RVs K ph H xs vs
  | .ins c fs, a => ∃ C dx hs, ct c = some C ∧ H a = some (.ins C dx hs) ∧ H dx = some (.own a) ∧ hs.map (·.1) = fs.map (·.1) ∧ RVs K ph H (fs.map (·.2)) (hs.map (·.2))
  | .dct es g, a => ∃ hs, H a = some (DctO ct.hw a g hs) ∧ es.map (fun e => keyOf e.1) = hs.map (fun h => some h.1) ∧ (∀ h ∈ hs, h.1.depth ≤ 8) ∧ RVs K ph H (es.map (·.1)) (hs.map fun h => V.ref h.2.1) ∧ RVs K ph H (es.map (·.2)) (hs.map (·.2.2))
structure RelS (K : PySem.W.Frag) (ct : CTab) (ph : Phi) (H : Hp) (S : Store) : Prop where
  len : ph.ad.length = S.length
  nd : ph.ad.Nodup
  hid : ∀ a ∈ ph.hd, a ∉ ph.ad ∧ ∃ vs, H a = some (.lst vs)
  obj : ∀ (i : Nat) o, S[i]? = some o → ∃ a, ph.ad[i]? = some a ∧ RO K ct ph H o a
structure RelE (K : PySem.W.Frag) (ph : Phi) (H : Hp) (env : List (Option PV)) (sg : L2.St) : Prop where
  len : env.length = sg.length
  val : ∀ (i : Nat) x, env[i]? = some (some x) → ∃ v, sg[i]? = some (some v) ∧ RV K ph H x v
structure Rel (K : PySem.W.Frag) (ct : CTab) (ph : Phi) (H : Hp) (sg : L2.St) (p : PSt) : Prop where
  e : RelE K ph H p.env sg
  s : RelS K ct ph H p.st
section
variable {K : PySem.W.Frag} {ct : CTab} {ph ph' : Phi} {H H' : Hp} {S : Store} {sg : L2.St} {p : PSt}
theorem RelS.apart (r : RelS K ct ph H S) : Apart ph H := fun a ha => by
  obtain ⟨i, hi⟩ := List.mem_iff_getElem?.mp ha
  have hl : i < S.length := by rw [← r.len]; exact (List.getElem?_eq_some_iff.mp hi).1
  obtain ⟨b, hb, ro⟩ := r.obj i S[i] (List.getElem?_eq_getElem hl)
  rw [hi] at hb; cases hb
  revert ro
  cases S[i] with
  | lst xs => rintro ⟨vs, e, _⟩; exact ⟨_, e, trivial⟩
  | ins c fs => rintro ⟨C, dx, hs, _, e, _⟩; exact ⟨_, e, trivial⟩
  | dct es g => rintro ⟨hs, e, _⟩; exact ⟨_, e, trivial⟩
theorem RelE.mono (r : RelE K ph H p.env sg) (e : Ext ph H ph' H') (ap : Apart ph H) : RelE K ph' H' p.env sg :=
  ⟨r.len, fun i x h => let ⟨v, h1, h2⟩ := r.val i x h; ⟨v, h1, RV.mono e ap x v h2⟩⟩
/-- a new object is laid -/
theorem Ext.lay {a : Addr} {o : HO} (h : H a = none) : Ext ph H ph (upd H a o) :=
  ⟨⟨[], by simp, by simp⟩, ⟨[], rfl, by simp⟩, fun c u e _ => by rw [upd_ne (ne_of_none e h)]; exact e, fun c u e => ⟨u, by rw [upd_ne (ne_of_none e h)]; exact e⟩⟩
theorem Ext.new {a : Addr} {o : HO} (h : H a = none) : Ext ph H (ph.push a) (upd H a o) :=
  ⟨⟨[a], rfl, fun c hc => by rw [List.mem_singleton.mp hc]; exact h⟩, ⟨[], rfl, by simp⟩, fun c u e _ => by rw [upd_ne (ne_of_none e h)]; exact e, fun c u e => ⟨u, by rw [upd_ne (ne_of_none e h)]; exact e⟩⟩
theorem Ext.write {a : Addr} {o : HO} (h : a ∈ ph.ad) : Ext ph H ph (upd H a o) :=
  ⟨⟨[], by simp, by simp⟩, ⟨[], rfl, by simp⟩, fun c u e hn => by
    have hc : c ≠ a := fun z => hn (by rw [z]; exact h)
    rw [upd_ne hc]; exact e, fun c u e => by
    by_cases hc : c = a
    · subst hc; exact ⟨o, upd_same⟩
    · exact ⟨u, by rw [upd_ne hc]; exact e⟩⟩
/-- an object that is not written -/
theorem RO.mono {o : SO} {a : Addr} (r : RO K ct ph H o a) (e : Ext ph H ph' H') (ap : Apart ph H) (k : ∀ u, H a = some u → H' a = some u) (hd : ∀ dx, H dx = some (.own a) → H' dx = some (.own a)) : RO K ct ph' H' o a := by
  cases o with
  | lst xs =>
    obtain ⟨vs, h1, h2⟩ := r
    exact ⟨vs, k _ h1, RVs.mono e ap _ _ h2⟩
  | ins c fs =>
    obtain ⟨C, dx, hs, h0, h1, h3, h4, h2⟩ := r
    exact ⟨C, dx, hs, h0, k _ h1, hd dx h3, h4, RVs.mono e ap _ _ h2⟩
  | dct es g =>
    obtain ⟨hs, h1, h2, h3, h4, h5⟩ := r
    exact ⟨hs, k _ h1, h2, h3, RVs.mono e ap _ _ h4, RVs.mono e ap _ _ h5⟩
theorem Apart.own (ap : Apart ph H) {a x : Addr} (h : H a = some (.own x)) : a ∉ ph.ad := fun hm => by
  obtain ⟨o, e, m⟩ := ap a hm
  rw [h] at e; cases e
  exact m
/-- nothing of the store's objects is written -/
theorem RelS.keep (r : RelS K ct ph H S) (e : Ext ph H ph H') (k : ∀ a ∈ ph.ad, ∀ u, H a = some u → H' a = some u) : RelS K ct ph H' S :=
  ⟨r.len, r.nd, fun a ha => let ⟨h1, vs, h2⟩ := r.hid a ha; ⟨h1, vs, e.keep _ _ h2 h1⟩, fun i o h => by
    obtain ⟨a, h1, h2⟩ := r.obj i o h
    exact ⟨a, h1, h2.mono e r.apart (k a (List.mem_iff_getElem?.mpr ⟨i, h1⟩)) fun dx q => e.keep _ _ q (r.apart.own q)⟩⟩
theorem RelS.lay (r : RelS K ct ph H S) {a : Addr} {o : HO} (h : H a = none) : RelS K ct ph (upd H a o) S :=
  r.keep (Ext.lay h) fun c _ u e => by rw [upd_ne (ne_of_none e h)]; exact e
theorem Rel.lay (r : Rel K ct ph H sg p) {a : Addr} {o : HO} (h : H a = none) : Rel K ct ph (upd H a o) sg p :=
  ⟨r.e.mono (Ext.lay h) r.s.apart, r.s.lay h⟩
theorem RelS.fresh (r : RelS K ct ph H S) {a : Addr} (h : H a = none) : ph.off a := by
  refine ⟨fun hm => ?_, fun hm => ?_⟩
  · obtain ⟨o, e, _⟩ := r.apart a hm
    rw [h] at e; cases e
  · obtain ⟨_, vs, e⟩ := r.hid a hm
    rw [h] at e; cases e
/-- a new list of the store, which stands at a already -/
theorem RelS.adopt (r : RelS K ct ph H S) {a : Addr} {xs : List PV} {vs : List V} (hn : ph.off a) (h : H a = some (.lst vs)) (hv : RVs K (ph.push a) H xs vs) (hr : ∀ (i : Nat) (o : SO) (b : Addr), S[i]? = some o → ph.ad[i]? = some b → RO K ct (ph.push a) H o b) : RelS K ct (ph.push a) H (S ++ [.lst xs]) := by
  refine ⟨by simp [Phi.push, r.len], List.nodup_append.mpr ⟨r.nd, by simp, fun x hx y hy => ?_⟩, fun b hb => ?_, fun i o hi => ?_⟩
  · rw [List.mem_singleton.mp hy]
    exact fun z => hn.1 (z ▸ hx)
  · obtain ⟨h1, h2⟩ := r.hid b hb
    refine ⟨fun hm => ?_, h2⟩
    rcases List.mem_append.mp hm with z | z
    · exact h1 z
    · rw [List.mem_singleton.mp z] at hb
      exact hn.2 hb
  · by_cases hl : i < S.length
    · rw [List.getElem?_append_left hl] at hi
      obtain ⟨b, h1, h2⟩ := r.obj i o hi
      exact ⟨b, by show (ph.ad ++ [a])[i]? = _; rw [List.getElem?_append_left (by rw [r.len]; exact hl)]; exact h1, hr i o b hi h1⟩
    · have hi' : i = S.length := by
        have q : i < (S ++ [SO.lst xs]).length := (List.getElem?_eq_some_iff.mp hi).1
        rw [List.length_append] at q
        have q' : i < S.length + 1 := q
        omega
      subst hi'
      rw [List.getElem?_append_right (Nat.le_refl _)] at hi
      simp at hi; subst hi
      exact ⟨a, by show (ph.ad ++ [a])[_]? = _; rw [List.getElem?_append_right (by rw [r.len]; exact Nat.le_refl _), r.len]; simp, vs, h, hv⟩
/-- a new list of the store -/
theorem RelS.newL (r : RelS K ct ph H S) {a : Addr} {xs : List PV} {vs : List V} (h : H a = none) (hv : RVs K ph H xs vs) : RelS K ct (ph.push a) (upd H a (.lst vs)) (S ++ [.lst xs]) := by
  have ex : Ext ph H (ph.push a) (upd H a (.lst vs)) := Ext.new h
  refine (r.lay (o := .lst vs) h).adopt (r.fresh h) upd_same (RVs.mono ex r.apart _ _ hv) fun i o b hi hb => ?_
  obtain ⟨b', h1, h2⟩ := r.obj i o hi
  rw [hb] at h1; cases h1
  refine h2.mono ex r.apart (fun u e => ?_) fun dx q => ?_
  · rw [upd_ne (ne_of_none e h)]; exact e
  · rw [upd_ne (ne_of_none q h)]; exact q
/-- a list of the store is written -/
theorem RelS.setL (r : RelS K ct ph H S) {n : Nat} {a : Addr} {xs : List PV} {vs vs0 : List V} (hn : n < S.length) (ha : ph.ad[n]? = some a) (h0 : H a = some (.lst vs0)) (hv : RVs K ph H xs vs) : RelS K ct ph (upd H a (.lst vs)) (S.set n (.lst xs)) := by
  have hm : a ∈ ph.ad := List.mem_iff_getElem?.mpr ⟨n, ha⟩
  have ex : Ext ph H ph (upd H a (.lst vs)) := Ext.write hm
  refine ⟨by simp [r.len], r.nd, fun b hb => ?_, fun i o hi => ?_⟩
  · obtain ⟨h1, us, h2⟩ := r.hid b hb
    exact ⟨h1, us, ex.keep _ _ h2 h1⟩
  by_cases hin : i = n
  · subst hin
    rw [List.getElem?_set_self hn] at hi
    cases hi
    exact ⟨a, ha, vs, upd_same, RVs.mono ex r.apart _ _ hv⟩
  · rw [List.getElem?_set_ne (fun z => hin z.symm)] at hi
    obtain ⟨b, h1, h2⟩ := r.obj i o hi
    have hb : b ≠ a := fun z => by
      subst z
      obtain ⟨l1, e1⟩ := List.getElem?_eq_some_iff.mp h1
      obtain ⟨l2, e2⟩ := List.getElem?_eq_some_iff.mp ha
      exact hin ((List.getElem_inj r.nd).mp (e1.trans e2.symm))
    refine ⟨b, h1, h2.mono ex r.apart (fun u e => by rw [upd_ne hb]; exact e) fun dx q => ?_⟩
    rw [upd_ne (fun z => by rw [z, h0] at q; cases q)]; exact q
theorem RelS.atL (r : RelS K ct ph H S) {n : Nat} {xs : List PV} (h : S[n]? = some (.lst xs)) : ∃ a vs, ph.ad[n]? = some a ∧ H a = some (.lst vs) ∧ RVs K ph H xs vs := by
  obtain ⟨a, h1, vs, h2, h3⟩ := r.obj n _ h
  exact ⟨a, vs, h1, h2, h3⟩
end

/-! ### a transformer seen from the heap -/
/-- an exception in the heap -/
def RX (K : PySem.W.Frag) (ct : CTab) (ph : Phi) (H : Hp) (x : PX) (cls : Value) (d : Option Addr) : Prop :=
  ∃ C, ct x.cls = some C ∧ cls = .ref C ∧ ((x.fs = [] ∧ d = none) ∨ ∃ dd hs, d = some dd ∧ H dd = some (.xd hs) ∧ hs.map (·.1) = x.fs.map (·.1) ∧ RVs K ph H (x.fs.map (·.2)) (hs.map (·.2)))
abbrev WA (α : Type) := PSt → (α → PSt → Prop) → QX → Prop
section
variable {α β γ δ : Type}
/-- from a state p at (ph, H): Q holds of what comes out, W of what is raised -/
def Frm (K : PySem.W.Frag) (ct : CTab) (W : WX) (w : WA α) (R : Phi → Hp → α → β → Prop) (sg : L2.St) (ph : Phi) (H : Hp) (p : PSt) (Q : β → Hp → Prop) : Prop :=
  ∃ (Q0 : α → PSt → Prop) (X0 : QX), w p Q0 X0 ∧ (∀ a p' ph' b H', Q0 a p' → Ext ph H ph' H' → Rel K ct ph' H' sg p' → R ph' H' a b → Q b H') ∧
    (∀ x p' ph' cls d sg' H', X0 x p' → Ext ph H ph' H' → Rel K ct ph' H' sg' p' → RX K ct ph' H' x cls d → W cls d sg' H')
def At (K : PySem.W.Frag) (ct : CTab) (W : WX) (w : WA α) (R : Phi → Hp → α → β → Prop) (sg : L2.St) (H : Hp) (Q : β → Hp → Prop) : Prop :=
  ∃ ph p, Rel K ct ph H sg p ∧ Frm K ct W w R sg ph H p Q
variable {K : PySem.W.Frag} {ct : CTab} {W : WX} {w w1 : WA α} {w2 : α → WA γ} {R : Phi → Hp → α → β → Prop} {R1 : Phi → Hp → α → β → Prop} {R2 : Phi → Hp → γ → δ → Prop} {sg : L2.St} {ph : Phi} {H : Hp} {p : PSt}
theorem Frm.mono {Q Q' : β → Hp → Prop} (h : Frm K ct W w R sg ph H p Q) (k : ∀ b H, Q b H → Q' b H) : Frm K ct W w R sg ph H p Q' :=
  let ⟨Q0, X0, a, b, c⟩ := h
  ⟨Q0, X0, a, fun x p' ph' v H' q e r rv => k _ _ (b x p' ph' v H' q e r rv), c⟩
theorem Frm.bind {Q : δ → Hp → Prop} (h : Frm K ct W (fun p Q X => w1 p (fun a p1 => w2 a p1 Q X) X) R2 sg ph H p Q) :
    Frm K ct W w1 R1 sg ph H p fun b H1 => ∃ a ph1 p1, Rel K ct ph1 H1 sg p1 ∧ Ext ph H ph1 H1 ∧ R1 ph1 H1 a b ∧ Frm K ct W (w2 a) R2 sg ph1 H1 p1 Q := by
  obtain ⟨Q0, X0, hw, hQ, hX⟩ := h
  refine ⟨fun a p1 => w2 a p1 Q0 X0, X0, hw, fun a p1 ph1 b H1 q e r rv => ?_, hX⟩
  exact ⟨a, ph1, p1, r, e, rv, Q0, X0, q, fun a' p' ph' b' H' q' e' r' rv' => hQ _ _ _ _ _ q' (e.trans e') r' rv', fun x p' ph' cls d sg' H' q' e' r' rx' => hX _ _ _ _ _ _ _ q' (e.trans e') r' rx'⟩
/-- at the end -/
theorem Frm.done {f : PSt → (α → PSt → Prop) → Prop} {Q : β → Hp → Prop} (h : Frm K ct W (fun p Q _ => f p Q) R sg ph H p Q) :
    ∃ Q0 : α → PSt → Prop, f p Q0 ∧ ∀ a p' ph' b H', Q0 a p' → Ext ph H ph' H' → Rel K ct ph' H' sg p' → R ph' H' a b → Q b H' :=
  let ⟨Q0, _, a, b, _⟩ := h
  ⟨Q0, a, b⟩
end
section
variable (K : PySem.W.Frag) (ct : CTab) (W : WX)
def tE (w : WA PV) : TE := At K ct W w (RV K)
def tA (w : WA (List PV)) : TA := At K ct W w (RVs K)
/-- as a test -/
def wB (w : WA PV) : WA Bool := fun p Q X => w p (fun x p1 => ∃ k, x = .bl k ∧ Q k p1) X
def tB (w : WA PV) : TT := At K ct W (wB w) fun _ _ k b => k = b
/-- an operator: r is what HandS asks, f what is known -/
def OpS (r : R2) (f : PV → PV → PSt → QV → Prop) : Prop :=
  ∀ sg ph H p x y v u Q, Rel K ct ph H sg p → RV K ph H x v → RV K ph H y u → Frm K ct W (fun p Q _ => f x y p Q) (RV K) sg ph H p Q → r v u H Q
end
theorem PE.weak {X : Cx} {e : Expr} {t t' : TE} (h : PE X e t) (k : ∀ sg H Q, t' sg H Q → t sg H Q) : PE X e t' := ⟨fun pins s sg H Q I hw => h.run pins s sg H Q I (k sg H Q hw)⟩
theorem PT.weak {X : Cx} {e : Expr} {t t' : TT} (h : PT X e t) (k : ∀ sg H Q, t' sg H Q → t sg H Q) : PT X e t' := ⟨fun pins s sg H Q I hw => h.run pins s sg H Q I (k sg H Q hw)⟩
theorem PA.weak {X : Cx} {e : List Expr} {t t' : TA} (h : PA X e t) (k : ∀ sg H Q, t' sg H Q → t sg H Q) : PA X e t' := ⟨fun pos pins s sg H Q I hw => h.run pos pins s sg H Q I (k sg H Q hw)⟩
theorem PS.weak {X : Cx} {e : Stmt} {t t' : TS} (h : PS X e t) (k : ∀ D sg H, t' D sg H → t D sg H) : PS X e t' := ⟨fun pins s sg H D I hw => h.run pins s sg H D I (k D sg H hw)⟩
theorem PSs.weak {X : Cx} {e : List Stmt} {t t' : TS} (h : PSs X e t) (k : ∀ D sg H, t' D sg H → t D sg H) : PSs X e t' := ⟨fun pins s sg H D I hw => h.run pins s sg H D I (k D sg H hw)⟩
section
variable {K : PySem.W.Frag} {ct : CTab} {W : WX} {wa wb : WA PV} {r : R2} {f : PV → PV → PSt → QV → Prop}
theorem tE_op (ho : OpS K ct W r f) {sg : L2.St} {H : Hp} {Q : VK} (h : tE K ct W (fun p Q X => wa p (fun x p1 => wb p1 (fun y p2 => f x y p2 Q) X) X) sg H Q) : tOp r (tE K ct W wa) (tE K ct W wb) sg H Q := by
  obtain ⟨ph, p, rel, h⟩ := h
  refine ⟨ph, p, rel, (Frm.bind (w2 := fun x p1 Q X => wb p1 (fun y p2 => f x y p2 Q) X) h).mono fun v H1 ⟨x, ph1, p1, rel1, e1, rx, h1⟩ => ?_⟩
  refine ⟨ph1, p1, rel1, (Frm.bind (w2 := fun y p2 Q X => f x y p2 Q) h1).mono fun u H2 ⟨y, ph2, p2, rel2, e2, ry, h2⟩ => ?_⟩
  exact ho sg ph2 H2 p2 x y v u Q rel2 (RV.mono e2 rel1.s.apart _ _ rx) ry h2
end
end Den

/-! D1b0: min of two tuples (an int, a tuple of ints). -/
namespace Den
open PySem PySem.W PySem.Spec PySem.Calls PyProof.Rows
section
variable {prog : Program} {w : World} {A : Around} {E : Value → Shared → Prop} {s : Shared}
theorem min2_walkH {a b : Value} {Q : Value → Shared → Prop}
    (h : wpAny (model prog w) A.in1 (pyIter (.ref s.heap.objs.size)) (fun it s₂ => ∃ I fp wr G n P St H bt, it = .ref I ∧ WalksS prog w A.in1 I fp wr G n P St ∧ St 0 s₂ ∧ (∀ b ∈ fp, b < s₂.heap.objs.size) ∧ 0 < n ∧
      (∀ b o, H.get? b = some o → b ∉ wr) ∧ (∀ b o, H.get? b = some o → s₂.heap.get? b = some o) ∧ CmpIn prog w A.in1 .Lt H P bt ∧ ∀ v s', P (argBest bt (n - 1)) v → Moved wr G s₂ s' → Q v s') E
      { s with heap := s.heap.push { cls := .type "tuple", data := .seq #[a, b] } }) :
    wpAny (model prog w) A (call (.builtin "min") [a, b]) Q E s := by
  have hname : (toString "min" ++ toString ".loop" : String) = "min.loop" := by decide
  refine call_function_tree F.kind_min F.plain_min F.entry_min (F.args_min2 _ _) ?_
  show wpAny _ A.in1 (Builtin.Builtins.bindParams "min" ["key", "default"] 0 ⟨[], []⟩ >>= _) _ _ s
  refine wpAny_bind (wpAny_of_eq (show Builtin.Builtins.bindParams "min" ["key", "default"] 0 ⟨[], []⟩ = pure [none, none] from rfl) ?_)
  show wpAny _ A.in1 (newTuple [a, b] >>= _) _ _ s
  refine wpAny_bind (wpAny_newObj_type ?_)
  refine wpAny_bind (wpAny_mono h (fun it s₂ h₂ => ?_) fun _ _ e => e)
  obtain ⟨I, fp, wr, G, n, P, St, H, bt, rfl, W, hst, hfp, hn, hw, hkeep, hcmp, hQ⟩ := h₂
  refine wpAny_bind (wpAny_newObj_type ?_)
  have hSf : s₂.heap.objs.size ∉ fp := fun hm => Nat.lt_irrefl _ (hfp _ hm)
  rw [hname]
  refine wpAny_pure ⟨plainId_quiet F.plain_min_loop _, codeAny_min_loop_firstH W H hw bt hcmp s₂.heap.objs.size hSf (fresh_in hkeep) _ hn (fun b o e => Heap.get?_push_of_some _ (hkeep b o e)) (W.frame 0 s₂ _ s₂.toks hst (Nat.le_refl _) fun b _ o e => Heap.get?_push_of_some _ e) (Heap.get?_push_size _ rfl) fun v s' hP hm => ?_⟩
  exact hQ v s' hP (Moved.drop_new (tk := s₂.toks) hm (Nat.le_refl _))
theorem min2_data {a b : Value} {da db : PyData} {as bs : List Addr} {Q : Value → Shared → Prop} (hh : A.handled = none) (ra : Reads s.heap a da as) (rb : Reads s.heap b db bs) (ha : AlikeAll [da, db]) (hu : A.units + 1 + PyData.depthAll [da, db] < cLine)
    (h : ∀ h' tk, (∀ b o, s.heap.get? b = some o → h'.get? b = some o) → Q (if dataLt db da then b else a) { s with heap := h', toks := tk }) :
    wpAny (model prog w) A (call (.builtin "min") [a, b]) Q E s := by
  have kp : ∀ c o, s.heap.get? c = some o → (s.heap.push { cls := .type "tuple", data := .seq #[a, b] }).get? c = some o := fun c o e => Heap.get?_push_of_some _ e
  have hT : (s.heap.push { cls := .type "tuple", data := .seq #[a, b] }).IsTuple s.heap.objs.size #[a, b] := ⟨_, Heap.get?_push_size _ rfl, rfl, 0, rfl⟩
  have hr : ReadsAll (s.heap.push { cls := .type "tuple", data := .seq #[a, b] }) (#[a, b] : Array Value).toList [da, db] _ := .cons (reads_keeps kp ra) (.cons (reads_keeps kp rb) .nil)
  refine min2_walkH (iter_tupleW (A := A.in1) (s := { s with heap := s.heap.push { cls := .type "tuple", data := .seq #[a, b] } }) hh hT fun s₂ e W st hfp hw hk => ?_)
  refine ⟨_, _, _, _, _, _, _, s.heap.push { cls := .type "tuple", data := .seq #[a, b] }, _, rfl, W, st, hfp, Nat.zero_lt_succ 1, hw, hk, cmpIn_lt (A := A.in1) (s := { s with heap := s.heap.push { cls := .type "tuple", data := .seq #[a, b] } }) hr ha (by show A.units + 1 + _ < _; exact hu), fun v s' hP m => ?_⟩
  obtain ⟨h', tk, rfl, hk'⟩ := moved_old e rfl m
  have hQ := h h' tk fun c o e => hk' c o (kp c o e)
  have hv : v = if dataLt db da then b else a := by
    have e1 : (#[a, b] : Array Value).size - 1 = 1 := rfl
    rw [e1] at hP
    by_cases hd : dataLt db da = true
    · have e2 : argBest (fun i j => dataLt ([da, db].getD i .none) ([da, db].getD j .none)) 1 = 1 := by simp [argBest, hd]
      rw [e2] at hP
      rw [if_pos hd]
      simpa using hP.symm
    · have e2 : argBest (fun i j => dataLt ([da, db].getD i .none) ([da, db].getD j .none)) 1 = 0 := by simp [argBest, hd]
      rw [e2] at hP
      rw [if_neg hd]
      simpa using hP.symm
  rw [hv]
  exact hQ
end
/-! ### the order of such tuples -/
theorem lt_ints : ∀ js is : List Int, PyProof.Rows.lexLt itemOrd (keyToksAll (js.map .int)) (keyToksAll (is.map .int)) = ltIs js is
  | [], [] => by simp [keyToksAll, ltIs]; exact lex_irrefl _
  | [], _ :: _ => by
    simp only [List.map_nil, List.map_cons, keyToksAll, ltIs]
    rw [lex_cons]; rfl
  | _ :: _, [] => by
    simp only [List.map_nil, List.map_cons, keyToksAll, ltIs]
    rw [lex_cons]; rfl
  | j :: js, i :: is => by
    have al : alike (.int j) (.int i) = true := by simp [alike]
    rw [List.map_cons, List.map_cons]
    by_cases h : j = i
    · subst h
      rw [dataLt_all_yes al (by simp [PyData.eqv]), lt_ints js is]
      simp [ltIs]
    · rw [dataLt_all_no al (by simp [PyData.eqv, h]), dataLt_int]
      simp [ltIs, h]
theorem lt_pair (j i : Int) (js is : List Int) : dataLt (.tuple [.int j, .tuple (js.map .int)]) (.tuple [.int i, .tuple (is.map .int)]) = ltIs (j :: js) (i :: is) := by
  have al : alike (.int j) (.int i) = true := by simp [alike]
  rw [dataLt_tuple]
  by_cases h : j = i
  · subst h
    rw [dataLt_all_yes al (by simp [PyData.eqv])]
    have ali : ∀ a b : List Int, alikeAll (a.map .int) (b.map .int) = true := fun a => by
      induction a with
      | nil => intro b; simp [alikeAll]
      | cons x xs ih =>
        intro b
        cases b with
        | nil => simp [alikeAll]
        | cons y ys => simp [alikeAll, alike, ih ys]
    have al2 : alike (.tuple (js.map .int)) (.tuple (is.map .int)) = true := by simp [alike, ali]
    have key : dataLt (.tuple (js.map .int)) (.tuple (is.map .int)) = ltIs js is := by rw [dataLt_tuple, lt_ints]
    have e : ltIs (j :: js) (j :: is) = ltIs js is := by simp [ltIs]
    rw [e]
    cases he : PyData.eqv (.tuple (js.map .int)) (.tuple (is.map .int)) with
    | true =>
      rw [dataLt_all_yes al2 he, ← key]
      unfold dataLt
      rw [(toks_eqv _ _ al2).1 he, lex_irrefl, lex_irrefl]
    | false => rw [dataLt_all_no al2 he, key]
  · rw [dataLt_all_no al (by simp [PyData.eqv, h]), dataLt_int]
    simp [ltIs, h]
/-- min of two such tuples, by values -/
def rMinP (K : PySem.W.Frag) : List L2.V → L2.Hp → L2.VK → Prop := fun vs H Q => ∃ (v u : L2.V) (i j : Int) (is js : List Int), vs = [v, u] ∧ L2.Dp K H v (.tuple [.int i, .tuple (is.map .int)]) ∧ L2.Dp K H u (.tuple [.int j, .tuple (js.map .int)]) ∧ Q (if ltIs (j :: js) (i :: is) then u else v) H
theorem depth_ints (l : List Int) : PyData.depthAll (l.map .int) ≤ 2 := by
  induction l with
  | nil => simp [PyData.depthAll]
  | cons x xs ih => simp only [List.map_cons, PyData.depthAll, PyData.depth]; omega
theorem alike_ints : ∀ a b : List Int, alikeAll (a.map .int) (b.map .int) = true
  | [], b => by simp [alikeAll]
  | x :: xs, [] => by simp [alikeAll]
  | x :: xs, y :: ys => by simp [alikeAll, alike, alike_ints xs ys]
theorem call_minP {X : L2.Cx} (hc : X.calm = true) (hu : X.A.units + 64 < cLine) : L2.CallR X (.builtin "min") (rMinP X.K) := by
  intro pins s sg H vs us Q I r h
  obtain ⟨v, u, i, j, is, js, rfl, d1, d2, q⟩ := h
  obtain ⟨u1, u2, rfl, r1, r2⟩ := L2.vals2 r
  obtain ⟨a1, q1⟩ := L2.Dp.reads I _ _ _ d1 r1
  obtain ⟨a2, q2⟩ := L2.Dp.reads I _ _ _ d2 r2
  have al : ∀ (a b : Int) (l m : List Int), alike (.tuple [.int a, .tuple (l.map .int)]) (.tuple [.int b, .tuple (m.map .int)]) = true := fun a b l m => by simp [alike, alikeAll, alike_ints]
  refine min2_data (I.ok.hd hc) q1 q2 ⟨fun x hx y hy => ?_, fun x hx => ?_⟩ ?_ fun h' tk k => ?_
  · simp only [List.mem_cons, List.not_mem_nil, or_false] at hx hy
    rcases hx with rfl | rfl <;> rcases hy with rfl | rfl <;> exact al _ _ _ _
  · simp only [List.mem_cons, List.not_mem_nil, or_false] at hx
    rcases hx with rfl | rfl <;> exact fun z => by cases z
  · have e1 := depth_ints is
    have e2 := depth_ints js
    simp only [PyData.depthAll, PyData.depth]
    omega
  · rw [lt_pair]
    by_cases hl : ltIs (j :: js) (i :: is) = true
    · rw [if_pos hl] at q ⊢
      exact ⟨_, H, I.kept k, r2, q⟩
    · rw [if_neg hl] at q ⊢
      exact ⟨_, H, I.kept k, r1, q⟩
/-! ### sum of a tuple of ints -/
open PySem PySem.Spec PyProof.Rows L2
section
variable {prog : Program} {w : World} {A : Around} {E : Value → Shared → Prop} {s : Shared} {l : Addr}
theorem sum_intTupG {xs : Array (Int × Tok)} {Q : Value → Shared → Prop} (hh : A.handled = none) (hl : s.heap.IsTuple l (intItems xs))
    (h : ∀ h' tk t', (∀ b o, s.heap.get? b = some o → h'.get? b = some o) → Q (.int (preSum (numAt xs) xs.size) t') { s with heap := h', toks := tk }) :
    wpAny (model prog w) A (call (.builtin "sum") [.ref l]) Q E s := by
  have hlt : l < s.heap.objs.size := by obtain ⟨_, e, _⟩ := hl; exact Heap.lt_size e
  refine call_sum_walkG (wpAny_pyIter_tuple hl ?_)
  refine ⟨_, [s.heap.objs.size, l], [s.heap.objs.size], _, _, _, numAt xs, rfl, Walks.tuple (A := A.in1) hh _ l (Nat.ne_of_lt hlt) (intItems xs), ⟨⟨_, Heap.get?_push_size _ rfl, rfl, rfl⟩, hl.push _⟩, fun b hb => ?_, (fun _ _ => intItems_at), fun h' tk t' hk => ?_⟩
  · show b < (s.heap.push _).objs.size
    rw [Heap.size_push]
    rcases List.mem_cons.mp hb with rfl | hb
    · exact Nat.lt_succ_self _
    · rcases List.mem_cons.mp hb with rfl | hb
      · exact Nat.lt_succ_of_lt hlt
      · cases hb
  · have := h h' tk t' fun b o e => by
      refine hk b o (fun hm => ?_) (Heap.get?_push_of_some _ e)
      rw [List.mem_singleton.mp hm] at e
      exact absurd (Heap.lt_size e) (Nat.lt_irrefl _)
    simpa [intItems] using this
end
def rSumT (K : PySem.W.Frag) : List V → Hp → VK → Prop := fun vs H Q => ∃ (a : Addr) (ns : List Int), vs = [V.ref a] ∧ SqT K H a (ns.map V.int) ∧ Q (.int ns.sum) H
theorem cr_sumT {X : Cx} (hc : X.calm = true) : CallR X (.builtin "sum") (rSumT X.K) := by
  intro pins s σ H vs us Q I r h
  obtain ⟨a, ns, rfl, hs, q⟩ := h
  obtain ⟨its, rv, hl, _⟩ := I.tuple hs
  rw [Vals.ref1 r]
  have hi := rv.ints
  obtain ⟨xs, e⟩ := hi.allInts.items
  have hn : numsOf (intItems xs).toList = ns := by rw [← e]; exact hi.numsOf
  rw [nums_intItems] at hn
  rw [e] at hl
  refine sum_intTupG (I.ok.hd hc) hl fun h' tk t' hk => ?_
  rw [preSum_eq, List.take_of_length_le (by simp), hn]
  exact ⟨.int _, H, I.kept hk, ⟨_, rfl⟩, q⟩
/-! ### max of a list of tuples of ints -/
theorem ltIs_trans : ∀ a b c : List Int, ltIs a b = true → ltIs b c = true → ltIs a c = true
  | [], [], _, h, _ => by simp [ltIs] at h
  | [], _ :: _, [], _, h => by simp [ltIs] at h
  | [], _ :: _, _ :: _, _, _ => by simp [ltIs]
  | _ :: _, [], _, h, _ => by simp [ltIs] at h
  | _ :: _, _ :: _, [], _, h => by simp [ltIs] at h
  | i :: a, j :: b, k :: c, h, h' => by
    simp only [ltIs] at h h' ⊢
    by_cases h1 : i = j
    · subst h1
      rw [if_pos rfl] at h
      by_cases h2 : i = k
      · subst h2
        rw [if_pos rfl] at h' ⊢
        exact ltIs_trans a b c h h'
      · rw [if_neg h2] at h' ⊢
        exact h'
    · rw [if_neg h1] at h
      have h := of_decide_eq_true h
      by_cases h2 : j = k
      · subst h2
        rw [if_neg h1]
        exact decide_eq_true h
      · rw [if_neg h2] at h'
        have h' := of_decide_eq_true h'
        rw [if_neg (by omega)]
        exact decide_eq_true (by omega)
theorem ltIs_neg : ∀ r y a : List Int, ltIs r y = true → ltIs a y = false → ltIs r a = true
  | [], [], _, h, _ => by simp [ltIs] at h
  | [], _ :: _, [], _, h => by simp [ltIs] at h
  | [], _ :: _, _ :: _, _, _ => by simp [ltIs]
  | _ :: _, [], _, h, _ => by simp [ltIs] at h
  | _ :: _, _ :: _, [], _, h => by simp [ltIs] at h
  | i :: r, j :: y, k :: a, h, h' => by
    simp only [ltIs] at h h' ⊢
    by_cases h1 : i = j
    · subst h1
      rw [if_pos rfl] at h
      by_cases h2 : k = i
      · subst h2
        rw [if_pos rfl] at h' ⊢
        exact ltIs_neg r y a h h'
      · rw [if_neg h2] at h'
        have h' := of_decide_eq_false h'
        rw [if_neg (fun z => h2 z.symm)]
        exact decide_eq_true (by omega)
    · rw [if_neg h1] at h
      have h := of_decide_eq_true h
      by_cases h2 : k = j
      · subst h2
        rw [if_neg h1]
        exact decide_eq_true h
      · rw [if_neg h2] at h'
        have h' := of_decide_eq_false h'
        rw [if_neg (by omega)]
        exact decide_eq_true (by omega)
def mxI (p : List Int) (ps : List (List Int)) : List Int := ps.foldl (fun a y => if ltIs a y = true then y else a) p
theorem ltIs_irrefl : ∀ a : List Int, ltIs a a = false
  | [] => rfl
  | i :: a => by simp only [ltIs, if_true]; exact ltIs_irrefl a
theorem mxI_top : ∀ (ps : List (List Int)) (p : List Int), ∀ y ∈ p :: ps, ltIs (mxI p ps) y = false
  | [], p, y, h => by
    rcases List.mem_cons.mp h with rfl | h
    · exact ltIs_irrefl y
    · cases h
  | q :: ps, p, y, h => by
    have e : mxI p (q :: ps) = mxI (if ltIs p q = true then q else p) ps := rfl
    rw [e]
    have ih := mxI_top ps (if ltIs p q = true then q else p)
    by_cases hl : ltIs p q = true
    · rw [if_pos hl] at ih ⊢
      rcases List.mem_cons.mp h with rfl | h
      · cases hz : ltIs (mxI q ps) y with
        | false => rfl
        | true => exact (Bool.eq_false_iff.mp (ih q List.mem_cons_self) (ltIs_trans _ _ _ hz hl)).elim
      · exact ih y h
    · rw [if_neg hl] at ih ⊢
      have hl : ltIs p q = false := Bool.eq_false_iff.mpr hl
      rcases List.mem_cons.mp h with rfl | h
      · exact ih y List.mem_cons_self
      · rcases List.mem_cons.mp h with rfl | h
        · cases hz : ltIs (mxI p ps) y with
          | false => rfl
          | true => exact (Bool.eq_false_iff.mp (ih p List.mem_cons_self) (ltIs_neg _ _ _ hz hl)).elim
        · exact ih y (List.mem_cons_of_mem _ h)
abbrev tupD (l : List Int) : PyData := .tuple (l.map .int)
theorem maxD_tups : ∀ (ps : List (List Int)) (p : List Int), maxD (tupD p) (ps.map tupD) = tupD (mxI p ps)
  | [], p => rfl
  | q :: ps, p => by
    have key : dataLt (tupD p) (tupD q) = ltIs p q := by rw [dataLt_tuple, lt_ints]
    have e : maxD (tupD p) ((q :: ps).map tupD) = maxD (if dataLt (tupD p) (tupD q) = true then tupD q else tupD p) (ps.map tupD) := rfl
    have e2 : mxI p (q :: ps) = mxI (if ltIs p q = true then q else p) ps := rfl
    rw [e, key, e2]
    split
    · exact maxD_tups ps q
    · exact maxD_tups ps p
theorem tupD_inj {a b : List Int} (h : tupD a = tupD b) : a = b := by
  have h : a.map PyData.int = b.map PyData.int := PyData.tuple.inj h
  exact (List.map_inj_right (fun x y z => by cases z; rfl)).mp h
section
variable {prog : Program} {w : World} {A : Around} {E : Value → Shared → Prop} {s : Shared}
theorem max_list_ix {l : Addr} {vs : Array Value} {x : PyData} {xs : List PyData} {as : List Addr} {Q : Value → Shared → Prop} (hh : A.handled = none) (hl : s.heap.IsList l vs) (hr : ReadsAll s.heap vs.toList (x :: xs) as) (ha : AlikeAll (x :: xs)) (hu : A.units + 1 + PyData.depthAll (x :: xs) < cLine)
    (h : ∀ (i : Nat) v h' tk, vs[i]? = some v → (x :: xs).getD i .none = maxD x xs → (∀ b o, s.heap.get? b = some o → h'.get? b = some o) → Q v { s with heap := h', toks := tk }) :
    wpAny (model prog w) A (call (.builtin "max") [.ref l]) Q E s := by
  have hn : vs.size = xs.length + 1 := readsAll_len hr
  refine call_max_walkH (iter_listW (A := A.in1) hh hl fun s₂ e W st hfp hw hk => ?_)
  refine ⟨_, _, _, _, _, _, _, s.heap, _, rfl, W, st, hfp, by omega, hw, hk, cmpIn_gt (A := A.in1) hr ha (by show A.units + 1 + _ < _; exact hu), fun v s' hP m => ?_⟩
  obtain ⟨h', tk, rfl, hk'⟩ := moved_old e rfl m
  have e1 : vs.size - 1 = xs.length := by omega
  have e2 := (argBest_fold (fun a b => dataLt b a) PyData.none x xs xs.length (Nat.le_refl _)).2
  rw [List.take_length] at e2
  rw [e1] at hP
  exact h _ v h' tk hP e2 hk'
end
/-- max of such a list, by values -/
def rMaxP (K : PySem.W.Frag) : List V → Hp → VK → Prop := fun vs H Q => ∃ (a : Addr) (us : List V) (ps : List (List Int)), vs = [.ref a] ∧ SqL K H a us ∧ us.length = ps.length ∧ 0 < ps.length ∧ (∀ (i : Nat) u p, us[i]? = some u → ps[i]? = some p → L2.Dp K H u (tupD p)) ∧
  ∀ (i : Nat) u p, us[i]? = some u → ps[i]? = some p → (∀ y ∈ ps, ltIs p y = false) → Q u H
theorem depthAll_le {n : Nat} : ∀ {ds : List PyData}, (∀ d ∈ ds, d.depth ≤ n) → PyData.depthAll ds ≤ n + 1
  | [], _ => by simp [PyData.depthAll]
  | d :: ds, h => by
    have h1 := h d List.mem_cons_self
    have h2 := depthAll_le (n := n) (ds := ds) fun x hx => h x (List.mem_cons_of_mem _ hx)
    simp only [PyData.depthAll]
    omega
theorem reads_list {X : L2.Cx} {pins : List (Addr × Obj)} {sg : L2.St} {H : L2.Hp} {s : Shared} (I : L2.Inv X pins sg H s) : ∀ {us : List L2.V} {its : List Value} {ps : List (List Int)}, L2.Vals us its → us.length = ps.length →
    (∀ (i : Nat) u p, us[i]? = some u → ps[i]? = some p → L2.Dp X.K H u (tupD p)) → ∃ as, ReadsAll s.heap its (ps.map tupD) as
  | [], [], [], _, _, _ => ⟨_, .nil⟩
  | [], _, _ :: _, _, h, _ => by simp at h
  | _ :: _, _, [], _, h, _ => by simp at h
  | [], _ :: _, [], r, _, _ => by cases r
  | _ :: _, [], _ :: _, r, _, _ => by cases r
  | u :: us, v :: its, p :: ps, r, hl, hd => by
    cases r with
    | cons r1 r2 =>
      obtain ⟨a1, q1⟩ := L2.Dp.reads I _ _ _ (hd 0 u p rfl rfl) r1
      obtain ⟨a2, q2⟩ := reads_list I r2 (by simpa using hl) fun i u p h1 h2 => hd (i + 1) u p (by simpa using h1) (by simpa using h2)
      exact ⟨_, .cons q1 q2⟩
theorem cr_maxP {X : L2.Cx} (hc : X.calm = true) (hu : X.A.units + 64 < cLine) : L2.CallR X (.builtin "max") (rMaxP X.K) := by
  intro pins s sg H vs us Q I r h
  obtain ⟨a, ws, ps, rfl, hs, hl, hne, hd, q⟩ := h
  rw [Vals.ref1 r]
  obtain ⟨its, rv, hL, _⟩ := I.list hs
  obtain ⟨as, hr⟩ := reads_list I rv hl hd
  cases ps with
  | nil => simp at hne
  | cons p ps =>
    refine max_list_ix (x := tupD p) (xs := ps.map tupD) (I.ok.hd hc) hL.isList (by simpa using hr) ⟨fun x hx y hy => ?_, fun x hx z => ?_⟩ ?_ fun i v h' tk hi hm hk => ?_
    · rw [← List.map_cons] at hx hy
      obtain ⟨b, _, rfl⟩ := List.mem_map.mp hx
      obtain ⟨c, _, rfl⟩ := List.mem_map.mp hy
      simp [alike, alike_ints]
    · rw [← List.map_cons] at hx
      obtain ⟨b, _, rfl⟩ := List.mem_map.mp hx
      cases z
    · have := depthAll_le (n := 4) (ds := tupD p :: ps.map tupD) fun d hd => by
        rw [← List.map_cons] at hd
        obtain ⟨b, _, rfl⟩ := List.mem_map.mp hd
        have := depth_ints b
        simp only [PyData.depth]
        omega
      omega
    · have hi' : its[i]? = some v := by simpa using hi
      have hli : i < its.length := (List.getElem?_eq_some_iff.mp hi').1
      have hlw : its.length = ws.length := rv.length.symm
      obtain ⟨u, hu', ru⟩ : ∃ u, ws[i]? = some u ∧ L2.RelV u v := by
        obtain ⟨v', h1, h2⟩ := rv.get (List.getElem?_eq_getElem (by omega : i < ws.length))
        rw [hi'] at h1; cases h1
        exact ⟨_, List.getElem?_eq_getElem (by omega), h2⟩
      obtain ⟨m, hm'⟩ : ∃ m, (p :: ps)[i]? = some m := ⟨_, List.getElem?_eq_getElem (by omega)⟩
      have e1 : (tupD p :: ps.map tupD).getD i .none = tupD m := by
        rw [← List.map_cons, List.getD_eq_getElem?_getD, List.getElem?_map, hm']
        rfl
      rw [e1, maxD_tups] at hm
      refine ⟨u, H, I.kept hk, ru, q i u m hu' hm' ?_⟩
      rw [tupD_inj hm]
      exact mxI_top ps p
/-! ### tuple * 1 -/
theorem tuple_mul1 (l : Addr) (items : Array Value) (n : Nat) (dd : Option Addr) (sl : Array (Option Value)) (u : Tok) :
    Meets (Builtin.«tuple.__mul__» ⟨[.ref l, .int 1 u], []⟩) (fun _ R s => s.heap.get? l = some { cls := .type "tuple", dict := dd, data := .seq items n, slots := sl } ∧ R (.ok (.ret (Value.ref l))) s) :=
  .of_wp fun prog w A R s h => by
    obtain ⟨hp, g, d, tk, os⟩ := s
    obtain ⟨hl, h⟩ := h
    have f1 := AutoSeq1.idx_int
    have c1 : (items.isEmpty || (1 : Int) == 1) = true := by simp
    wp_walk using wpAny_loadPart' hl
    repeat (first
      | (refine wpAny_ite_false (decide_eq_false (by decide)) ?_; wp_walk using wpAny_loadPart' hl)
      | (refine wpAny_ite_true (decide_eq_true c1) ?_; wp_walk using wpAny_loadPart' hl))
    exact ⟨_, rfl, h⟩
def rRepT1 (K : PySem.W.Frag) : R2 := fun x y H Q => ∃ l xs, x = .ref l ∧ y = .int 1 ∧ SqT K H l xs ∧ Q (.ref l) H
theorem op_repT1 {X : Cx} : OpR X (binaryOp .Mult) (rRepT1 X.K) := by
  intro pins s σ H x y v u Q I rx ry h
  obtain ⟨l, xs, rfl, rfl, hT, q⟩ := h
  cases rx
  obtain ⟨t, rfl⟩ := ry
  obtain ⟨its, r, ⟨⟨cls, dd, data, sl⟩, ho, hc, n, hd⟩, hs⟩ := I.tuple hT
  simp only at hc hd
  subst hc hd
  refine wpAny_binaryOp_repeat_ref (T := "tuple") (U := "int") (by decide) ⟨_, ho, rfl⟩ (fun s' => typeIs_int s' 1 t) noFill_tuple_mul PySem.F.fills_int_mul PySem.F.slot_int_rmul repeat_tuple PySem.F.slot_int_index.lookup
    (call_meets PySem.F.slot_int_rmul (typeIs_int s 1 t) PySem.F.entry_int_rmul (PySem.F.args_int_rmul_2 _ _) (int_rmul_tuple 1 t l its.toArray n dd sl)
      ⟨ho, rfl, ⟨_, ho, rfl⟩, call_meets PySem.F.slot_tuple_mul ⟨_, ho, rfl⟩ PySem.F.entry_tuple_mul (PySem.F.args_tuple_mul_2 _ _) (tuple_mul1 l its.toArray n dd sl t) ⟨ho, ?_⟩⟩)
  exact ⟨.ref l, H, I, rfl, q⟩
end Den

/-! D1e: dicts whose keys are (nested) tuples: the heap's side. -/
namespace Den
open PySem PySem.Spec PyProof.Rows L2
theorem dct_ok {P : Program} {w : World} {H : Hp} {h : Heap} {hw : NK → Int} {a : Addr} {g : Obj} {es : List Ent} (q : DctAt hw a g es h) : ObjOk P w H h a (DctO hw a g es) := by
  refine ⟨q, ?_, fun h1 h2 q1 st => ?_⟩
  · obtain ⟨_, _, _, _, _, _, ho, _⟩ := q
    exact ⟨g, ho⟩
  · obtain ⟨z1, z2, ys, r, ents, ep, ho, rest⟩ := q1
    exact ⟨z1, z2, ys, r, ents, ep, st g ho, rest⟩
section
variable {X : Cx} {pins : List (Addr × Obj)} {sg : L2.St} {H : Hp} {s : Shared} {ph : Phi}
mutual
theorem key_is (I : Inv X pins sg H s) : ∀ (x : PV) (k : NK) (v : V) (u : Value), keyOf x = some k → RV X.K ph H x v → RelV v u → NestedIs s.heap k u
  | .non, k, v, u, e, r, q => by
    cases e
    unfold RV at r
    subst r
    cases (show u = Value.none from q)
    exact .none
  | .bl b, k, v, u, e, r, q => by
    cases e
    unfold RV at r
    subst r
    cases (show u = Value.bool b from q)
    exact .bool rfl
  | .int i, k, v, u, e, r, q => by
    cases e
    unfold RV at r
    subst r
    obtain ⟨t, rfl⟩ := (show ∃ t, u = Value.int i t from q)
    exact .int i t
  | .str x, k, v, u, e, r, q => by
    cases e
    unfold RV at r
    subst r
    obtain ⟨t, rfl⟩ := (show ∃ t, u = Value.str x t from q)
    exact .text x t
  | .tup xs, k, v, u, e, r, q => by
    simp only [keyOf] at e
    obtain ⟨ks, e1, rfl⟩ := Option.map_eq_some_iff.mp e
    unfold RV at r
    obtain ⟨a, vs, rfl, h1, h2⟩ := r
    cases (show u = Value.ref a from q)
    obtain ⟨its, rv, hp, _⟩ := I.tuple h1
    obtain ⟨o, ho, hc, n, hd⟩ := hp
    exact .tup ho hc hd (by simpa using keys_is I xs ks vs its e1 h2 rv)
  | .lst _, _, _, _, e, _, _ => by simp [keyOf] at e
  | .lck _, _, _, _, e, _, _ => by simp [keyOf] at e
  | .ref _, _, _, _, e, _, _ => by simp [keyOf] at e
  | .ty _, _, _, _, e, _, _ => by simp [keyOf] at e
  | .dct, _, _, _, e, _, _ => by simp [keyOf] at e
theorem keys_is (I : Inv X pins sg H s) : ∀ (xs : List PV) (ks : List NK) (vs : List V) (us : List Value), keysOf xs = some ks → RVs X.K ph H xs vs → Vals vs us → NestedAll s.heap ks us
  | [], ks, vs, us, e, r, q => by
    cases e
    unfold RVs at r
    subst r
    cases q
    exact .nil
  | x :: xs, ks, vs, us, e, r, q => by
    simp only [keysOf] at e
    obtain ⟨k, e1, e⟩ := Option.bind_eq_some_iff.mp e
    obtain ⟨ks', e2, rfl⟩ := Option.map_eq_some_iff.mp e
    obtain ⟨v, r', rfl, r1, r2⟩ := r.cons_inv
    cases q with
    | cons q1 q2 => exact .cons (key_is I x k v _ e1 r1 q1) (keys_is I xs ks' r' _ e2 r2 q2)
end
/-- at b stands a tuple that is the key k -/
def KeyAt (K : PySem.W.Frag) (H : Hp) (k : NK) (b : Addr) : Prop := k.depth ≤ 8 ∧ ∃ ph x, keyOf x = some k ∧ RV K ph H x (.ref b)
theorem KeyAt.is {k : NK} {b : Addr} (h : KeyAt X.K H k b) (I : Inv X pins sg H s) : (nestedKind X.prog X.w).is s.heap k b := by
  obtain ⟨h1, ph, x, e, r⟩ := h
  exact ⟨key_is I x k _ _ e r rfl, h1⟩
theorem paired_at {α β : Type} {R : α → β → Prop} : ∀ {xs : List α} {ys : List β}, Paired R xs ys → ∀ y ∈ ys, ∃ x ∈ xs, R x y
  | _, _, .nil, _, h => by cases h
  | _, _, .cons r t, y, h => by
    rcases List.mem_cons.mp h with rfl | h
    · exact ⟨_, List.mem_cons_self, r⟩
    · obtain ⟨x, hx, q⟩ := paired_at t y h
      exact ⟨x, List.mem_cons_of_mem _ hx, q⟩
/-- the dict at a, as the library has it -/
theorem dct_at {hw : NK → Int} {a : Addr} {g : Obj} {es : List Ent} (I : Inv X pins sg H s) (hX : hw = fun k => k.hash X.w) (e : H a = some (DctO hw a g es)) (hk : ∀ p ∈ es, KeyAt X.K H p.1 p.2.1) :
    es.length ≤ sizeLine ∧ (a == sysModules) = false ∧ ∃ xs, Paired EntR es xs ∧ s.heap.DictOfH (nestedKind X.prog X.w) a xs := by
  obtain ⟨⟨z1, z2, xs, r, ents, ep, ho, hE, hd, he, hn⟩, _, _⟩ := (show ObjOk X.prog X.w H s.heap a (DctO hw a g es) from I.hok a _ e)
  refine ⟨z1, z2, xs, r, g, ents, ep, ho, hE, hd, ?_, fun x hx => ?_, hn⟩
  · rw [he, hX]
    rfl
  · obtain ⟨p, hp, e1, e2, _⟩ := paired_at r x hx
    have := (hk p hp).is I
    rw [e1, e2] at this
    exact this
theorem dct_back {hw : NK → Int} {a : Addr} {es : List Ent} {xs : List (NK × Addr × Value)} {h : Heap} (hX : hw = fun k => k.hash X.w) (z1 : es.length ≤ sizeLine) (z2 : (a == sysModules) = false) (r : Paired EntR es xs) (d : h.DictOfH (nestedKind X.prog X.w) a xs) : ∃ g, DctAt hw a g es h := by
  obtain ⟨o, ents, ep, ho, hE, hd, he, _, hn⟩ := d
  refine ⟨o, z1, z2, xs, r, ents, ep, ho, hE, hd, ?_, hn⟩
  rw [he, hX]
  rfl
/-- the entry of a key -/
def getE : List Ent → NK → Option Ent
  | [], _ => none
  | p :: es, k => if p.1 = k then some p else getE es k
theorem getE_at {k : NK} : ∀ {es : List Ent} {xs : List (NK × Addr × Value)}, Paired EntR es xs →
    (∀ p, getE es k = some p → ∃ q, EntR p q ∧ atKey xs k = some q.2) ∧ (getE es k = none → atKey xs k = none)
  | _, _, .nil => ⟨fun i h => by simp [getE] at h, fun _ => rfl⟩
  | p :: es, q :: xs, .cons r t => by
    have ih := getE_at (k := k) t
    obtain ⟨e1, e2, e3⟩ := r
    unfold getE
    by_cases hk : p.1 = k
    · rw [if_pos hk]
      refine ⟨fun i h => ?_, fun h => by cases h⟩
      cases h
      refine ⟨q, ⟨e1, e2, e3⟩, ?_⟩
      unfold atKey
      rw [List.find?_cons, ← e1, decide_eq_true hk]
      rfl
    · rw [if_neg hk]
      have ea : atKey (q :: xs) k = atKey xs k := by
        unfold atKey
        rw [List.find?_cons, ← e1, decide_eq_false hk]
      rw [ea]
      exact ih
/-- an entry stored -/
def putE : List Ent → NK → Addr → V → List Ent
  | [], k, b, v => [(k, b, v)]
  | p :: es, k, b, v => if p.1 = k then (p.1, p.2.1, v) :: es else p :: putE es k b v
theorem storedH_cons {k : NK} {b : Addr} {u : Value} {q : NK × Addr × Value} {xs : List (NK × Addr × Value)} (h : q.1 ≠ k) : storedH (q :: xs) k b u = q :: storedH xs k b u := by
  have ea : atKey (q :: xs) k = atKey xs k := by
    unfold atKey
    rw [List.find?_cons, decide_eq_false h]
  have ep : putAt k u q = q := by unfold putAt; rw [if_neg h]
  unfold storedH
  rw [ea]
  split
  · rw [List.map_cons, ep]
  · rfl
theorem putE_at {k : NK} {b : Addr} {v : V} {u : Value} (rv : RelV v u) : ∀ {es : List Ent} {xs : List (NK × Addr × Value)}, Paired EntR es xs → (xs.map (·.1)).Nodup → Paired EntR (putE es k b v) (storedH xs k b u)
  | _, _, .nil, _ => .cons ⟨rfl, rfl, rv⟩ .nil
  | p :: es, q :: xs, .cons r t, hn => by
    rw [List.map_cons, List.nodup_cons] at hn
    obtain ⟨e1, e2, e3⟩ := r
    unfold putE
    by_cases hk : p.1 = k
    · rw [if_pos hk]
      have ea : atKey (q :: xs) k = some q.2 := by
        unfold atKey
        rw [List.find?_cons, ← e1, decide_eq_true hk]
        rfl
      rw [storedH_old ea, List.map_cons, map_putAt_of_not_mem xs k u (by rw [← hk, e1]; exact hn.1)]
      refine .cons ?_ t
      unfold putAt
      rw [if_pos (e1 ▸ hk)]
      exact ⟨e1, e2, rv⟩
    · rw [if_neg hk, storedH_cons (fun z => hk (e1.trans z))]
      exact .cons ⟨e1, e2, e3⟩ (putE_at rv t hn.2)
theorem putE_len : ∀ (es : List Ent) (k : NK) (b : Addr) (v : V), (putE es k b v).length ≤ es.length + 1
  | [], _, _, _ => by simp [putE]
  | p :: es, k, b, v => by
    unfold putE
    split
    · simp
    · have := putE_len es k b v
      simp only [List.length_cons]
      omega
/-! ### the operations -/
variable {hw : NK → Int}
def rDG (K : PySem.W.Frag) (hw : NK → Int) (x y : V) (H : Hp) (R : Addr → List Ent → NK → Addr → Prop) : Prop :=
  ∃ a g es k b, x = .ref a ∧ y = .ref b ∧ H a = some (DctO hw a g es) ∧ (∀ p ∈ es, KeyAt K H p.1 p.2.1) ∧ KeyAt K H k b ∧ R a es k b
def rDIx (K : PySem.W.Frag) (hw : NK → Int) : R2 := fun x y H Q => rDG K hw x y H fun _ es k _ => ∃ p, getE es k = some p ∧ Q p.2.2 H
def rDIn (K : PySem.W.Frag) (hw : NK → Int) (neg : Bool) : R2 := fun y x H Q => rDG K hw x y H fun _ es k _ => Q (.bl (if neg then !(getE es k).isSome else (getE es k).isSome)) H
theorem in_room (hu : X.A.units + 64 < cLine) : (nestedKind X.prog X.w).room X.A.in1 := by
  show X.A.units + 1 + 8 < cLine
  omega
theorem x_getItem (hu : X.A.units + 64 < cLine) (hX : hw = fun k => k.hash X.w) {x y : V} {u t : Value} {Q : VK} (I : Inv X pins sg H s) (rx : RelV x u) (ry : RelV y t) (g : rDIx X.K hw x y H Q) :
    s.TypeIs u "dict" ∧ wpAny (model X.prog X.w) X.A (getItem u t) (EP X pins sg Q) X.xe s := by
  obtain ⟨a, g, es, k, b, rfl, rfl, e, hk, hb, p, hp, q⟩ := g
  cases (show u = Value.ref a from rx)
  cases (show t = Value.ref b from ry)
  obtain ⟨z1, z2, xs, r, d⟩ := dct_at I hX e hk
  obtain ⟨c, ⟨_, _, h2⟩, h3⟩ := (getE_at r).1 p hp
  exact ⟨d.typeIs, wpAny_getItem_heap (in_room hu) (hb.is I) d h3 ⟨p.2.2, H, I.tok _, h2, q⟩⟩
theorem ix_dct (hu : X.A.units + 64 < cLine) (hX : hw = fun k => k.hash X.w) : IxR X (rDIx X.K hw) := by
  intro va sl pins s sg H x y v u Q I rx ry g hs
  obtain ⟨hT, hG⟩ := x_getItem hu hX I rx ry g
  unfold subscriptTail
  refine wpAny_bind ?_
  rw [getitemInPython_of_ne hT.not_modules]
  refine wpAny_bind (wpAny_specialOf hT PySem.F.slot_dict_getitem.lookup ?_)
  have last : wpAny (model X.prog X.w) X.A (subscripted sl false v u) (fun c s3 => wpAny (model X.prog X.w) X.A (letTemporaryGo va v c >>= fun _ => pure c) (EP X pins sg Q) X.xe s3) X.xe s := by
    rw [hs]
    exact wpAny_operating (wpAny_mono hG (fun c s3 h3 => wpAny_bind (wpAny_letTemporaryGo (wpAny_pure h3))) fun _ _ z => z)
  first
    | exact wpAny_pure (wpAny_bind last)
    | exact wpAny_bind (wpAny_pure (wpAny_bind last))
    | exact wpAny_bind last
theorem some_at {k : NK} {es : List Ent} {xs : List (NK × Addr × Value)} (r : Paired EntR es xs) : (atKey xs k).isSome = (getE es k).isSome := by
  cases h : getE es k with
  | none => rw [(getE_at r).2 h]; rfl
  | some p =>
    obtain ⟨c, _, h3⟩ := (getE_at r).1 p h
    rw [h3]; rfl
theorem op_inD (hu : X.A.units + 64 < cLine) (hX : hw = fun k => k.hash X.w) : OpR X (compareOp .In) (rDIn X.K hw false) := by
  intro pins s sg H y x t u Q I ry rx g
  obtain ⟨a, g, es, k, b, rfl, rfl, e, hk, hb, q⟩ := g
  cases (show u = Value.ref a from rx)
  cases (show t = Value.ref b from ry)
  obtain ⟨z1, z2, xs, r, d⟩ := dct_at I hX e hk
  refine wpAny_in_heap (in_room hu) (hb.is I) z2 d ⟨.bl (atKey xs k).isSome, H, I.tok _, rfl, ?_⟩
  rw [some_at r]
  exact q
theorem op_notInD (hu : X.A.units + 64 < cLine) (hX : hw = fun k => k.hash X.w) : OpR X (compareOp .NotIn) (rDIn X.K hw true) := by
  intro pins s sg H y x t u Q I ry rx g
  obtain ⟨a, g, es, k, b, rfl, rfl, e, hk, hb, q⟩ := g
  cases (show u = Value.ref a from rx)
  cases (show t = Value.ref b from ry)
  obtain ⟨z1, z2, xs, r, d⟩ := dct_at I hX e hk
  show wpAny _ _ (do let c ← contains (Value.ref a) (Value.ref b); return Value.bool (!c)) _ _ s
  refine wpAny_bind (wpAny_contains_heap (in_room hu) (hb.is I) z2 d (wpAny_pure ⟨.bl (!(atKey xs k).isSome), H, I.tok _, rfl, ?_⟩))
  rw [some_at r]
  exact q
/-! ### what is stored -/
theorem dct_write {a : Addr} {g : Obj} {es es' : List Ent} {xs' : List (NK × Addr × Value)} {h' : Heap} {t : Nat} (hX : hw = fun k => k.hash X.w) (I : Inv X pins sg H s) (e : H a = some (DctO hw a g es)) (z1 : es'.length ≤ sizeLine) (z2 : (a == sysModules) = false)
    (r : Paired EntR es' xs') (d : h'.DictOfH (nestedKind X.prog X.w) a xs') (hs : Heap.SameBut a s.heap h') : ∃ g', Inv X pins sg (upd H a (DctO hw a g' es')) { s with heap := h', toks := t } := by
  obtain ⟨g', q⟩ := dct_back hX z1 z2 r d
  refine ⟨g', d_write I (by rw [e]; exact True.intro) hs ?_ (dct_ok q)⟩
  obtain ⟨_, _, _, _, _, _, ho, _⟩ := q
  exact ⟨_, ho⟩
def rSetD (K : PySem.W.Frag) (hw : NK → Int) : V → V → V → Hp → (Hp → Prop) → Prop := fun o i v H Q => rDG K hw o i H fun a es k b => es.length < sizeLine ∧ ∀ g', Q (upd H a (DctO hw a g' (putE es k b v)))
theorem set_dct (hu : X.A.units + 64 < cLine) (hX : hw = fun k => k.hash X.w) : PSet X (rSetD X.K hw) := by
  intro pins s sg H o i v ov iv u Q I ro ri rv h
  obtain ⟨a, g, es, k, b, rfl, rfl, e, hk, hb, hl, q⟩ := h
  cases (show ov = Value.ref a from ro)
  cases (show iv = Value.ref b from ri)
  obtain ⟨z1, z2, xs, r, d⟩ := dct_at I hX e hk
  refine wpAny_setItem_heap (hsz := by rw [← Paired.length r]; exact z1) (in_room hu) (hb.is I) d fun h' d' hs => ?_
  have hn : (xs.map (·.1)).Nodup := by obtain ⟨_, _, _, _, _, _, _, _, hn⟩ := d; exact hn
  obtain ⟨g', I'⟩ := dct_write (t := s.toks + (nestedKind X.prog X.w).draws k) hX I e (by have := putE_len es k b v; omega) z2 (putE_at rv r hn) d' hs
  exact ⟨_, I', q g'⟩
def tDNew (hw : NK → Int) : TE := fun _ H Q => ∀ p g, H p = none → Q (.ref p) (upd H p (DctO hw p g []))
theorem pe_dnewD {pos : Pos} : PE X (.Dict [] [] pos) (tDNew hw) := ⟨fun pins s σ H Q I h => by
  have hz : (s.heap.objs.size == sysModules) = false := beq_eq_false_iff_ne.mpr (Ne.symm (Nat.ne_of_lt I.big))
  have q : DctAt hw s.heap.objs.size { cls := .type "dict", data := .dict #[] } [] (s.heap.push { cls := .type "dict", data := .dict #[] }) :=
    ⟨Nat.zero_le _, hz, [], .nil, #[], 0, Heap.get?_push_size _ rfl, ⟨rfl, rfl, rfl⟩, rfl, rfl, List.nodup_nil⟩
  exact wpAny_Dict_empty ⟨.ref s.heap.objs.size, _, I.laid (a := s.heap.objs.size) (t' := s.toks) (fun _ _ q => Heap.get?_push_of_some _ q) (Nat.le_refl _) (dct_ok q), rfl, h _ _ (I.hok.fresh (Nat.le_refl _))⟩⟩
/-! ### get, setdefault -/
def rDGet (K : PySem.W.Frag) (hw : NK → Int) : V → List V → Hp → VK → Prop := fun x vs H Q => ∃ y d, vs = [y, d] ∧ rDG K hw x y H fun _ es k _ => Q (((getE es k).map (·.2.2)).getD d) H
def rDSet (K : PySem.W.Frag) (hw : NK → Int) : V → List V → Hp → VK → Prop := fun x vs H Q => ∃ y d, vs = [y, d] ∧ rDG K hw x y H fun a es k b =>
  (∀ p, getE es k = some p → Q p.2.2 H) ∧ (getE es k = none → es.length < sizeLine ∧ ∀ g', Q d (upd H a (DctO hw a g' (putE es k b d))))
theorem mt_dget (hu : X.A.units + 64 < cLine) (hX : hw = fun k => k.hash X.w) : MtR X "dict.get" (rDGet X.K hw) := by
  intro pins s sg H x vs v us Q I rx rv h
  obtain ⟨y, d, rfl, a, g, es, k, b, rfl, rfl, e, hk, hb, q⟩ := h
  obtain ⟨u1, u2, rfl, r1, r2⟩ := L2.vals2 rv
  cases (show v = Value.ref a from rx)
  cases (show u1 = Value.ref b from r1)
  obtain ⟨z1, z2, xs, r, dd⟩ := dct_at I hX e hk
  refine call_meetsIn PySem.F.slot_dict_get dd.typeIs PySem.F.entry_dict_get (PySem.F.args_dict_get_3 _ _ _) (meetsH_dict_get_default (nestedKind X.prog X.w) a b z2 u2) ⟨in_room hu, k, xs, hb.is I, dd, _, H, I.tok _, ?_, q⟩
  cases hp : getE es k with
  | none => rw [(getE_at r).2 hp]; exact r2
  | some p =>
    obtain ⟨c, ⟨_, _, h2⟩, h3⟩ := (getE_at r).1 p hp
    rw [h3]; exact h2
theorem mt_dset (hu : X.A.units + 64 < cLine) (hX : hw = fun k => k.hash X.w) : MtR X "dict.setdefault" (rDSet X.K hw) := by
  intro pins s sg H x vs v us Q I rx rv h
  obtain ⟨y, d, rfl, a, g, es, k, b, rfl, rfl, e, hk, hb, q1, q2⟩ := h
  obtain ⟨u1, u2, rfl, r1, r2⟩ := L2.vals2 rv
  cases (show v = Value.ref a from rx)
  cases (show u1 = Value.ref b from r1)
  obtain ⟨z1, z2, xs, r, dd⟩ := dct_at I hX e hk
  have hsz : xs.length ≤ sizeLine := by rw [← Paired.length r]; exact z1
  refine call_setdefault_heap (hsz := hsz) (in_room hu) (hb.is I) z2 dd (fun p hp => ?_) fun hno h' d' hs => ?_
  · cases hq : getE es k with
    | none => rw [(getE_at r).2 hq] at hp; cases hp
    | some p' =>
      obtain ⟨c, ⟨_, _, h2⟩, h3⟩ := (getE_at r).1 p' hq
      rw [hp] at h3; cases h3
      exact ⟨_, H, I.tok _, h2, q1 p' hq⟩
  · have hn : (xs.map (·.1)).Nodup := by obtain ⟨_, _, _, _, _, _, _, _, hn⟩ := dd; exact hn
    have hq : getE es k = none := by
      cases hq : getE es k with
      | none => rfl
      | some p' =>
        obtain ⟨c, _, h3⟩ := (getE_at r).1 p' hq
        rw [hno] at h3; cases h3
    obtain ⟨hl, q2⟩ := q2 hq
    obtain ⟨g', I'⟩ := dct_write (t := s.toks + (nestedKind X.prog X.w).draws k) hX I e (by have := putE_len es k b d; omega) z2 (putE_at r2 r hn) d' hs
    exact ⟨_, _, I', r2, q2 g'⟩
/-- a dict's method, called with arguments -/
def tDM (hw : NK → Int) (r : V → List V → Hp → VK → Prop) (to : TE) (t : TA) : TE := fun σ H Q => to σ H fun x H1 => (∃ a g es, x = .ref a ∧ H1 a = some (DctO hw a g es)) ∧ t σ H1 fun xs H2 => r x xs H2 Q
theorem pe_dm {o e : Expr} {es : List Expr} {to : TE} {t : TA} {name : Str} {apos cpos : Pos} {id : String} {r : V → List V → Hp → VK → Prop} (slot : Slot "dict" name id) (hty : typeOf (.builtin id) = pure (.type "method_descriptor")) (hm : MtR X id r) (ho : PE X o to) (ha : PA X (e :: es) t)
    (hbase : attributeBase o name X.env (eval o X.env) = eval o X.env)
    (hfew : ((backTo cpos (starEach (e :: es) X.env)).all (fun x => !x.1) && (backToKw cpos (keywordEach [] X.env)).all (fun x => x.1.isSome)
      && decide ((e :: es).length + ([] : List Keyword).length + (if ([] : List Keyword).isEmpty then 0 else 1) < 30)) = true)
    (hline : (apos.endLine == cpos.line) = true) (hs : starEach (e :: es) X.env = (false, eval e X.env) :: starEach es X.env) (hplain : (backTo cpos (starEach es X.env)).any (·.1) = false) :
    PE X (.Call (.Attribute o name apos) (e :: es) [] cpos) (tDM hw r to t) := by
  refine ⟨fun pins s σ H Q I h => ?_⟩
  refine wpAny_Call_method_late hbase hfew hline rfl (thn (ho.run pins s σ H _ I h) fun v s1 ⟨x, H1, I1, r1, ⟨a, g, hs', ex, hH⟩, q1⟩ => ?_)
  subst ex
  cases (show v = Value.ref a from r1)
  obtain ⟨⟨z1, z2, xs, _, ents, ep, hg, hE, hd, _⟩, _, _⟩ := (show ObjOk X.prog X.w H1 s1.heap a (DctO hw a g hs') from I1.hok a _ hH)
  refine ⟨"dict", id, PySem.F.plainAttrs_dict, slot, hty, ⟨g, hg, hE.1⟩, fun b q => ?_, ?_⟩
  · cases q
    exact ⟨g, hg, hE.2.1⟩
  have hA := ha.run cpos pins s1 σ H1 _ I1 q1
  rw [hs] at hA ⊢
  refine Calls.callWith_builtin (by show (false || (backTo cpos (starEach es X.env)).any (·.1)) = false; rw [hplain] <;> rfl) (Calls.evalArgs_plain ?_)
  exact thn hA fun us s2 ⟨vs, H2, I2, r2, q2⟩ => hm pins s2 σ H2 _ vs _ us Q I2 r1 r2 q2
/-! ### its keys walked -/
def ItD (hw : NK → Int) (d : Addr) (g : Obj) (n : Nat) : It :=
  ⟨fun i H => ∃ es, H d = some (DctO hw d g es) ∧ es.length = n ∧ i < n, fun i H x H' => H' = H ∧ ∀ es, H d = some (DctO hw d g es) → ∃ p, es[i]? = some p ∧ x = .ref p.2.1, fun i H => ∃ es, H d = some (DctO hw d g es) ∧ es.length = n ∧ n ≤ i⟩
theorem dct_frz {d : Addr} {g : Obj} {es : List Ent} (I : Inv X pins sg H s) (e : H d = some (DctO hw d g es)) :
    (d == sysModules) = false ∧ s.heap.get? d = some g ∧ g.ExactDict ∧ ∃ ents ep, g.data = .dict ents ep ∧ ents.size = es.length ∧ ∀ (i : Nat) p, es[i]? = some p → ∃ en, ents[i]? = some en ∧ en.key = .ref p.2.1 := by
  obtain ⟨⟨z1, z2, xs, r, ents, ep, ho, hE, hd, he, hn⟩, _, _⟩ := (show ObjOk X.prog X.w H s.heap d (DctO hw d g es) from I.hok d _ e)
  have hl : ents.size = xs.length := by
    have := congrArg List.length he
    simpa using this
  refine ⟨z2, ho, hE, ents, ep, hd, hl.trans (Paired.length r).symm, fun i p hp => ?_⟩
  obtain ⟨q, hq, _, e2, _⟩ := paired_get r hp
  refine ⟨⟨hw q.1, .ref q.2.1, q.2.2⟩, ?_, ?_⟩
  · rw [← Array.getElem?_toList, he, List.getElem?_map, hq]
    rfl
  · show Value.ref q.2.1 = _
    rw [e2]
theorem turn_dct {P : Program} {w : World} {K : PySem.W.Frag} {tg : Expr} {d : Addr} {g : Obj} {n : Nat} {ents : Array DictEntry} {ep : Nat} (it : Addr) (hod : g.data = .dict ents ep) : Turn P w K tg (ItD hw d g n) [it] it (fun i h => h.IsKeyIter it d i n ep) where
  mem := by simp
  obj := fun i h st b hb => by
    have e : b = it := by simpa using hb
    subst e
    obtain ⟨oi, e, c, dd⟩ := st
    exact ⟨oi, e, fun v z => by rw [dd] at z; cases z⟩
  keep := fun i h h' st k => st.at fun oi e => k it (by simp) oi e
  item := by
    intro X hP hw' hK hc i pins s σ H E I hf st hg
    subst hP hw' hK
    obtain ⟨es, hd, hn, hi⟩ := hg
    obtain ⟨f0, f1, f2, f3, f4, f5⟩ := hf it (by simp)
    obtain ⟨hs, hgd, hx, es', ep', hdt, hsz, ent⟩ := dct_frz I hd
    obtain ⟨rfl, rfl⟩ := dict_ep hod hdt
    obtain ⟨p, hp⟩ : ∃ p, es[i]? = some p := ⟨es[i], List.getElem?_eq_getElem (hn ▸ hi)⟩
    obtain ⟨en, hen, hkey⟩ := ent i p hp
    refine next_key_item st hgd hdt (hsz.trans hn) hen fun h' st' sb => ?_
    have I1 : Inv X pins σ H { s with heap := h' } := I.turned (t' := s.toks) (fun b ob hb e => (sb.2 b hb).trans e) f0 f1 f3 f4 f5
    obtain ⟨oi, e, c, dd⟩ := id st'
    refine ⟨en.key, rfl, go_of (s := { s with heap := h' }) e c dd (by decide) ⟨.ref p.2.1, H, I1, hkey, ⟨rfl, fun es2 hd2 => ?_⟩, st', fun b hb => (hf b hb).1⟩⟩
    obtain ⟨_, _, _, es3, ep3, hdt3, hsz3, ent3⟩ := dct_frz I hd2
    obtain ⟨rfl, rfl⟩ := dict_ep hdt hdt3
    obtain ⟨p2, hp2⟩ : ∃ p, es2[i]? = some p := ⟨es2[i]'(by omega), List.getElem?_eq_getElem (by omega)⟩
    obtain ⟨en2, hen2, hkey2⟩ := ent3 i p2 hp2
    rw [hen] at hen2; cases hen2
    rw [hkey] at hkey2
    exact ⟨p2, hp2, congrArg V.ref (Value.ref.inj hkey2)⟩
  done := by
    intro X hP hw' hK hc i pins s σ H E I hf st hg
    subst hP hw' hK
    obtain ⟨es, hd, hn, hi⟩ := hg
    obtain ⟨f0, f1, f2, f3, f4, f5⟩ := hf it (by simp)
    obtain ⟨hs, hgd, hx, es', ep', hdt, hsz, ent⟩ := dct_frz I hd
    obtain ⟨rfl, rfl⟩ := dict_ep hod hdt
    exact next_key_end (I.ok.hd hc) st hgd hdt (hsz.trans hn) hi fun h' eb => ⟨rfl, I.turned (t' := s.toks) (fun b ob hb e => eb b ob hb e) f0 f1 f3 f4 f5⟩
  self := fun A i s Q E st h => by
    refine wpAny_pyIter_slot st.typeIs F.slot_dict_keyiterator_iter (wpAny_call_entry F.slot_dict_keyiterator_iter st.typeIs F.entry_dict_keyiterator_iter ?_ (F.args_dict_keyiterator_iter_1 _))
    show wpAny _ _ (ret (.ref it)) _ _ s
    exact wpAny_pure ⟨_, rfl, "dict_keyiterator", _, st.typeIs, F.slot_dict_keyiterator_next.lookup, h⟩
def iDct (hw : NK → Int) (tl : TE) : TI := fun sg H R => tl sg H fun x H1 => ∃ a g es, x = .ref a ∧ H1 a = some (DctO hw a g es) ∧ R (ItD hw a g es.length) H1
theorem pi_dct {tg l : Expr} {tl : TE} (hl : PE X l tl) : PI X tg l (iDct hw tl) := by
  refine ⟨fun pins s sg H R I h => ?_⟩
  refine thn (hl.run pins s sg H _ I h) fun v s1 ⟨x, H1, I1, r1, a, g, es, e, hH, q⟩ => ?_
  subst e
  obtain rfl : v = Value.ref a := r1
  obtain ⟨hs, hgd, hx, ents, ep, hdt, hsz, ent⟩ := dct_frz I1 hH
  have fp : ∀ b ∈ [s1.heap.objs.size], FpOk X pins H1 b := fun b hb => by
    rw [List.mem_singleton.mp hb]
    exact I1.fpOk (Nat.le_refl _) (I1.hok.fresh (Nat.le_refl _))
  refine wpAny_pyIter_dict_raw hs ⟨g, hgd, hx, hdt⟩ ⟨s1.heap.objs.size, [s1.heap.objs.size], _, _, H1, rfl, I1.kept (t' := s1.toks) fun b o e => Heap.get?_push_of_some _ e, turn_dct (n := es.length) _ hdt, ⟨_, Heap.get?_push_size _ rfl, rfl, by rw [hsz] <;> rfl⟩, fp, q⟩
end
end Den

/-! D1d: what stays while hidden lists are written. -/
namespace Den
open PySem PySem.Spec PyProof.Rows L2
/-- as Ext, but hidden lists may be written -/
structure ExtW (ph : Phi) (H : Hp) (ph' : Phi) (H' : Hp) : Prop where
  more : ∃ m, ph'.ad = ph.ad ++ m ∧ ∀ a ∈ m, H a = none
  hid : ∃ m, ph'.hd = m ++ ph.hd ∧ ∀ a ∈ m, H a = none
  keep : ∀ a o, H a = some o → ph.off a → H' a = some o
  dom : ∀ a o, H a = some o → ∃ o', H' a = some o'
def HidL (ph : Phi) (H : Hp) : Prop := ∀ a ∈ ph.hd, ∃ vs, H a = some (.lst vs)
section
variable {K : PySem.W.Frag} {ct : CTab} {ph ph' : Phi} {H H' : Hp} {S : Store}
theorem Ext.toW (e : Ext ph H ph' H') : ExtW ph H ph' H' := ⟨e.more, e.hid, fun a o h n => e.keep a o h n.1, e.dom⟩
theorem ExtW.refl : ExtW ph H ph H := Ext.refl.toW
theorem RelS.hidL (r : RelS K ct ph H S) : HidL ph H := fun a h => (r.hid a h).2
theorem ExtW.notin (e : ExtW ph H ph' H') {a : Addr} {o : HO} (h : H a = some o) (hn : ph.off a) : ph'.off a := by
  obtain ⟨m, e1, n1⟩ := e.more
  obtain ⟨m', e2, n2⟩ := e.hid
  refine ⟨fun hm => ?_, fun hm => ?_⟩
  · rw [e1] at hm
    rcases List.mem_append.mp hm with z | z
    · exact hn.1 z
    · rw [n1 a z] at h; cases h
  · rw [e2] at hm
    rcases List.mem_append.mp hm with z | z
    · rw [n2 a z] at h; cases h
    · exact hn.2 z
theorem ExtW.trans {p0 p1 p2 : Phi} {H0 H1 H2 : Hp} (a : ExtW p0 H0 p1 H1) (b : ExtW p1 H1 p2 H2) : ExtW p0 H0 p2 H2 := by
  obtain ⟨m, e1, n1⟩ := a.more
  obtain ⟨m', e2, n2⟩ := b.more
  obtain ⟨q, e3, n3⟩ := a.hid
  obtain ⟨q', e4, n4⟩ := b.hid
  have back : ∀ c, H1 c = none → H0 c = none := fun c h => by
    cases q : H0 c with
    | none => rfl
    | some o =>
      obtain ⟨o', z⟩ := a.dom c o q
      rw [h] at z; cases z
  refine ⟨⟨m ++ m', by rw [e2, e1, List.append_assoc], fun c hc => (List.mem_append.mp hc).elim (n1 c) (fun z => back c (n2 c z))⟩, ⟨q' ++ q, by rw [e4, e3, List.append_assoc], fun c hc => (List.mem_append.mp hc).elim (fun z => back c (n4 c z)) (n3 c)⟩, fun c o h hn => b.keep c o (a.keep c o h hn) (a.notin h hn), fun c o h => ?_⟩
  obtain ⟨o1, h1⟩ := a.dom c o h
  exact b.dom c o1 h1
theorem ExtW.mem (e : ExtW ph H ph' H') {n : Nat} {a : Addr} (h : ph.ad[n]? = some a) : ph'.ad[n]? = some a := by
  obtain ⟨m, e1, _⟩ := e.more
  rw [e1, List.getElem?_append_left (List.getElem?_eq_some_iff.mp h).1]
  exact h
/-- a hidden list is written -/
theorem ExtW.wr (e : ExtW ph H ph' H') {D : Addr} {o : HO} (hm : D ∈ ph.hd) : ExtW ph H ph' (upd H' D o) :=
  ⟨e.more, e.hid, fun a u h n => by
    rw [upd_ne (fun z => n.2 (by rw [z]; exact hm))]
    exact e.keep a u h n, fun a u h => by
    by_cases hc : a = D
    · subst hc; exact ⟨o, upd_same⟩
    · obtain ⟨u', q⟩ := e.dom a u h
      exact ⟨u', by rw [upd_ne hc]; exact q⟩⟩
theorem offT (ap : Apart ph H) (hl : HidL ph H) {a : Addr} {o : HO} (h : H a = some o) (hm : ∀ vs, o ≠ .lst vs) (hn : a ∉ ph.ad) : ph.off a := ⟨hn, fun z => by
  obtain ⟨vs, e⟩ := hl a z
  rw [h] at e; cases e
  exact hm vs rfl⟩
theorem ExtW.sqT (e : ExtW ph H ph' H') (ap : Apart ph H) (hl : HidL ph H) {a : Addr} {xs : List V} (h : SqT K H a xs) : SqT K H' a xs := by
  rcases h with (h | ⟨o, h⟩) | h
  · exact .inl (.inl (e.keep _ _ h (offT ap hl h (fun _ z => by cases z) (ap.tup h))))
  · exact .inl (.inr ⟨o, e.keep _ _ h (offT ap hl h (fun _ z => by cases z) (ap.frz h))⟩)
  · exact .inr h
mutual
theorem RV.monoW (e : ExtW ph H ph' H') (ap : Apart ph H) (hl : HidL ph H) : ∀ (x : PV) (v : V), RV K ph H x v → RV K ph' H' x v
  | .non, _, h => by simpa [RV] using h
  | .bl _, _, h => by simpa [RV] using h
  | .int _, _, h => by simpa [RV] using h
  | .str _, _, h => by simpa [RV] using h
  | .ty _, _, h => by simpa [RV] using h
  | .dct, v, h => by
    unfold RV at h ⊢
    obtain ⟨a, kvs, e1, h1, h3⟩ := h
    exact ⟨a, kvs, e1, e.keep _ _ h1 h3, e.notin h1 h3⟩
  | .tup xs, v, h => by
    unfold RV at h ⊢
    obtain ⟨a, vs, e1, h1, h2⟩ := h
    exact ⟨a, vs, e1, e.sqT ap hl h1, RVs.monoW e ap hl xs vs h2⟩
  | .lst xs, v, h => by
    unfold RV at h ⊢
    obtain ⟨a, vs, e1, h1, h3, h2⟩ := h
    exact ⟨a, vs, e1, e.keep _ _ h1 h3, e.notin h1 h3, RVs.monoW e ap hl xs vs h2⟩
  | .lck xs, v, h => by
    unfold RV at h ⊢
    obtain ⟨a, vs, e1, h1, h2⟩ := h
    rcases h1 with ⟨h1 | ⟨o, h1⟩, h3⟩ | h1
    · exact ⟨a, vs, e1, .inl ⟨.inl (e.keep _ _ h1 h3), e.notin h1 h3⟩, RVs.monoW e ap hl xs vs h2⟩
    · exact ⟨a, vs, e1, .inl ⟨.inr ⟨o, e.keep _ _ h1 h3⟩, e.notin h1 h3⟩, RVs.monoW e ap hl xs vs h2⟩
    · exact ⟨a, vs, e1, .inr h1, RVs.monoW e ap hl xs vs h2⟩
  | .ref n, v, h => by
    unfold RV at h ⊢
    obtain ⟨a, e1, h1⟩ := h
    exact ⟨a, e1, e.mem h1⟩
theorem RVs.monoW (e : ExtW ph H ph' H') (ap : Apart ph H) (hl : HidL ph H) : ∀ (xs : List PV) (vs : List V), RVs K ph H xs vs → RVs K ph' H' xs vs
  | [], _, h => by simpa [RVs] using h
  | x :: xs, vs, h => by
    unfold RVs at h ⊢
    obtain ⟨v, r, e1, h1, h2⟩ := h
    exact ⟨v, r, e1, RV.monoW e ap hl x v h1, RVs.monoW e ap hl xs r h2⟩
end
theorem RelE.monoW {env : List (Option PV)} {sg : L2.St} (r : RelE K ph H env sg) (e : ExtW ph H ph' H') (ap : Apart ph H) (hl : HidL ph H) : RelE K ph' H' env sg :=
  ⟨r.len, fun i x h => let ⟨v, h1, h2⟩ := r.val i x h; ⟨v, h1, RV.monoW e ap hl x v h2⟩⟩
end
end Den

/-! D1b: the operators. -/
namespace Den
open PySem PySem.Spec PyProof.Rows L2
section
variable {K : PySem.W.Frag} {ct : CTab} {W : WX} {ph : Phi} {H : Hp} {sg : L2.St} {p : PSt} {S : Store}
theorem szOk_line {n : Nat} (h : szOk n) : n ≤ sizeLine := by rw [sizeLine_eq]; exact h
theorem listOf_at (rel : Rel K ct ph H sg p) {x : PV} {v : V} {Q : List PV → Prop} (rx : RV K ph H x v) (h : listOf p x Q) :
    ∃ a vs xs, v = .ref a ∧ H a = some (.lst vs) ∧ RVs K ph H xs vs ∧ Q xs := by
  cases x with
  | lst xs =>
    unfold RV at rx
    obtain ⟨a, vs, e, h1, _, h2⟩ := rx
    exact ⟨a, vs, xs, e, h1, h2, h⟩
  | ref n =>
    unfold RV at rx
    obtain ⟨a, e, h1⟩ := rx
    obtain ⟨xs, h2, h3⟩ := h
    obtain ⟨b, vs, h4, h5, h6⟩ := rel.s.atL h2
    rw [h1] at h4; cases h4
    exact ⟨a, vs, xs, e, h5, h6, h3⟩
  | _ => exact h.elim
theorem itemsOf_at (rel : Rel K ct ph H sg p) {x : PV} {v : V} {Q : List PV → Prop} (rx : RV K ph H x v) (h : itemsOf p x Q) :
    ∃ a vs xs, v = .ref a ∧ ((H a = some (.lst vs) ∧ isTup x = false) ∨ (SqT K H a vs ∧ isTup x = true)) ∧ RVs K ph H xs vs ∧ Q xs := by
  cases x with
  | lst xs =>
    unfold RV at rx
    obtain ⟨a, vs, e, h1, _, h2⟩ := rx
    exact ⟨a, vs, xs, e, .inl ⟨h1, rfl⟩, h2, h⟩
  | tup xs =>
    unfold RV at rx
    obtain ⟨a, vs, e, h1, h2⟩ := rx
    exact ⟨a, vs, xs, e, .inr ⟨h1, rfl⟩, h2, h⟩
  | ref n =>
    unfold RV at rx
    obtain ⟨a, e, h1⟩ := rx
    obtain ⟨xs, h2, h3⟩ := h
    obtain ⟨b, vs, h4, h5, h6⟩ := rel.s.atL h2
    rw [h1] at h4; cases h4
    exact ⟨a, vs, xs, e, .inl ⟨h5, rfl⟩, h6, h3⟩
  | _ => exact h.elim
/-- what a place asks that makes a list -/
theorem mkL_ok (rel : Rel K ct ph H sg p) {m : Bool} {xs : List PV} {vs : List V} {Q : VK} {Q0 : QV} (hv : RVs K ph H xs vs) (h : mkL m xs p Q0)
    (hQ : ∀ a p' ph' b H', Q0 a p' → Ext ph H ph' H' → Rel K ct ph' H' sg p' → RV K ph' H' a b → Q b H') :
    vs.length ≤ sizeLine ∧ ∀ l, H l = none → Q (.ref l) (upd H l (.lst vs)) := by
  obtain ⟨hz, h⟩ := h
  refine ⟨by rw [hv.length]; exact szOk_line hz, fun l hl => ?_⟩
  cases m with
  | false =>
    have h : Q0 (.lst xs) p := h
    refine hQ _ _ ph _ _ h (Ext.lay hl) (rel.lay hl) ?_
    unfold RV
    exact ⟨l, vs, rfl, upd_same, rel.s.fresh hl, RVs.mono (Ext.lay hl) rel.s.apart _ _ hv⟩
  | true =>
    have h : Q0 (.ref p.st.length) { p with st := p.st ++ [.lst xs] } := h
    have ex : Ext ph H (ph.push l) (upd H l (.lst vs)) := Ext.new hl
    refine hQ _ _ (ph.push l) _ _ h ex ⟨rel.e.mono ex rel.s.apart, rel.s.newL hl hv⟩ ?_
    unfold RV
    exact ⟨l, rfl, by show (ph.ad ++ [l])[_]? = _; rw [List.getElem?_append_right (by rw [rel.s.len]; exact Nat.le_refl _), rel.s.len]; simp⟩

/-! ### binary operators -/
def rBin (K : PySem.W.Frag) : Operator → R2
  | .Add => fun x y H Q => rI0 (fun i j => .int (i + j)) x y H Q ∨ rCatA K x y H Q ∨ (∃ i j, x = .str i ∧ y = .str j ∧ i.length + j.length ≤ sizeLine ∧ Q (.str (i ++ j)) H) ∨ rCat x y H Q
  | .Sub => rI0 fun i j => .int (i - j)
  | .Mult => fun x y H Q => rI CMulW (fun i j => .int (i * j)) x y H Q ∨ rRepT K x y H Q ∨ rRepT1 K x y H Q
  | .LShift => rI CPow fun i j => .int (i * 2 ^ j.toNat)
  | .FloorDiv => rI CDivW fun i j => .int (i / j)
  | .Mod => rI (fun _ j => 0 < j) fun i j => .int (i % j)
  | .Pow => rI CPow fun i j => .int (i ^ j.toNat)
  | _ => fun _ _ _ _ => False
theorem op_bin {X : Cx} (op : Operator) : OpR X (binaryOp op) (rBin X.K op) := by
  cases op with
  | Add => exact op_add.or (op_catA.or (op_add_str.or op_cat))
  | Sub => exact op_sub
  | Mult => exact op_mulW.or (op_repT.or op_repT1)
  | LShift => exact op_shl
  | FloorDiv => exact op_fdivW
  | Mod => exact op_mod
  | Pow => exact op_pow
  | _ => intro _ _ _ _ _ _ _ _ _ _ _ _ h; exact h.elim
theorem RV.int_inv {i : Int} {v : V} (h : RV K ph H (.int i) v) : v = .int i := by unfold RV at h; exact h
theorem RV.bl_inv {i : Bool} {v : V} (h : RV K ph H (.bl i) v) : v = .bl i := by unfold RV at h; exact h
theorem RV.str_inv {i : Str} {v : V} (h : RV K ph H (.str i) v) : v = .str i := by unfold RV at h; exact h
theorem RV.non_inv {v : V} (h : RV K ph H .non v) : v = .non := by unfold RV at h; exact h
theorem RV.ty_inv {i : String} {v : V} (h : RV K ph H (.ty i) v) : v = .ty i := by unfold RV at h; exact h
theorem RV.tup_inv {xs : List PV} {v : V} (h : RV K ph H (.tup xs) v) : ∃ a vs, v = .ref a ∧ SqT K H a vs ∧ RVs K ph H xs vs := by unfold RV at h; exact h
theorem RV.of_int {i : Int} : RV K ph H (.int i) (.int i) := by unfold RV; rfl
theorem RV.of_bl {i : Bool} : RV K ph H (.bl i) (.bl i) := by unfold RV; rfl
theorem RV.of_str {i : Str} : RV K ph H (.str i) (.str i) := by unfold RV; rfl
theorem RV.of_non : RV K ph H .non .non := by unfold RV; rfl
theorem RV.of_ty {i : String} : RV K ph H (.ty i) (.ty i) := by unfold RV; rfl
theorem RV.of_tup {xs : List PV} {a : Addr} {vs : List V} (h : SqT K H a vs) (hv : RVs K ph H xs vs) : RV K ph H (.tup xs) (.ref a) := by unfold RV; exact ⟨a, vs, rfl, h, hv⟩
/-- what comes out at once, the state as it is -/
theorem out {Q0 : QV} {Q : VK} {x : PV} {v : V} (rel : Rel K ct ph H sg p) (h : Q0 x p) (hQ : ∀ a p' ph' b H', Q0 a p' → Ext ph H ph' H' → Rel K ct ph' H' sg p' → RV K ph' H' a b → Q b H') (r : RV K ph H x v) : Q v H :=
  hQ _ _ ph _ _ h Ext.refl rel r
/-- a new tuple -/
theorem outT {Q0 : QV} {Q : VK} {xs : List PV} {vs : List V} (rel : Rel K ct ph H sg p) (h : Q0 (.tup xs) p) (hQ : ∀ a p' ph' b H', Q0 a p' → Ext ph H ph' H' → Rel K ct ph' H' sg p' → RV K ph' H' a b → Q b H')
    (r : RVs K ph H xs vs) {l : Addr} (hl : H l = none) : Q (.ref l) (upd H l (.tup vs)) :=
  hQ _ _ ph _ _ h (Ext.lay hl) (rel.lay hl) (RV.of_tup (SqT.of upd_same) (RVs.mono (Ext.lay hl) rel.s.apart _ _ r))
theorem RVs.eq_nil {xs : List PV} (h : RVs K ph H xs []) : xs = [] := by
  have e := h.length
  exact List.length_eq_zero_iff.mp e.symm
theorem RVs.rep {xs : List PV} {vs : List V} (h : RVs K ph H xs vs) : ∀ n : Nat, RVs K ph H (List.replicate n xs).flatten (List.replicate n vs).flatten
  | 0 => RVs.nil
  | n + 1 => by
    rw [List.replicate_succ, List.flatten_cons, List.replicate_succ, List.flatten_cons]
    exact h.append (RVs.rep h n)
theorem ops_bin (op : Operator) (m : Bool) : OpS K ct W (rBin K op) (binV op m) := by
  intro sg ph H p x y v u Q rel rx ry h
  obtain ⟨Q0, g, hQ⟩ := h.done
  clear h
  have lists : ∀ {x y : PV} {v u : V}, RV K ph H x v → RV K ph H y u → (op = .Add ∧ listOf p x fun xs => listOf p y fun ys => mkL m (xs ++ ys) p Q0) → rBin K op v u H Q := fun {x y v u} rx ry h => by
    obtain ⟨e, k⟩ := h
    obtain ⟨a, vs, xs, rfl, h1, h2, k⟩ := listOf_at rel rx k
    obtain ⟨b, us, ys, rfl, h3, h4, k⟩ := listOf_at rel ry k
    obtain ⟨z, q⟩ := mkL_ok rel (h2.append h4) k hQ
    rw [e]
    rw [List.length_append] at z
    exact .inr (.inr (.inr ⟨a, b, vs, us, rfl, rfl, h1, h3, z, q⟩))
  unfold binV at g
  split at g
  · rename_i i j
    cases rx.int_inv
    cases ry.int_inv
    cases op with
    | Add => exact .inl ⟨i, j, rfl, rfl, out rel g hQ RV.of_int⟩
    | Sub => exact ⟨i, j, rfl, rfl, out rel g hQ RV.of_int⟩
    | Mult => exact .inl ⟨i, j, rfl, rfl, g.1, out rel g.2 hQ RV.of_int⟩
    | LShift => exact ⟨i, j, rfl, rfl, g.1, out rel g.2 hQ RV.of_int⟩
    | FloorDiv => exact ⟨i, j, rfl, rfl, g.1, out rel g.2 hQ RV.of_int⟩
    | Mod => exact ⟨i, j, rfl, rfl, g.1, out rel g.2 hQ RV.of_int⟩
    | Pow => exact ⟨i, j, rfl, rfl, g.1, out rel g.2 hQ RV.of_int⟩
    | _ => exact g.elim
  · rename_i xs ys
    obtain ⟨rfl, hz, g⟩ := g
    obtain ⟨a, vs, rfl, h1, h2⟩ := rx.tup_inv
    obtain ⟨b, us, rfl, h3, h4⟩ := ry.tup_inv
    refine .inr (.inl ⟨a, b, vs, us, rfl, rfl, h1, h3, by rw [h2.length, h4.length]; exact szOk_line hz, fun e => ?_, fun _ e => ?_, fun _ _ l hl => ?_⟩)
    · subst e
      have e := h2.eq_nil
      subst e
      exact out rel g hQ (RV.of_tup h3 h4)
    · subst e
      have e := h4.eq_nil
      subst e
      rw [List.append_nil] at g
      exact out rel g hQ (RV.of_tup h1 h2)
    · exact outT rel g hQ (h2.append h4) hl
  · rename_i a b
    obtain ⟨rfl, hz, g⟩ := g
    cases rx.str_inv
    cases ry.str_inv
    exact .inr (.inr (.inl ⟨a, b, rfl, rfl, szOk_line hz, out rel g hQ RV.of_str⟩))
  · rename_i xs k
    obtain ⟨⟨rfl, hne, h2k, hk, hz⟩, g⟩ := g
    obtain ⟨a, vs, rfl, h1, h2⟩ := rx.tup_inv
    by_cases h1k : k = 1
    · subst h1k
      refine .inr (.inr ⟨a, vs, rfl, ry.int_inv, h1, out rel g hQ ?_⟩)
      have e : (List.replicate (Int.toNat 1) xs).flatten = xs := by simp
      rw [e]
      exact RV.of_tup h1 h2
    · refine .inr (.inl ⟨a, k, vs, rfl, ry.int_inv, h1, fun e => hne ?_, by omega, hk, by rw [h2.length]; exact hz, fun l hl => outT rel g hQ (h2.rep k.toNat) hl⟩)
      subst e
      exact h2.eq_nil
  · exact lists rx ry g

/-! ### comparisons -/
mutual
theorem Dp.of : ∀ (x : PV) (v : V), RV K ph H x v → IsD x → Dp K H v x.d
  | .non, _, r, _ => by rw [r.non_inv]; exact .non
  | .bl b, _, r, _ => by rw [r.bl_inv]; exact .bl b
  | .int i, _, r, _ => by rw [r.int_inv]; exact .int i
  | .str x, _, r, _ => by rw [r.str_inv]; exact .str x
  | .tup xs, _, r, h => by
    obtain ⟨a, vs, rfl, h1, h2⟩ := r.tup_inv
    cases h with
    | tup h => exact .tup h1 (Dp.ofs xs vs h2 h)
  | .lst xs, _, r, h => by
    unfold RV at r
    obtain ⟨a, vs, rfl, h1, _, h2⟩ := r
    cases h with
    | lst h => exact .lst (SqL.of h1) (Dp.ofs xs vs h2 h)
  | .lck _, _, _, h => by cases h
  | .ref _, _, _, h => by cases h
  | .ty _, _, _, h => by cases h
  | .dct, _, _, h => by cases h
theorem Dp.ofs : ∀ (xs : List PV) (vs : List V), RVs K ph H xs vs → (∀ x ∈ xs, IsD x) → DpAll K H vs (dL xs)
  | [], _, r, _ => by rw [r.nil_inv]; exact .nil
  | x :: xs, _, r, h => by
    obtain ⟨v, us, rfl, h1, h2⟩ := r.cons_inv
    exact .cons (Dp.of x v h1 (h x List.mem_cons_self)) (Dp.ofs xs us h2 fun y hy => h y (List.mem_cons_of_mem _ hy))
end
mutual
theorem lay_of : ∀ (x : PV), IsD x → x.d.canLay0 = true
  | .non, _ => rfl
  | .bl _, _ => rfl
  | .int _, _ => rfl
  | .str x, h => by
    cases h with
    | str h => simpa [PV.d, PyData.canLay0] using h
  | .tup xs, h => by
    cases h with
    | tup h => simpa [PV.d, PyData.canLay0] using lay_ofs xs h
  | .lst xs, h => by
    cases h with
    | lst h => simpa [PV.d, PyData.canLay0] using lay_ofs xs h
  | .lck _, h => by cases h
  | .ref _, h => by cases h
  | .ty _, h => by cases h
  | .dct, h => by cases h
theorem lay_ofs : ∀ (xs : List PV), (∀ x ∈ xs, IsD x) → PyData.canLayAll0 (dL xs) = true
  | [], _ => rfl
  | x :: xs, h => by
    rw [dL, PyData.canLayAll0, lay_of x (h x List.mem_cons_self), lay_ofs xs fun y hy => h y (List.mem_cons_of_mem _ hy)]
    rfl
end
theorem shaped_of {x : PV} (h : eqOk x) : SeqAt.shaped x.d = true := by
  unfold SeqAt.shaped
  rw [lay_of x h.1, decide_eq_true h.2]
  rfl
theorem flat_of {x : PV} {v : V} (r : RV K ph H x v) (h : flat x = true) : flatV v = true := by
  cases x with
  | non => rw [r.non_inv]; rfl
  | bl _ => rw [r.bl_inv]; rfl
  | int _ => rw [r.int_inv]; rfl
  | str _ => rw [r.str_inv]; rfl
  | _ => cases h
theorem flats_of : ∀ {xs : List PV} {vs : List V}, RVs K ph H xs vs → xs.all flat = true → vs.all flatV = true
  | [], _, r, _ => by rw [r.nil_inv]; rfl
  | x :: xs, _, r, h => by
    obtain ⟨v, us, rfl, h1, h2⟩ := r.cons_inv
    rw [List.all_cons, Bool.and_eq_true] at h ⊢
    exact ⟨flat_of h1 h.1, flats_of h2 h.2⟩
theorem eqV_of {x y : PV} {v u : V} (r : RV K ph H x v) (r' : RV K ph H y u) (h : flat x = true) (h' : flat y = true) : eqV v u = PyData.eqv x.d y.d := by
  cases x <;> first | (cases h; done) | skip
  all_goals cases y <;> first | (cases h'; done) | skip
  all_goals (first | rw [r.non_inv] | rw [r.bl_inv] | rw [r.int_inv] | rw [r.str_inv])
  all_goals (first | rw [r'.non_inv] | rw [r'.bl_inv] | rw [r'.int_inv] | rw [r'.str_inv])
  all_goals simp [eqV, PV.d, PyData.eqv]
theorem inV_of {x : PV} {v : V} (r : RV K ph H x v) (h : flat x = true) : ∀ {ys : List PV} {us : List V}, RVs K ph H ys us → ys.all flat = true → inV v us = ys.any fun z => PyData.eqv z.d x.d
  | [], _, r', _ => by rw [r'.nil_inv]; rfl
  | y :: ys, _, r', h' => by
    obtain ⟨u, us, rfl, h1, h2⟩ := r'.cons_inv
    rw [List.all_cons, Bool.and_eq_true] at h'
    show (eqV u v || inV v us) = _
    rw [eqV_of h1 r h'.1 h, inV_of r h h2 h'.2]
    rfl

def rCmp (K : PySem.W.Frag) : CmpOp → R2
  | .Lt => rI0 fun i j => .bl (decide (i < j))
  | .LtE => rI0 fun i j => .bl (decide (i ≤ j))
  | .Gt => rI0 fun i j => .bl (decide (j < i))
  | .GtE => rI0 fun i j => .bl (decide (j ≤ i))
  | .Eq => fun x y H Q => rEq x y H Q ∨ rEqD K x y H Q
  | .NotEq => fun x y H Q => rNe x y H Q ∨ rNeD K x y H Q
  | .Is => fun x y H Q => (y = .non ∧ Q (.bl (decide (x = .non))) H) ∨ rIsB x y H Q
  | .IsNot => fun x y H Q => (y = .non ∧ Q (.bl (!decide (x = .non))) H) ∨ rNotB x y H Q
  | .In => rIn K false
  | .NotIn => rIn K true
theorem op_cmp {X : Cx} (hu : X.A.units + 64 < cLine) (op : CmpOp) : OpR X (compareOp op) (rCmp X.K op) := by
  cases op with
  | Lt => exact op_lt
  | LtE => exact op_le
  | Gt => exact op_gt
  | GtE => exact op_ge
  | Eq => exact op_eq.or (op_eqD hu)
  | NotEq => exact op_ne.or (op_neD hu)
  | Is => exact op_isN.or op_isBl
  | IsNot => exact op_notN.or op_notBl
  | In => exact op_in_seq
  | NotIn => exact op_notIn_seq
theorem RV.none_dec {x : PV} {v : V} (r : RV K ph H x v) : decide (v = .non) = isNon x := by
  cases x with
  | non => rw [r.non_inv]; rfl
  | bl _ => rw [r.bl_inv]; rfl
  | int _ => rw [r.int_inv]; rfl
  | str _ => rw [r.str_inv]; rfl
  | ty _ => rw [r.ty_inv]; rfl
  | tup _ => obtain ⟨a, vs, rfl, _⟩ := r.tup_inv; rfl
  | lst _ => unfold RV at r; obtain ⟨a, vs, rfl, _⟩ := r; rfl
  | lck _ => unfold RV at r; obtain ⟨a, vs, rfl, _⟩ := r; rfl
  | ref _ => unfold RV at r; obtain ⟨a, rfl, _⟩ := r; rfl
  | dct => unfold RV at r; obtain ⟨a, kvs, rfl, _⟩ := r; rfl
theorem in_at (rel : Rel K ct ph H sg p) {x y : PV} {v u : V} (rx : RV K ph H x v) (ry : RV K ph H y u) {f : Bool → Prop} {Q : VK} {g : Bool → Bool} (neg : Bool) (hg : ∀ b, g b = if neg then !b else b)
    (h : itemsOf p y fun ys => flat x = true ∧ ys.all flat = true ∧ f (g (ys.any fun z => PyData.eqv z.d x.d))) (hf : ∀ b, f b → Q (.bl b) H) : rIn K neg v u H Q := by
  obtain ⟨a, us, ys, rfl, h1, h2, h3, h4, h5⟩ := itemsOf_at rel ry h
  refine ⟨a, us, rfl, h1.imp (fun z => SqL.of z.1) (fun z => z.1), flat_of rx h3, flats_of h2 h4, ?_⟩
  rw [inV_of rx h3 h2 h4, ← hg]
  exact hf _ h5
/-- a comparison -/
theorem ops_cmp (op : CmpOp) {x y : PV} {v u : V} {f : Bool → Prop} {Q : VK} (rel : Rel K ct ph H sg p) (rx : RV K ph H x v) (ry : RV K ph H y u) (h : cmpV op x y p f) (hf : ∀ b, f b → Q (.bl b) H) : rCmp K op v u H Q := by
  cases op with
  | Is =>
    rcases h with ⟨rfl, h⟩ | ⟨a, b, rfl, rfl, h⟩
    · refine .inl ⟨ry.non_inv, ?_⟩
      rw [rx.none_dec]
      exact hf _ h
    · exact .inr ⟨a, b, rx.bl_inv, ry.bl_inv, hf _ h⟩
  | IsNot =>
    rcases h with ⟨rfl, h⟩ | ⟨a, b, rfl, rfl, h⟩
    · refine .inl ⟨ry.non_inv, ?_⟩
      rw [rx.none_dec]
      exact hf _ h
    · exact .inr ⟨a, b, rx.bl_inv, ry.bl_inv, hf _ h⟩
  | In => exact in_at rel rx ry (g := id) false (fun _ => rfl) h hf
  | NotIn => exact in_at rel rx ry (g := not) true (fun _ => rfl) h hf
  | Eq =>
    unfold cmpV at h
    simp only at h
    split at h
    · rename_i i j
      cases rx.int_inv
      cases ry.int_inv
      refine .inl ⟨rfl, ?_⟩
      rw [show decide (V.int i = V.int j) = decide (i = j) by simp]
      exact hf _ h
    · obtain ⟨h1, h2, h⟩ := h
      exact .inr ⟨_, _, Dp.of _ _ rx h1.1, Dp.of _ _ ry h2.1, shaped_of h1, shaped_of h2, hf _ h⟩
  | NotEq =>
    unfold cmpV at h
    simp only at h
    split at h
    · rename_i i j
      cases rx.int_inv
      cases ry.int_inv
      refine .inl ⟨rfl, ?_⟩
      rw [show decide (V.int i = V.int j) = decide (i = j) by simp]
      exact hf _ h
    · obtain ⟨h1, h2, h⟩ := h
      exact .inr ⟨_, _, Dp.of _ _ rx h1.1, Dp.of _ _ ry h2.1, shaped_of h1, shaped_of h2, hf _ h⟩
  | Lt =>
    unfold cmpV at h
    simp only at h
    split at h
    · cases rx.int_inv
      cases ry.int_inv
      exact ⟨_, _, rfl, rfl, hf _ h⟩
    · exact h.elim
  | LtE =>
    unfold cmpV at h
    simp only at h
    split at h
    · cases rx.int_inv
      cases ry.int_inv
      exact ⟨_, _, rfl, rfl, hf _ h⟩
    · exact h.elim
  | Gt =>
    unfold cmpV at h
    simp only at h
    split at h
    · cases rx.int_inv
      cases ry.int_inv
      exact ⟨_, _, rfl, rfl, hf _ h⟩
    · exact h.elim
  | GtE =>
    unfold cmpV at h
    simp only at h
    split at h
    · cases rx.int_inv
      cases ry.int_inv
      exact ⟨_, _, rfl, rfl, hf _ h⟩
    · exact h.elim

/-! ### subscripts, slices -/
theorem ixN_eq (n : Nat) (i : Int) : Den.ixN n i = L2.ixN n i := rfl
theorem atI_of {α : Type} {xs : List α} {i : Int} {k : Nat} {v : α} (h : Den.ixN xs.length i = some k) (h2 : xs[k]? = some v) : atI xs i = some v := by
  unfold atI
  rw [← ixN_eq, h]
  exact h2
theorem ops_ix : OpS K ct W (rIx K) ixV := by
  intro sg ph H p x y v u Q rel rx ry h
  obtain ⟨Q0, g, hQ⟩ := h.done
  clear h
  unfold ixV at g
  split at g
  · rename_i i
    cases ry.int_inv
    obtain ⟨a, vs, xs, rfl, h1, h2, k, w, h3, h4, g⟩ := itemsOf_at rel rx g
    obtain ⟨z, h5, h6⟩ := h2.get h4
    rw [← h2.length] at h3
    rcases h1 with ⟨h1, _⟩ | ⟨h1, _⟩
    · exact .inl ⟨a, vs, i, z, rfl, rfl, SqL.of h1, atI_of h3 h5, out rel g hQ h6⟩
    · exact .inr (.inl ⟨a, vs, i, z, rfl, rfl, h1, atI_of h3 h5, out rel g hQ h6⟩)
  · exact g.elim
theorem sIx_eq (n d : Nat) (o : Option Int) (hd : d ≤ n) : Den.sIx n d o = HT.sIx n d o := by
  cases o with
  | none => rfl
  | some v =>
    have e := HT.clip_eq v n d
    show (if v < 0 then (v + n).toNat else min v.toNat n) = _
    split
    · rename_i h
      rw [if_pos h] at e
      omega
    · rename_i h
      rw [if_neg h] at e
      omega
theorem cut_eq {xs : List PV} {vs : List V} (h : RVs K ph H xs vs) (lo hi : Option Int) : RVs K ph H (cutP xs lo hi) (cutV vs lo hi) := by
  unfold cutP cutV
  rw [sIx_eq _ _ _ (Nat.zero_le _), sIx_eq _ _ _ (Nat.le_refl _), h.length]
  exact (h.drop _).take _
def rSlc (K : PySem.W.Frag) : V → Option Int → Option Int → Hp → VK → Prop := fun x lo hi H Q => rSlA K x lo hi H Q ∨ rSlL K x lo hi H Q
theorem sl_all {X : Cx} : SlR X (rSlc X.K) := sl_tupA.or sl_list
theorem ops_slc {m : Bool} {x : PV} {v : V} {lo hi : Option Int} {Q0 : QV} {Q : VK} (rel : Rel K ct ph H sg p) (rx : RV K ph H x v) (g : slcV m x lo hi p Q0)
    (hQ : ∀ a p' ph' b H', Q0 a p' → Ext ph H ph' H' → Rel K ct ph' H' sg p' → RV K ph' H' a b → Q b H') : rSlc K v lo hi H Q := by
  unfold slcV at g
  split at g
  · rename_i xs
    obtain ⟨a, vs, rfl, h1, h2⟩ := rx.tup_inv
    refine .inl ⟨a, vs, rfl, h1, fun e => ?_, fun _ l hl => outT rel g hQ (cut_eq h2 lo hi) hl⟩
    have e' : cutP xs lo hi = xs := by
      unfold cutP
      rw [sIx_eq _ _ _ (Nat.zero_le _), sIx_eq _ _ _ (Nat.le_refl _), ← h2.length, e.1, e.2, List.drop_zero, Nat.sub_zero, h2.length, List.take_length]
    rw [e'] at g
    exact out rel g hQ (RV.of_tup h1 h2)
  · rename_i xs
    unfold RV at rx
    obtain ⟨a, vs, rfl, h1, h2⟩ := rx
    refine .inr ⟨a, vs, rfl, ?_, (mkL_ok rel (cut_eq h2 lo hi) g hQ).2⟩
    rcases h1 with h1 | h1
    · exact .inl h1.1
    · exact sqL_none h1
  · obtain ⟨a, vs, xs, rfl, h1, h2, g⟩ := listOf_at rel rx g
    exact .inr ⟨a, vs, rfl, SqL.of h1, (mkL_ok rel (cut_eq h2 lo hi) g hQ).2⟩

/-! ### built-in functions and methods -/
/-- a call of a value: r is what HandS asks, f what is known -/
def CallS (K : PySem.W.Frag) (ct : CTab) (W : WX) (r : List V → Hp → VK → Prop) (f : List PV → PSt → QV → Prop) : Prop :=
  ∀ sg ph H p xs vs Q, Rel K ct ph H sg p → RVs K ph H xs vs → Frm K ct W (fun p Q _ => f xs p Q) (RV K) sg ph H p Q → r vs H Q
theorem allBl_of : ∀ {xs : List PV} {vs : List V} {bs : List Bool}, RVs K ph H xs vs → allBl xs = some bs → vs = bs.map V.bl
  | [], _, _, r, h => by
    rw [r.nil_inv]
    cases h
    rfl
  | x :: xs, _, bs, r, h => by
    obtain ⟨v, us, rfl, h1, h2⟩ := r.cons_inv
    cases x with
    | bl b =>
      unfold allBl at h
      cases e : allBl xs with
      | none => rw [e] at h; cases h
      | some cs =>
        rw [e] at h
        cases h
        rw [h1.bl_inv, allBl_of h2 e]
        rfl
    | _ => cases h
theorem allInt_of : ∀ {xs : List PV} {vs : List V} {bs : List Int}, RVs K ph H xs vs → allInt xs = some bs → vs = bs.map V.int
  | [], _, _, r, h => by
    rw [r.nil_inv]
    cases h
    rfl
  | x :: xs, _, bs, r, h => by
    obtain ⟨v, us, rfl, h1, h2⟩ := r.cons_inv
    cases x with
    | int b =>
      unfold allInt at h
      cases e : allInt xs with
      | none => rw [e] at h; cases h
      | some cs =>
        rw [e] at h
        cases h
        rw [h1.int_inv, allInt_of h2 e]
        rfl
    | _ => cases h
theorem RVs.inv1 {x : PV} {vs : List V} (r : RVs K ph H [x] vs) : ∃ v, vs = [v] ∧ RV K ph H x v := by
  obtain ⟨v, us, rfl, h1, h2⟩ := r.cons_inv
  rw [h2.nil_inv]
  exact ⟨v, rfl, h1⟩
theorem RVs.inv2 {x y : PV} {vs : List V} (r : RVs K ph H [x, y] vs) : ∃ v u, vs = [v, u] ∧ RV K ph H x v ∧ RV K ph H y u := by
  obtain ⟨v, us, rfl, h1, h2⟩ := r.cons_inv
  obtain ⟨u, rfl, h3⟩ := h2.inv1
  exact ⟨v, u, rfl, h1, h3⟩
/-- the names and the values of the built-ins -/
def bltName : Blt → Str
  | .len => "len" | .abs => "abs" | .int => "int" | .min2 => "min" | .max2 => "max" | .all => "all" | .any => "any" | .tuple => "tuple" | .list => "list" | .sum => "sum" | .bool => "bool" | .max1 => "max" | .min1 => "min" | .maxP => "max"
def bltVal : Blt → Value
  | .len => .builtin "len" | .abs => .builtin "abs" | .int => .type "int" | .min2 => .builtin "min" | .max2 => .builtin "max" | .all => .builtin "all" | .any => .builtin "any"
  | .tuple => .type "tuple" | .list => .type "list" | .sum => .builtin "sum" | .bool => .type "bool" | .max1 => .builtin "max" | .min1 => .builtin "min" | .maxP => .builtin "max"
theorem blt_boot (f : Blt) : bootBuiltins (bltName f) = some (bltVal f) := by
  cases f <;> decide +kernel
theorem blt_ne (f : Blt) : bltName f ≠ "__name__" := by cases f <;> decide +kernel
theorem blt_db (f : Blt) : (bltName f == ("__debug__" : Str)) = false := by cases f <;> decide +kernel
def rBlt (K : PySem.W.Frag) : Blt → List V → Hp → VK → Prop
  | .len => fun xs H Q => ∃ x n, xs = [x] ∧ LenV K x H n ∧ Q (.int n) H
  | .abs => fun xs H Q => ∃ i, xs = [.int i] ∧ Q (.int (if i < 0 then -i else i)) H
  | .int => fun xs H Q => (∃ i, xs = [.int i] ∧ Q (.int i) H) ∨ ∃ k, xs = [.bl k] ∧ Q (.int (if k then 1 else 0)) H
  | .min2 => fun xs H Q => (∃ i j, xs = [.int i, .int j] ∧ Q (.int (if j < i then j else i)) H) ∨ rMinP K xs H Q
  | .max2 => fun xs H Q => ∃ i j, xs = [.int i, .int j] ∧ Q (.int (if j > i then j else i)) H
  | .all => rAll K
  | .any => rAny K
  | .tuple => fun xs H Q => ∃ p ys, xs = [.ref p] ∧ ((SqL K H p ys ∧ ∀ l, H l = none → Q (.ref l) (upd H l (.tup ys))) ∨ (SqT K H p ys ∧ Q (.ref p) H))
  | .list => fun xs H Q => ∃ p ys, xs = [.ref p] ∧ (SqL K H p ys ∨ SqT K H p ys) ∧ ∀ l, H l = none → Q (.ref l) (upd H l (.lst ys))
  | .sum => fun xs H Q => rSum K xs H Q ∨ rSumT K xs H Q
  | .max1 => rMax K
  | .maxP => rMaxP K
  | .min1 => rMin K
  | .bool => fun _ _ _ => False
theorem cr_blt {X : Cx} (hc : X.calm = true) (hu : X.A.units + 64 < cLine) (f : Blt) : CallR X (bltVal f) (rBlt X.K f) := by
  cases f with
  | len => exact call_len
  | abs => exact call_abs
  | int => exact call_int1
  | min2 => exact (call_min2 hc).or (call_minP hc hu)
  | max2 => exact call_max2 hc
  | all => exact cr_all hc
  | any => exact cr_any hc
  | tuple => exact call_tuple_of
  | list => exact call_list_of
  | sum => exact (cr_sum hc).or (cr_sumT hc)
  | max1 => exact cr_max hc
  | maxP => exact cr_maxP hc hu
  | min1 => exact cr_min hc
  | bool => intro _ _ _ _ _ _ _ _ _ h; exact h.elim
theorem ops_blt (f : Blt) (m : Bool) : CallS K ct W (rBlt K f) (bltV f m) := by
  intro sg ph H p xs vs Q rel rx h
  obtain ⟨Q0, g, hQ⟩ := h.done
  clear h
  unfold bltV at g
  split at g
  · obtain ⟨v, rfl, h1⟩ := rx.inv1
    obtain ⟨a, us, rfl, h2, h3⟩ := h1.tup_inv
    exact ⟨_, _, rfl, .inr ⟨us, h2, rfl⟩, by rw [h3.length]; exact out rel g hQ RV.of_int⟩
  · obtain ⟨v, rfl, h1⟩ := rx.inv1
    cases h1.str_inv
    exact ⟨_, _, rfl, ⟨szOk_line g.1, rfl⟩, out rel g.2 hQ RV.of_int⟩
  · obtain ⟨v, rfl, h1⟩ := rx.inv1
    obtain ⟨a, us, ys, rfl, h2, h3, g⟩ := listOf_at rel h1 g
    exact ⟨_, _, rfl, .inl ⟨us, SqL.of h2, rfl⟩, by rw [h3.length]; exact out rel g hQ RV.of_int⟩
  · obtain ⟨v, rfl, h1⟩ := rx.inv1
    cases h1.int_inv
    exact ⟨_, rfl, out rel g hQ RV.of_int⟩
  · obtain ⟨v, rfl, h1⟩ := rx.inv1
    cases h1.int_inv
    exact .inl ⟨_, rfl, out rel g hQ RV.of_int⟩
  · obtain ⟨v, rfl, h1⟩ := rx.inv1
    cases h1.bl_inv
    exact .inr ⟨_, rfl, out rel g hQ RV.of_int⟩
  · obtain ⟨v, u, rfl, h1, h2⟩ := rx.inv2
    cases h1.int_inv
    cases h2.int_inv
    exact .inl ⟨_, _, rfl, out rel g hQ RV.of_int⟩
  · obtain ⟨v, u, rfl, h1, h2⟩ := rx.inv2
    obtain ⟨i, j, is, js, rfl, rfl, g⟩ := g
    have isI : ∀ l : List Int, ∀ x ∈ l.map PV.int, IsD x := fun l x hx => by
      obtain ⟨z, _, rfl⟩ := List.mem_map.mp hx
      exact .int
    have isT : ∀ (a : Int) (l : List Int), IsD (.tup [.int a, .tup (l.map .int)]) := fun a l => .tup fun x hx => by
      simp only [List.mem_cons, List.not_mem_nil, or_false] at hx
      rcases hx with rfl | rfl
      · exact .int
      · exact .tup (isI l)
    have ed : ∀ (a : Int) (l : List Int), (PV.tup [.int a, .tup (l.map .int)]).d = .tuple [.int a, .tuple (l.map .int)] := fun a l => by
      have e : ∀ l : List Int, dL (l.map PV.int) = l.map .int := fun l => by
        rw [dL_map, List.map_map]; rfl
      simp only [PV.d, dL, e]
    refine .inr ⟨v, u, i, j, is, js, rfl, by rw [← ed]; exact Dp.of _ _ h1 (isT _ _), by rw [← ed]; exact Dp.of _ _ h2 (isT _ _), ?_⟩
    by_cases hl : ltIs (j :: js) (i :: is) = true
    · rw [if_pos hl] at g ⊢
      exact out rel g hQ h2
    · rw [if_neg hl] at g ⊢
      exact out rel g hQ h1
  · obtain ⟨v, u, rfl, h1, h2⟩ := rx.inv2
    cases h1.int_inv
    cases h2.int_inv
    exact ⟨_, _, rfl, out rel g hQ RV.of_int⟩
  · obtain ⟨v, rfl, h1⟩ := rx.inv1
    obtain ⟨a, us, ys, rfl, h2, h3, bs, e, g⟩ := listOf_at rel h1 g
    cases allBl_of h3 e
    exact ⟨a, bs, rfl, SqL.of h2, out rel g hQ RV.of_bl⟩
  · obtain ⟨v, rfl, h1⟩ := rx.inv1
    obtain ⟨a, us, ys, rfl, h2, h3, bs, e, g⟩ := listOf_at rel h1 g
    cases allBl_of h3 e
    exact ⟨a, bs, rfl, SqL.of h2, out rel g hQ RV.of_bl⟩
  · obtain ⟨v, rfl, h1⟩ := rx.inv1
    obtain ⟨a, us, rfl, h2, h3⟩ := h1.tup_inv
    exact ⟨a, us, rfl, .inr ⟨h2, out rel g hQ (RV.of_tup h2 h3)⟩⟩
  · obtain ⟨v, rfl, h1⟩ := rx.inv1
    obtain ⟨a, us, ys, rfl, h2, h3, g⟩ := listOf_at rel h1 g
    exact ⟨a, us, rfl, .inl ⟨SqL.of h2, fun l hl => outT rel g hQ h3 hl⟩⟩
  · obtain ⟨v, rfl, h1⟩ := rx.inv1
    obtain ⟨a, us, ys, rfl, h2, h3, g⟩ := itemsOf_at rel h1 g
    exact ⟨a, us, rfl, h2.imp (fun z => SqL.of z.1) (fun z => z.1), (mkL_ok rel h3 g hQ).2⟩
  · obtain ⟨v, rfl, h1⟩ := rx.inv1
    obtain ⟨a, us, ys, rfl, h2, h3, bs, e, g⟩ := itemsOf_at rel h1 g
    cases allInt_of h3 e
    rcases h2 with h2 | h2
    · exact .inl ⟨a, bs, rfl, SqL.of h2.1, out rel g hQ RV.of_int⟩
    · exact .inr ⟨a, bs, rfl, h2.1, out rel g hQ RV.of_int⟩
  · obtain ⟨v, rfl, h1⟩ := rx.inv1
    obtain ⟨a, us, ys, rfl, h2, h3, bs, e, hne, g⟩ := listOf_at rel h1 g
    cases allInt_of h3 e
    exact ⟨a, bs, rfl, SqL.of h2, hne, fun m hm hy => out rel (g m hm hy) hQ RV.of_int⟩
  · obtain ⟨v, rfl, h1⟩ := rx.inv1
    obtain ⟨a, us, ys, rfl, h2, h3, ps, e, hne, g⟩ := listOf_at rel h1 g
    subst e
    have at' : ∀ (i : Nat) u p, us[i]? = some u → ps[i]? = some p → RV K ph H (.tup (p.map .int)) u := fun i u p h4 h5 => by
      obtain ⟨u', h6, h7⟩ := h3.get (i := i) (x := .tup (p.map .int)) (by rw [List.getElem?_map, h5]; rfl)
      rw [h4] at h6; cases h6
      exact h7
    refine ⟨a, us, ps, rfl, SqL.of h2, by rw [h3.length, List.length_map], hne, fun i u p h4 h5 => ?_, fun i u p h4 h5 h6 => ?_⟩
    · have e : ∀ l : List Int, dL (l.map PV.int) = l.map .int := fun l => by
        rw [dL_map, List.map_map]; rfl
      have ed : (PV.tup (p.map .int)).d = tupD p := by simp only [PV.d, e]
      rw [← ed]
      refine Dp.of _ _ (at' i u p h4 h5) (.tup fun x hx => ?_)
      obtain ⟨z, _, rfl⟩ := List.mem_map.mp hx
      exact .int
    · exact out rel (g p (List.mem_of_getElem? h5) h6) hQ (at' i u p h4 h5)
  · obtain ⟨v, rfl, h1⟩ := rx.inv1
    obtain ⟨a, us, ys, rfl, h2, h3, bs, e, hne, g⟩ := listOf_at rel h1 g
    cases allInt_of h3 e
    exact ⟨a, bs, rfl, SqL.of h2, hne, fun m hm hy => out rel (g m hm hy) hQ RV.of_int⟩
  · exact g.elim

/-! ### isinstance -/
theorem kit_all : ∀ a ∈ ["NoneType", "bool", "int", "str", "tuple", "list", "dict"], ∀ b ∈ ["int", "bool", "str", "tuple", "list", "dict"], kitB a b = some (isSub a b) := by
  decide +kernel
theorem known_mem {b : String} (h : knownTy b = true) : b ∈ ["int", "bool", "str", "tuple", "list", "dict"] := by
  unfold knownTy at h
  simp only [Bool.or_eq_true, beq_iff_eq] at h
  simp
  rcases h with ((((h | h) | h) | h) | h) | h <;> simp [h]
theorem tyN_at (rel : Rel K ct ph H sg p) {x : PV} {v : V} {a : String} (rx : RV K ph H x v) (h : tyN p x = some a) : a ∈ ["NoneType", "bool", "int", "str", "tuple", "list", "dict"] ∧ TyX K H v (.type a) := by
  cases x with
  | non => cases h; rw [rx.non_inv]; exact ⟨by simp, .base .non⟩
  | bl b => cases h; rw [rx.bl_inv]; exact ⟨by simp, .base (.bl b)⟩
  | int i => cases h; rw [rx.int_inv]; exact ⟨by simp, .base (.int i)⟩
  | str x => cases h; rw [rx.str_inv]; exact ⟨by simp, .base (.str x)⟩
  | tup xs =>
    cases h
    obtain ⟨c, us, rfl, h2, h3⟩ := rx.tup_inv
    refine ⟨by simp, ?_⟩
    rcases h2 with (h2 | ⟨o, h2⟩) | ⟨o, its, n, hk, hc, _⟩
    · exact .base (.tup h2)
    · exact .fTuple h2
    · exact .kTuple hk hc
  | lst xs =>
    cases h
    unfold RV at rx
    obtain ⟨c, vs, rfl, h1, _, h2⟩ := rx
    exact ⟨by simp, .base (.lst h1)⟩
  | dct =>
    cases h
    unfold RV at rx
    obtain ⟨c, kvs, rfl, h1, _⟩ := rx
    exact ⟨by simp, .base (.dK h1)⟩
  | ref n =>
    unfold RV at rx
    obtain ⟨c, rfl, h1⟩ := rx
    unfold tyN at h
    simp only at h
    split at h
    · rename_i xs e
      cases h
      obtain ⟨b, vs, h4, h5, h6⟩ := rel.s.atL e
      rw [h1] at h4; cases h4
      exact ⟨by simp, .base (.lst h5)⟩
    · cases h
  | _ => cases h
theorem kitAny_of {a : String} (ha : a ∈ ["NoneType", "bool", "int", "str", "tuple", "list", "dict"]) : ∀ {ns : List (Str × String)}, (∀ b ∈ ns, knownTy b.2 = true) → PySem.W.kitAny K (.type a) (ns.map fun b => Value.type b.2) = some (ns.any fun b => isSub a b.2)
  | [], _ => rfl
  | b :: ns, h => by
    have h1 := kit_ty (K := K) (kit_all a ha b.2 (known_mem (h b List.mem_cons_self)))
    rw [List.map_cons, List.any_cons]
    refine kitAny_cons h1 (fun e => ?_) fun e => ?_
    · rw [e, Bool.false_or]
      exact kitAny_of ha fun c hc => h c (List.mem_cons_of_mem _ hc)
    · rw [e]; rfl
end
end Den

/-! D1c: enumerate of a tuple. -/
namespace Den
open PySem PySem.Spec PyProof.Rows L2
open Sem (wp)
open AutoSeq1 (wpAny_loadPart')
abbrev tupItO (t : Addr) : Obj := { cls := .type "tuple_iterator", data := .fields #[.ref t, .int 0 0] }
abbrev enumO (i : Addr) : Obj := { cls := .type "enumerate", data := .fields #[.none, .bool false, .ref i, rawInt 0, .none, .none] }
theorem meets_enumT (t : Addr) (its : Array Value) (n : Nat) (dc : Option Addr) (sl : Array (Option Value)) :
    Meets (Builtin.«enumerate.__new__» ⟨[.type "enumerate", .ref t], []⟩) (fun _ R s =>
      s.heap.get? t = some { cls := .type "tuple", dict := dc, data := .seq its n, slots := sl } ∧
      R (.ok (.ret (.ref (s.heap.push (tupItO t)).objs.size))) { s with heap := (s.heap.push (tupItO t)).push (enumO s.heap.objs.size) }) :=
  .of_wp fun pg w A R s h => by
    obtain ⟨hp, g, d, tk, os⟩ := s
    obtain ⟨ht, h⟩ := h
    have hs := sub_enumerate
    have hT : Heap.IsTuple (Shared.heap ⟨hp, g, d, tk, os⟩) t its := ⟨_, ht, rfl, n, rfl⟩
    wp_walk using wpAny_loadPart' ht
    refine wpAny_stack_any fun st => wpAny_pure ?_
    split
    · rename_i c _ _ _ _ _
      cases c == Value.type "enumerate" <;>
        (wp_walk using wpAny_loadPart' ht, wpAny_pyIter_tuple hT
         exact ⟨_, rfl, h⟩)
    · wp_walk using wpAny_loadPart' ht, wpAny_pyIter_tuple hT
      exact ⟨_, rfl, h⟩
section
variable {prog : Program} {w : World} {A : Around} {E : Value → Shared → Prop} {s : Shared}
theorem call_enumT {t : Addr} {its : Array Value} {Q : Value → Shared → Prop} (hT : s.heap.IsTuple t its)
    (h : ∀ h', IsEnum h' (s.heap.objs.size + 1) s.heap.objs.size 0 .none → h'.IsTupleIter s.heap.objs.size t 0 → (∀ b o, s.heap.get? b = some o → h'.get? b = some o) →
      Q (.ref (s.heap.objs.size + 1)) { s with heap := h' }) : wpAny (model prog w) A (call (.type "enumerate") [.ref t]) Q E s := by
  obtain ⟨⟨c, dc, dt, sl⟩, ht, hc, n, hd⟩ := hT
  obtain rfl : c = .type "tuple" := hc
  obtain rfl : dt = .seq its n := hd
  have hz : (s.heap.push (tupItO t)).objs.size = s.heap.objs.size + 1 := Heap.size_push ..
  have he : ((s.heap.push (tupItO t)).push (enumO s.heap.objs.size)).get? (s.heap.objs.size + 1) = some (enumO s.heap.objs.size) := by
    rw [← hz]; exact Heap.get?_push_size _ rfl
  refine callType_new F.called_enumerate (by decide) (F.typeCall_enumerate_1 _) (F.newCall_enumerate_1 _) (fun ob => F.args_object_init_2 ob _) F.entry_enumerate_new (meets_enumT t its n dc sl) ⟨ht, ?_⟩
  show _ ∧ _
  rw [hz]
  refine ⟨⟨_, he, rfl⟩, h _ he ⟨_, Heap.get?_push_of_some _ (Heap.get?_push_size _ rfl), rfl, rfl⟩ fun b o x => ?_⟩
  exact Heap.get?_push_of_some _ (Heap.get?_push_of_some _ x)
end

/-- the tuple at a, each item in a new pair with its number -/
def IteT (K : PySem.W.Frag) (a : Addr) : It where
  go := fun i H => ∃ (xs : List V) (x : V), SqT K H a xs ∧ xs[i]? = some x
  yld := fun i H v H' => ∃ T x, v = .ref T ∧ H T = none ∧ H' = upd H T (.tup [.int (i : Nat), x]) ∧ ∀ xs, SqT K H a xs → xs[i]? = some x
  stop := fun i H => ∃ xs : List V, SqT K H a xs ∧ xs.length = i
theorem turn_enumT {P : Program} {w : World} {K : PySem.W.Frag} {el : List Expr} {kk : Nat} {tp : Pos} (a e it : Addr) :
    Turn P w K (.Tuple el kk tp) (IteT K a) [e, it] e (fun i h => (∃ old, IsEnum h e it ((i : Nat) : Int) old) ∧ h.IsTupleIter it a i ∧ e ≠ it ∧ a ≠ it) where
  mem := List.mem_cons_self
  obj := fun i h ⟨⟨old, he⟩, ⟨o, ho, _, hd⟩, _⟩ b hb => by
    rcases List.mem_cons.mp hb with z | z
    · subst z; exact ⟨_, he, fun v q => nomatch q⟩
    · obtain rfl := List.mem_singleton.mp z
      exact ⟨o, ho, fun v q => by rw [hd] at q; cases q⟩
  keep := fun i h h' ⟨⟨old, he⟩, hi, hne⟩ k => ⟨⟨old, k e (by simp) _ he⟩, hi.at fun o q => k it (by simp) o q, hne⟩
  item := by
    intro X hP hw hK hc i pins s sg H E I hf ⟨⟨old, he⟩, hit, hne, hai⟩ ⟨xs, x, hq, hx⟩
    subst hP hw hK
    obtain ⟨its, rv, pt, hz⟩ := I.tuple hq
    obtain ⟨u, hu, ru⟩ := rv.get hx
    have hel : e < s.heap.objs.size := Heap.lt_size he
    have hil : it < s.heap.objs.size := by obtain ⟨_, q, _⟩ := hit; exact Heap.lt_size q
    have hT : s.heap.IsTuple a its.toArray := by obtain ⟨o, h1, h2, h3⟩ := pt; exact ⟨o, h1, h2, h3⟩
    have hlt : i < its.toArray.size := by
      have q := (List.getElem?_eq_some_iff.mp hu).1
      simpa using q
    by_cases hae : a = e
    · subst hae
      obtain ⟨o, h1, h2, _⟩ := hT
      have q : s.heap.get? a = _ := he
      rw [h1] at q
      have q' := Option.some.inj q
      rw [q'] at h2
      exact absurd h2 (by show Value.type "enumerate" ≠ Value.type "tuple"; decide +kernel)
    have D := Draws.tuple (prog := X.prog) (w := X.w) (A := X.A.in1) (I.ok.hd hc) it a hai its.toArray
    refine wpAny_pyNext_enum_itemD D he ⟨hit, hT⟩ hlt hne (by simp [hne, Ne.symm hae]) fun y h' tk hy ho ⟨hit', _⟩ hTn hsz hk => ?_
    obtain rfl : y = u := by
      have q : its[i]? = some y := by simpa using hy
      rw [hu] at q
      exact (Option.some.inj q).symm
    refine ⟨_, rfl, wpAny_letOwnedTupleGo_enum (s := { s with heap := h', toks := tk + 1 }) ho fun h2 he2 sb => ?_⟩
    have hT2 : h2.get? s.heap.objs.size = some { cls := .type "tuple", data := .seq #[.int i tk, y] } := (sb.2 _ (Nat.ne_of_gt hel)).trans hTn
    have nw : ObjOk X.prog X.w (upd H s.heap.objs.size (.tup [.int (i : Nat), x])) h2 s.heap.objs.size (.tup [.int (i : Nat), x]) :=
      ⟨by show 2 ≤ sizeLine; decide, [.int i tk, y], .cons ⟨_, rfl⟩ (.cons ru .nil), _, hT2, rfl, _, rfl⟩
    have I1 : Inv X pins sg (upd H s.heap.objs.size (.tup [.int (i : Nat), x])) { s with heap := h2, toks := tk + 1 } :=
      I.turnedNew (ch := [e, it]) (fun b ob hb q => by
        have h1 : b ≠ e := fun z => hb (by simp [z])
        exact (sb.2 b h1).trans (hk b ob h1 (fun z => hb (by simp [z])) q)) hf (Nat.le_refl _) nw
    refine ⟨.ref s.heap.objs.size, _, I1, rfl, ⟨_, x, rfl, I.hok.fresh (Nat.le_refl _), rfl, fun ys hy => by rw [I.tuple_inj hy hq]; exact hx⟩, ⟨⟨y, ?_⟩, hit'.at fun o q => (sb.2 it (Ne.symm hne)).trans q, hne, hai⟩, fun b hb => ?_⟩
    · have e1 : ((i + 1 : Nat) : Int) = (i : Int) + 1 := by omega
      rw [e1]; exact he2
    · have hb' : b < s.heap.objs.size := by
        rcases List.mem_cons.mp hb with z | z
        · rw [z]; exact hel
        · rw [List.mem_singleton.mp z]; exact hil
      rw [upd_ne (Nat.ne_of_lt hb')]
      exact (hf b hb).1
  done := by
    intro X hP hw hK hc i pins s sg H E I hf ⟨⟨old, he⟩, hit, hne, hai⟩ ⟨xs, hq, hx⟩
    subst hP hw hK
    obtain ⟨its, rv, pt, hz⟩ := I.tuple hq
    have hT : s.heap.IsTuple a its.toArray := by obtain ⟨o, h1, h2, h3⟩ := pt; exact ⟨o, h1, h2, h3⟩
    obtain ⟨f0, f1, f2, f3, f4, f5⟩ := hf it (by simp)
    have hl : its.toArray.size = i := by rw [List.size_toArray, ← rv.length]; exact hx
    have D := Draws.tuple (prog := X.prog) (w := X.w) (A := X.A.in1) (I.ok.hd hc) it a hai its.toArray
    have st : s.heap.IsTupleIter it a its.toArray.size ∧ s.heap.IsTuple a its.toArray := ⟨by rw [hl]; exact hit, hT⟩
    refine wpAny_pyNext_enum_endD D he st fun h' eb => ⟨rfl, ?_⟩
    exact I.turned (t' := s.toks) (fun b o hb q => eb b o hb q) f0 f1 f3 f4 f5
  self := fun A i s Q E ⟨⟨_, he⟩, _⟩ h => wpAny_pyIter_enum he h

/-- enumerate of a list or of a tuple -/
def iEnA (K : PySem.W.Frag) (ta : TA) : TI := fun sg H R => ta sg H fun vs H1 => ∃ a xs, vs = [.ref a] ∧ ((SqL K H1 a xs ∧ R (Ite K a) H1) ∨ (SqT K H1 a xs ∧ R (IteT K a) H1))
theorem pi_enA {X : Cx} {e : Expr} {ta : TA} {p pos tp : Pos} {el : List Expr} {kk : Nat} (hg : Gl X "enumerate") (hm : X.mg "enumerate" = none) (ha : PA X [e] ta) (hs : starEach [e] X.env = [(false, eval e X.env)]) :
    PI X (.Tuple el kk tp) (.Call (.Name "enumerate" p) [e] [] pos) (iEnA X.K ta) := by
  refine ⟨fun pins s sg H R I h => ?_⟩
  refine Call_ (ld_blt I hg hm boot_enumerate (PyProof.Rows.callWith_type1 (thn (ha.run pos pins s sg H _ I h) fun us s1 ⟨vs, H1, I1, r1, a, xs, ex, q⟩ => ?_) hs rfl))
  subst ex
  obtain ⟨u, rfl, r⟩ := vals1 r1
  obtain rfl : u = Value.ref a := r
  have le : ∀ b ∈ [s1.heap.objs.size + 1, s1.heap.objs.size], s1.heap.objs.size ≤ b := fun b hb => by
    rcases List.mem_cons.mp hb with z | z
    · rw [z]; exact Nat.le_add_right _ _
    · rw [List.mem_singleton.mp z]; exact Nat.le_refl _
  rcases q with ⟨hq, q⟩ | ⟨hq, q⟩
  · obtain ⟨its, rv, pl, _⟩ := I1.list hq
    refine call_enumerate_list pl.isList fun h' he hit hsz hk => wpAny_pyIter_enum he ?_
    refine ⟨_, [s1.heap.objs.size + 1, s1.heap.objs.size], _, _, H1, rfl, I1.kept (t' := s1.toks) hk, turn_enum a _ s1.heap.objs.size, ⟨⟨.none, he⟩, hit, Nat.succ_ne_self _⟩, fun b hb => ?_, q⟩
    exact I1.fpOk (le b hb) (I1.hok.fresh (le b hb))
  · obtain ⟨its, rv, pt, _⟩ := I1.tuple hq
    have hT : s1.heap.IsTuple a its.toArray := by obtain ⟨o, h1, h2, h3⟩ := pt; exact ⟨o, h1, h2, h3⟩
    have hal : a < s1.heap.objs.size := by obtain ⟨o, h1, _⟩ := hT; exact Heap.lt_size h1
    refine call_enumT hT fun h' he hit hk => wpAny_pyIter_enum he ?_
    refine ⟨_, [s1.heap.objs.size + 1, s1.heap.objs.size], _, _, H1, rfl, I1.kept (t' := s1.toks) hk, turn_enumT a _ s1.heap.objs.size, ⟨⟨.none, he⟩, hit, Nat.succ_ne_self _, Nat.ne_of_lt hal⟩, fun b hb => ?_, q⟩
    exact I1.fpOk (le b hb) (I1.hok.fresh (le b hb))
theorem walk_enT {K : PySem.W.Frag} {a : Addr} {xs : List V} : Walk (IteT K a) xs.length (fun H => SqT K H a xs) (YPair (fun i => some (.int (i : Nat))) (fun i => xs[i]?)) where
  goes := fun i _ hi q => ⟨xs, xs[i], q, by simp [hi]⟩
  stops := fun _ q => ⟨xs, q, rfl⟩
  yields := fun i H v H' _ q ⟨T, x, h1, h2, h3, h4⟩ => ⟨T, .int (i : Nat), x, h1, h2, h3, rfl, h4 xs q⟩
end Den

/-! D2: which text an IR term stands for, by a Bool function. -/
namespace Den
open PySem PySem.Spec PyProof.Rows L2
/-- where one stands: the names by slots, the scope that runs, whose cells are made here -/
structure CC where
  N : List Str
  sc : Scope
  fn : Str → Bool
/-- the module: its functions (name, parameters), its ints, the built-ins that it leaves as they are -/
structure GD where
  fns : List (Str × Nat)
  nums : List (Str × Int)
  blts : List Str
  txts : List (Str × Str) := []
  cls : List (Str × Nat × Nat) := []
  attrs : List (Str × Str) := []
  mths : List (Str × Str × Nat × Nat) := []

def isNm (a b : Str) : Bool := decide (a = b)
def okN (x : Str) : Bool := !(x == ("__debug__" : Str)) && !(x == ("__classdict__" : Str))
def visB (sc : Scope) (x : Str) : Bool := match sc.names.lookup x with
  | some .local => true
  | some .cell => true
  | some .free => true
  | _ => false
def locB (sc : Scope) (x : Str) : Bool := match sc.names.lookup x with
  | some .local => true
  | some .cell => true
  | _ => false
def lclB (sc : Scope) (x : Str) : Bool := match sc.names.lookup x with
  | some .local => true
  | _ => false
def cellB (sc : Scope) (x : Str) : Bool := match sc.names.lookup x with
  | some .cell => true
  | _ => false
def glB (sc : Scope) (x : Str) : Bool := match sc.names.lookup x with
  | some .globalImplicit => true
  | _ => false
def bltB (g : GD) (c : CC) (x y : Str) : Bool := isNm x y && glB c.sc x && g.blts.any (fun z => isNm z x) && okN x
def plainIxB : Expr → Bool
  | .Slice _ _ _ _ => false
  | _ => true
def plainBaseB : Expr → Bool
  | .Call _ [] [] _ => false
  | _ => true
def notSetB : Expr → Bool
  | .Set _ _ _ => false
  | _ => true
def tyNames : List (Str × String) → List Expr → Bool
  | [], [] => true
  | (x, n) :: ns, .Name y _ :: es => isNm x y && isNm x n && tyNames ns es
  | _, _ => false
def tyGl (g : GD) (c : CC) : List (Str × String) → Bool
  | [] => true
  | (x, n) :: ns => glB c.sc x && g.blts.any (fun z => isNm z x) && okN x && decide (bootBuiltins x = some (.type n)) && !isNm x "__name__" && tyGl g c ns
def nsB : Expr → Bool
  | .Starred _ _ => false
  | _ => true
def nvB : Expr → Bool
  | .Starred _ _ => false
  | .ListComp _ _ _ _ => false
  | .SetComp _ _ _ _ => false
  | .DictComp _ _ _ _ _ => false
  | _ => true
def pairIn (l : List (Str × Str)) (a b : Str) : Bool := l.any fun p => isNm p.1 a && isNm p.2 b
def clsIn (l : List (Str × Nat × Nat)) (a : Str) (i n : Nat) : Bool := l.any fun p => isNm p.1 a && decide (p.2.1 = i) && decide (p.2.2 = n)
def clsNm (l : List (Str × Nat × Nat)) (a : Str) : Bool := l.any fun p => isNm p.1 a
def mthIn (l : List (Str × Str × Nat × Nat)) (a b : Str) (i n : Nat) : Bool := l.any fun p => isNm p.1 a && isNm p.2.1 b && decide (p.2.2.1 = i) && decide (p.2.2.2 = n)
def mthName : Mth → Str
  | .count => "count" | .append => "append" | .pop => "pop"
def isTupT : T → Bool
  | .tup _ => true
  | _ => false
/-- a comprehension's block -/
def blk (c : CC) (scope : Scope) : CC := ⟨c.N, relS scope c.sc, fun x => scope.names.lookup x == some .cell⟩
mutual
def cT (c : CC) : T → Expr → Bool
  | .name i, .Name x _ => decide (c.N[i]? = some x) && locB c.sc x && (c.fn x || lclB c.sc x)
  | .tup ts, .Tuple es _ _ => cTs c ts es
  | _, _ => false
def cTs (c : CC) : T → List Expr → Bool
  | .nil, [] => true
  | .cons t ts, e :: es => cT c t e && cTs c ts es
  | _, _ => false
end
/-- the slots that a target stores -/
def slotsT : T → List Nat
  | .name i => [i]
  | .nil => []
  | .cons a as => slotsT a ++ slotsT as
  | .tup as => slotsT as
mutual
def cE (g : GD) : CC → E → Expr → Bool
  | c, .var i, .Name x _ => decide (c.N[i]? = some x) && visB c.sc x && okN x
  | _, .int i, .Constant (.int j) _ _ => decide (i = j)
  | _, .bl i, .Constant (.bool j) _ _ => i == j
  | _, .non, .Constant .none _ _ => true
  | _, .str x, .Constant (.str y) _ _ => isNm x y
  | c, .gstr x i, .Name y _ => isNm x y && glB c.sc y && decide (g.txts.lookup y = some i) && okN y
  | _, .dct0, .Dict [] [] _ => true
  | _, .dnew, .Dict [] [] _ => true
  | c, .trg1 t _ a, .Call (.Name x _) [.Call (.Name y _) [z] [] _] [] _ => (if t then bltB g c x "tuple" else bltB g c x "list") && bltB g c y "range" && cE g c a z
  | c, .trg2 t _ a b, .Call (.Name x _) [.Call (.Name y _) [z, w] [] _] [] _ => (if t then bltB g c x "tuple" else bltB g c x "list") && bltB g c y "range" && cE g c a z && cE g c b w
  | c, .ixd a b, .Subscript x y _ => plainIxB y && cE g c a x && cE g c b y
  | c, .ind ng a b, .Compare x [op'] [y] _ => decide (op' = (if ng then .NotIn else .In)) && !behindInMarks op' y && cE g c a x && cE g c b y
  | c, .dget a b d, .Call (.Attribute o nm ap) [x, y] [] cp => isNm nm "get" && plainBaseB o && (ap.endLine == cp.line) && cE g c a o && cE g c b x && cE g c d y
  | c, .dset a b d, .Call (.Attribute o nm ap) [x, y] [] cp => isNm nm "setdefault" && plainBaseB o && (ap.endLine == cp.line) && cE g c a o && cE g c b x && cE g c d y
  | _, .never, e => nvB e
  | c, .attr a f cs, .Attribute x nm _ => isNm nm f && plainBaseB x && cs.all (fun k => pairIn g.attrs k f) && cE g c a x
  | c, .mcall a m k i es, .Call (.Attribute o nm ap) xs [] cp => isNm nm m && plainBaseB o && (ap.endLine == cp.line) && decide (xs.length < 20) && mthIn g.mths k m i xs.length && cE g c a o && cL g c es xs
  | c, .new k i es, .Call (.Name x _) (a :: as) [] _ => isNm x k && glB c.sc x && okN x && clsIn g.cls k i (a :: as).length && cL g c es (a :: as)
  | c, .isc a k, .Call (.Name x _) [y, .Name z _] [] _ => bltB g c x "isinstance" && isNm z k && glB c.sc z && okN z && clsNm g.cls k && cE g c a y
  | c, .dct1 k i, .Dict [some (.Constant (.int j) _ _)] [.Name x _] _ => decide (k = j) && decide (c.N[i]? = some x) && visB c.sc x && okN x
  | c, .gint x i, .Name y _ => isNm x y && glB c.sc y && decide (g.nums.lookup y = some i) && okN y
  | c, .bin op _ a b, .BinOp x op' y _ => decide (op = op') && cE g c a x && cE g c b y
  | c, .neg a, .UnaryOp .USub x _ => cE g c a x
  | c, .cmp op a b, .Compare x [op'] [y] _ => decide (op = op') && !behindInMarks op y && cE g c a x && cE g c b y
  | c, .chain o1 o2 a b d, .Compare x [p1, p2] [y, z] _ => decide (o1 = p1) && decide (o2 = p2) && !lastMarks [o1, o2] [y, z] && cE g c a x && cE g c b y && cE g c d z
  | c, .and a b, .BoolOp .And (x :: y :: r) _ => cE g c a x && cAnd g c b (y :: r)
  | c, .or a b, .BoolOp .Or (x :: y :: r) _ => cE g c a x && cOr g c b (y :: r)
  | c, .not a, .UnaryOp .Not x _ => cE g c a x
  | c, .ite t a b, .IfExp x y z _ => cE g c t x && cE g c a y && cE g c b z
  | c, .tup es, .Tuple xs _ _ => cL g c es xs
  | c, .lst _ es, .List xs _ => cL g c es xs
  | c, .slc _ a lo hi, .Subscript x (.Slice l h none _) _ => cE g c a x && cP g c lo l && cP g c hi h
  | c, .ix a b, .Subscript x y _ => plainIxB y && cE g c a x && cE g c b y
  | c, .call f es, .Call (.Name x _) (a :: as) [] _ => glB c.sc x && okN x && decide (g.fns[f]? = some (x, (a :: as).length)) && cL g c es (a :: as)
  | c, .blt f _ es, .Call (.Name x _) (a :: as) [] _ => bltB g c x (bltName f) && cL g c es (a :: as)
  | c, .isi a ns false, .Call (.Name x _) [y, .Name z q] [] _ => bltB g c x "isinstance" && cE g c a y && decide (ns.length = 1) && tyNames ns [.Name z q] && tyGl g c ns
  | c, .isi a ns true, .Call (.Name x _) [y, .Tuple zs _ _] [] _ => bltB g c x "isinstance" && cE g c a y && tyNames ns zs && tyGl g c ns && decide (ns.length < 20)
  | c, .meth f a es, .Call (.Attribute o nm ap) (x :: xs) [] cp => isNm nm (mthName f) && plainBaseB o && (ap.endLine == cp.line) && decide ((x :: xs).length < 20) && cE g c a o && cL g c es (x :: xs)
  | c, .lc _ own tg it cond elt, .ListComp e [⟨t, i, ifs, z⟩] scope _ => decide (z = 0) && (blkC c.N c.sc scope own && notSetB i && cI g c it (isTupT tg) i && cT (blk c scope) tg t &&
      (slotsT tg).all (fun s => (own.map (·.2)).contains s) && cC g (blk c scope) cond ifs && cE g (blk c scope) elt e)
  | c, .lc2 _ own vs1 tg it tg1 it1 cond elt, .ListComp e [⟨t, i, ifs, z⟩, ⟨t1, i1, ifs1, z1⟩] scope _ => decide (z = 0) && decide (z1 = 0) && ifs.isEmpty && (blkC c.N c.sc scope own && notSetB i && notSetB i1 && cI g c it (isTupT tg) i && cT (blk c scope) tg t &&
      (slotsT tg).all (fun s => (own.map (·.2)).contains s) && cI g (blk c scope) it1 (isTupT tg1) i1 && cT (blk c scope) tg1 t1 && (slotsT tg1).all (fun s => vs1.contains s) && vs1.all (fun s => (own.map (·.2)).contains s) && cC g (blk c scope) cond ifs1 && cE g (blk c scope) elt e)
  | _, _, _ => false
def cAnd (g : GD) : CC → E → List Expr → Bool
  | c, e, [x] => cE g c e x
  | c, .and a b, x :: y :: r => cE g c a x && cAnd g c b (y :: r)
  | _, _, _ => false
def cOr (g : GD) : CC → E → List Expr → Bool
  | c, e, [x] => cE g c e x
  | c, .or a b, x :: y :: r => cE g c a x && cOr g c b (y :: r)
  | _, _, _ => false
def cL (g : GD) : CC → E → List Expr → Bool
  | _, .nil, [] => true
  | c, .cons a es, x :: xs => cE g c a x && cL g c es xs
  | _, _, _ => false
/-- a part of a slice -/
def cP (g : GD) : CC → E → Option Expr → Bool
  | _, .non, o => o.isNone
  | c, e, some x => cE g c e x
  | _, _, _ => false
/-- a comprehension's test -/
def cC (g : GD) : CC → E → List Expr → Bool
  | _, .bl true, [] => true
  | c, e, [x] => cE g c e x
  | _, _, _ => false
/-- what is walked; tt: the target is a written tuple -/
def cI (g : GD) : CC → E → Bool → Expr → Bool
  | c, .rng1 a, _, .Call (.Name x _) [y] [] _ => bltB g c x "range" && cE g c a y
  | c, .rng2 a b, _, .Call (.Name x _) [y, z] [] _ => bltB g c x "range" && cE g c a y && cE g c b z
  | c, .enum a, true, .Call (.Name x _) [y] [] _ => bltB g c x "enumerate" && cE g c a y
  | c, .zip a b, true, .Call (.Name x _) [y, z] [] _ => bltB g c x "zip" && cE g c a y && cE g c b z
  | c, .seq a, _, e => cE g c a e
  | c, .seqd a, _, e => cE g c a e
  | _, _, _, _ => false
end

/-- two names stored from the right -/
def parB (c : CC) (x y : Str) (px py : Pos) (a b : Expr) : Bool :=
  lclB c.sc x && lclB c.sc y && (px.line == py.line) && !isNm x y && notStarB a && notStarB b && ![a, b].all (foldedForSure 8) && ![a, b].all (constantsAlone 8)
where notStarB : Expr → Bool
  | .Starred _ _ => false
  | _ => true
/-- a tuple target that is unpacked plainly: some name is no plain local -/
def noSwapB (c : CC) : List Expr → Expr → Bool
  | ts, .Tuple vs _ _ => !(ts.length == 2 || ts.length == 3) || vs.length != ts.length || ts.any (fun | .Name x _ => !lclB c.sc x | _ => true)
  | _, _ => true
def noLcB : Expr → Bool
  | .ListComp _ _ _ _ => false
  | .SetComp _ _ _ _ => false
  | .DictComp _ _ _ _ _ => false
  | _ => true
/-- a plain assignment: the value is checked apart -/
def nameB (c : CC) (i : Nat) (x : Str) (p : Pos) (v : Expr) : Bool := decide (c.N[i]? = some x) && locB c.sc x && (c.fn x || lclB c.sc x) &&
  (match v with
    | .ListComp _ gs scope pos => cellB c.sc x || (decide (gs.length = 1) && lclB c.sc x && (p.line == pos.line) && !(scope.names.any fun (n, k) => n == x && (k == .local || k == .cell)))
    | .SetComp _ _ _ _ => false
    | .DictComp _ _ _ _ _ => false
    | _ => true)
def asgB (c : CC) : T → List Expr → Expr → Bool
  | .name i, [.Name x p], v => nameB c i x p v
  | .tup ts, [.Tuple es _ _], v => noLcB v && cTs c ts es && noSwapB c es v
  | _, _, _ => false
/-- x, y = a, b -/
def parV : List Expr → Expr → Option (Str × Pos × Str × Pos × Expr × Expr)
  | [.Tuple [.Name x px, .Name y py] _ _], .Tuple [u, v] _ _ => some (x, px, y, py, u, v)
  | _, _ => none
/-- o[i] = .. -/
def subV : List Expr → Option (Expr × Expr)
  | [.Subscript x y _] => some (x, y)
  | _ => none
/-- o.f = .. -/
def atV : List Expr → Option (Expr × Str)
  | [.Attribute x n _] => some (x, n)
  | _ => none
/-- x, y, z = a, b, c -/
def par3V : List Expr → Expr → Option (Str × Pos × Str × Pos × Str × Pos × Expr × Expr × Expr)
  | [.Tuple [.Name x px, .Name y py, .Name z pz] _ _], .Tuple [u, v, w] _ _ => some (x, px, y, py, z, pz, u, v, w)
  | _, _ => none
def par3B (c : CC) (x y z : Str) (px py pz : Pos) (a b d : Expr) : Bool :=
  lclB c.sc x && lclB c.sc y && lclB c.sc z && (px.line == py.line) && (px.line == pz.line) && !isNm x y && !isNm x z && !isNm y z && nsB a && nsB b && nsB d && ![a, b, d].all (foldedForSure 8) && ![a, b, d].all (constantsAlone 8)
mutual
def cS (g : GD) : CC → S → Stmt → Bool
  | c, .expr e, .Expr x _ => noLcB x && cE g c e x
  | c, .ret e, .Return (some x) _ => cE g c e x
  | _, .retN, .Return none _ => true
  | c, .asg t e, .Assign ts v _ => cE g c e v && asgB c t ts v
  | c, .par i j a b, .Assign ts v _ => (match parV ts v with
    | some (x, px, y, py, u, v) => decide (c.N[i]? = some x) && decide (c.N[j]? = some y) && decide (i ≠ j) && parB c x y px py u v && cE g c a u && cE g c b v
    | none => false)
  | c, .setix o i e, .Assign ts v _ => (match subV ts with
    | some (x, y) => plainIxB y && noLcB v && cE g c e v && cE g c o x && cE g c i y
    | none => false)
  | c, .setd o i e, .Assign ts v _ => (match subV ts with
    | some (x, y) => plainIxB y && noLcB v && cE g c e v && cE g c o x && cE g c i y
    | none => false)
  | c, .setat o f cs e, .Assign ts v _ => (match atV ts with
    | some (x, nm) => isNm nm f && noLcB v && cs.all (fun k => pairIn g.attrs k f) && cE g c e v && cE g c o x
    | none => false)
  | c, .par3 i j l a b d, .Assign ts v _ => (match par3V ts v with
    | some (x, px, y, py, z, pz, u, v, w) => decide (c.N[i]? = some x) && decide (c.N[j]? = some y) && decide (c.N[l]? = some z) && decide (i ≠ j) && decide (i ≠ l) && decide (j ≠ l) && par3B c x y z px py pz u v w && cE g c a u && cE g c b v && cE g c d w
    | none => false)
  | c, .aug i op e, .AugAssign (.Name x _) op' v _ => decide (op = op') && decide (c.N[i]? = some x) && locB c.sc x && (c.fn x || lclB c.sc x) && cE g c e v
  | c, .ite t a b, .If x y z _ => cE g c t x && cSs g c a y && cSs g c b z
  | c, .for t it b, .For tg i y z _ => z.isEmpty && notSetB i && cT c t tg && cI g c it (isTupT t) i && cSs g c b y
  | c, .while t b, .While x y z _ => z.isEmpty && cE g c t x && cSs g c b y
  | _, .brk, .Break _ => true
  | _, .cnt, .Continue _ => true
  | _, .nop, .Pass _ => true
  | _, .stuck, _ => true
  | _, _, _ => false
def cSs (g : GD) : CC → S → List Stmt → Bool
  | _, .nop, [] => true
  | c, .seq a b, x :: xs => cS g c a x && cSs g c b xs
  | _, _, _ => false
end
end Den

/-! D2f: the checker with fuel. -/
namespace Den
open PySem PySem.Spec PyProof.Rows L2
mutual
def fE (g : GD) : Nat → CC → E → Expr → Bool
  | 0, _, _, _ => false
  | n + 1, c, .var i, .Name x _ => decide (c.N[i]? = some x) && visB c.sc x && okN x
  | n + 1, _, .int i, .Constant (.int j) _ _ => decide (i = j)
  | n + 1, _, .bl i, .Constant (.bool j) _ _ => i == j
  | n + 1, _, .non, .Constant .none _ _ => true
  | n + 1, _, .str x, .Constant (.str y) _ _ => isNm x y
  | n + 1, c, .gstr x i, .Name y _ => isNm x y && glB c.sc y && decide (g.txts.lookup y = some i) && okN y
  | n + 1, _, .dct0, .Dict [] [] _ => true
  | n + 1, _, .dnew, .Dict [] [] _ => true
  | n + 1, c, .trg1 t _ a, .Call (.Name x _) [.Call (.Name y _) [z] [] _] [] _ => (if t then bltB g c x "tuple" else bltB g c x "list") && bltB g c y "range" && fE g n c a z
  | n + 1, c, .trg2 t _ a b, .Call (.Name x _) [.Call (.Name y _) [z, w] [] _] [] _ => (if t then bltB g c x "tuple" else bltB g c x "list") && bltB g c y "range" && fE g n c a z && fE g n c b w
  | n + 1, c, .ixd a b, .Subscript x y _ => plainIxB y && fE g n c a x && fE g n c b y
  | n + 1, c, .ind ng a b, .Compare x [op'] [y] _ => decide (op' = (if ng then .NotIn else .In)) && !behindInMarks op' y && fE g n c a x && fE g n c b y
  | n + 1, c, .dget a b d, .Call (.Attribute o nm ap) [x, y] [] cp => isNm nm "get" && plainBaseB o && (ap.endLine == cp.line) && fE g n c a o && fE g n c b x && fE g n c d y
  | n + 1, c, .dset a b d, .Call (.Attribute o nm ap) [x, y] [] cp => isNm nm "setdefault" && plainBaseB o && (ap.endLine == cp.line) && fE g n c a o && fE g n c b x && fE g n c d y
  | n + 1, _, .never, e => nvB e
  | n + 1, c, .attr a f cs, .Attribute x nm _ => isNm nm f && plainBaseB x && cs.all (fun k => pairIn g.attrs k f) && fE g n c a x
  | n + 1, c, .mcall a m k i es, .Call (.Attribute o nm ap) xs [] cp => isNm nm m && plainBaseB o && (ap.endLine == cp.line) && decide (xs.length < 20) && mthIn g.mths k m i xs.length && fE g n c a o && fL g n c es xs
  | n + 1, c, .new k i es, .Call (.Name x _) (a :: as) [] _ => isNm x k && glB c.sc x && okN x && clsIn g.cls k i (a :: as).length && fL g n c es (a :: as)
  | n + 1, c, .isc a k, .Call (.Name x _) [y, .Name z _] [] _ => bltB g c x "isinstance" && isNm z k && glB c.sc z && okN z && clsNm g.cls k && fE g n c a y
  | n + 1, c, .dct1 k i, .Dict [some (.Constant (.int j) _ _)] [.Name x _] _ => decide (k = j) && decide (c.N[i]? = some x) && visB c.sc x && okN x
  | n + 1, c, .gint x i, .Name y _ => isNm x y && glB c.sc y && decide (g.nums.lookup y = some i) && okN y
  | n + 1, c, .bin op _ a b, .BinOp x op' y _ => decide (op = op') && fE g n c a x && fE g n c b y
  | n + 1, c, .neg a, .UnaryOp .USub x _ => fE g n c a x
  | n + 1, c, .cmp op a b, .Compare x [op'] [y] _ => decide (op = op') && !behindInMarks op y && fE g n c a x && fE g n c b y
  | n + 1, c, .chain o1 o2 a b d, .Compare x [p1, p2] [y, z] _ => decide (o1 = p1) && decide (o2 = p2) && !lastMarks [o1, o2] [y, z] && fE g n c a x && fE g n c b y && fE g n c d z
  | n + 1, c, .and a b, .BoolOp .And (x :: y :: r) _ => fE g n c a x && fAnd g n c b (y :: r)
  | n + 1, c, .or a b, .BoolOp .Or (x :: y :: r) _ => fE g n c a x && fOr g n c b (y :: r)
  | n + 1, c, .not a, .UnaryOp .Not x _ => fE g n c a x
  | n + 1, c, .ite t a b, .IfExp x y z _ => fE g n c t x && fE g n c a y && fE g n c b z
  | n + 1, c, .tup es, .Tuple xs _ _ => fL g n c es xs
  | n + 1, c, .lst _ es, .List xs _ => fL g n c es xs
  | n + 1, c, .slc _ a lo hi, .Subscript x (.Slice l h none _) _ => fE g n c a x && fP g n c lo l && fP g n c hi h
  | n + 1, c, .ix a b, .Subscript x y _ => plainIxB y && fE g n c a x && fE g n c b y
  | n + 1, c, .call f es, .Call (.Name x _) (a :: as) [] _ => glB c.sc x && okN x && decide (g.fns[f]? = some (x, (a :: as).length)) && fL g n c es (a :: as)
  | n + 1, c, .blt f _ es, .Call (.Name x _) (a :: as) [] _ => bltB g c x (bltName f) && fL g n c es (a :: as)
  | n + 1, c, .isi a ns false, .Call (.Name x _) [y, .Name z q] [] _ => bltB g c x "isinstance" && fE g n c a y && decide (ns.length = 1) && tyNames ns [.Name z q] && tyGl g c ns
  | n + 1, c, .isi a ns true, .Call (.Name x _) [y, .Tuple zs _ _] [] _ => bltB g c x "isinstance" && fE g n c a y && tyNames ns zs && tyGl g c ns && decide (ns.length < 20)
  | n + 1, c, .meth f a es, .Call (.Attribute o nm ap) (x :: xs) [] cp => isNm nm (mthName f) && plainBaseB o && (ap.endLine == cp.line) && decide ((x :: xs).length < 20) && fE g n c a o && fL g n c es (x :: xs)
  | n + 1, c, .lc _ own tg it cond elt, .ListComp e [⟨t, i, ifs, z⟩] scope _ => decide (z = 0) && (blkC c.N c.sc scope own && notSetB i && fI g n c it (isTupT tg) i && cT (blk c scope) tg t &&
      (slotsT tg).all (fun s => (own.map (·.2)).contains s) && fC g n (blk c scope) cond ifs && fE g n (blk c scope) elt e)
  | n + 1, c, .lc2 _ own vs1 tg it tg1 it1 cond elt, .ListComp e [⟨t, i, ifs, z⟩, ⟨t1, i1, ifs1, z1⟩] scope _ => decide (z = 0) && decide (z1 = 0) && ifs.isEmpty && (blkC c.N c.sc scope own && notSetB i && notSetB i1 && fI g n c it (isTupT tg) i && cT (blk c scope) tg t &&
      (slotsT tg).all (fun s => (own.map (·.2)).contains s) && fI g n (blk c scope) it1 (isTupT tg1) i1 && cT (blk c scope) tg1 t1 && (slotsT tg1).all (fun s => vs1.contains s) && vs1.all (fun s => (own.map (·.2)).contains s) && fC g n (blk c scope) cond ifs1 && fE g n (blk c scope) elt e)
  | n + 1, _, _, _ => false
def fAnd (g : GD) : Nat → CC → E → List Expr → Bool
  | 0, _, _, _ => false
  | n + 1, c, e, [x] => fE g n c e x
  | n + 1, c, .and a b, x :: y :: r => fE g n c a x && fAnd g n c b (y :: r)
  | n + 1, _, _, _ => false
def fOr (g : GD) : Nat → CC → E → List Expr → Bool
  | 0, _, _, _ => false
  | n + 1, c, e, [x] => fE g n c e x
  | n + 1, c, .or a b, x :: y :: r => fE g n c a x && fOr g n c b (y :: r)
  | n + 1, _, _, _ => false
def fL (g : GD) : Nat → CC → E → List Expr → Bool
  | 0, _, _, _ => false
  | n + 1, _, .nil, [] => true
  | n + 1, c, .cons a es, x :: xs => fE g n c a x && fL g n c es xs
  | n + 1, _, _, _ => false
/-- a part of a slice -/
def fP (g : GD) : Nat → CC → E → Option Expr → Bool
  | 0, _, _, _ => false
  | n + 1, _, .non, o => o.isNone
  | n + 1, c, e, some x => fE g n c e x
  | n + 1, _, _, _ => false
/-- a comprehension's test -/
def fC (g : GD) : Nat → CC → E → List Expr → Bool
  | 0, _, _, _ => false
  | n + 1, _, .bl true, [] => true
  | n + 1, c, e, [x] => fE g n c e x
  | n + 1, _, _, _ => false
/-- what is walked; tt: the target is a written tuple -/
def fI (g : GD) : Nat → CC → E → Bool → Expr → Bool
  | 0, _, _, _, _ => false
  | n + 1, c, .rng1 a, _, .Call (.Name x _) [y] [] _ => bltB g c x "range" && fE g n c a y
  | n + 1, c, .rng2 a b, _, .Call (.Name x _) [y, z] [] _ => bltB g c x "range" && fE g n c a y && fE g n c b z
  | n + 1, c, .enum a, true, .Call (.Name x _) [y] [] _ => bltB g c x "enumerate" && fE g n c a y
  | n + 1, c, .zip a b, true, .Call (.Name x _) [y, z] [] _ => bltB g c x "zip" && fE g n c a y && fE g n c b z
  | n + 1, c, .seq a, _, e => fE g n c a e
  | n + 1, c, .seqd a, _, e => fE g n c a e
  | n + 1, _, _, _, _ => false
end
mutual
def fS (g : GD) (n : Nat) : CC → S → Stmt → Bool
  | c, .expr e, .Expr x _ => noLcB x && fE g n c e x
  | c, .ret e, .Return (some x) _ => fE g n c e x
  | _, .retN, .Return none _ => true
  | c, .asg t e, .Assign ts v _ => fE g n c e v && asgB c t ts v
  | c, .par i j a b, .Assign ts v _ => (match parV ts v with
    | some (x, px, y, py, u, v) => decide (c.N[i]? = some x) && decide (c.N[j]? = some y) && decide (i ≠ j) && parB c x y px py u v && fE g n c a u && fE g n c b v
    | none => false)
  | c, .setix o i e, .Assign ts v _ => (match subV ts with
    | some (x, y) => plainIxB y && noLcB v && fE g n c e v && fE g n c o x && fE g n c i y
    | none => false)
  | c, .setd o i e, .Assign ts v _ => (match subV ts with
    | some (x, y) => plainIxB y && noLcB v && fE g n c e v && fE g n c o x && fE g n c i y
    | none => false)
  | c, .setat o f cs e, .Assign ts v _ => (match atV ts with
    | some (x, nm) => isNm nm f && noLcB v && cs.all (fun k => pairIn g.attrs k f) && fE g n c e v && fE g n c o x
    | none => false)
  | c, .par3 i j l a b d, .Assign ts v _ => (match par3V ts v with
    | some (x, px, y, py, z, pz, u, v, w) => decide (c.N[i]? = some x) && decide (c.N[j]? = some y) && decide (c.N[l]? = some z) && decide (i ≠ j) && decide (i ≠ l) && decide (j ≠ l) && par3B c x y z px py pz u v w && fE g n c a u && fE g n c b v && fE g n c d w
    | none => false)
  | c, .aug i op e, .AugAssign (.Name x _) op' v _ => decide (op = op') && decide (c.N[i]? = some x) && locB c.sc x && (c.fn x || lclB c.sc x) && fE g n c e v
  | c, .ite t a b, .If x y z _ => fE g n c t x && fSs g n c a y && fSs g n c b z
  | c, .for t it b, .For tg i y z _ => z.isEmpty && notSetB i && cT c t tg && fI g n c it (isTupT t) i && fSs g n c b y
  | c, .while t b, .While x y z _ => z.isEmpty && fE g n c t x && fSs g n c b y
  | _, .brk, .Break _ => true
  | _, .cnt, .Continue _ => true
  | _, .nop, .Pass _ => true
  | _, .stuck, _ => true
  | _, _, _ => false
def fSs (g : GD) (n : Nat) : CC → S → List Stmt → Bool
  | _, .nop, [] => true
  | c, .seq a b, x :: xs => fS g n c a x && fSs g n c b xs
  | _, _, _ => false
end
theorem bm {a b a' b' : Bool} (h1 : a = true → a' = true) (h2 : b = true → b' = true) : (a && b) = true → (a' && b') = true := by
  rw [Bool.and_eq_true, Bool.and_eq_true]
  exact fun h => ⟨h1 h.1, h2 h.2⟩
structure Fu (g : GD) (n : Nat) : Prop where
  e : ∀ c e x, fE g n c e x = true → cE g c e x = true
  a : ∀ c e x, fAnd g n c e x = true → cAnd g c e x = true
  o : ∀ c e x, fOr g n c e x = true → cOr g c e x = true
  l : ∀ c e x, fL g n c e x = true → cL g c e x = true
  p : ∀ c e x, fP g n c e x = true → cP g c e x = true
  c : ∀ c e x, fC g n c e x = true → cC g c e x = true
  i : ∀ c e b x, fI g n c e b x = true → cI g c e b x = true
theorem fu_zero {g : GD} : Fu g 0 := ⟨fun c e x h => by simp [fE] at h, fun c e x h => by simp [fAnd] at h, fun c e x h => by simp [fOr] at h, fun c e x h => by simp [fL] at h, fun c e x h => by simp [fP] at h, fun c e x h => by simp [fC] at h, fun c e b x h => by simp [fI] at h⟩
section
variable {g : GD} {n : Nat} (ih : Fu g n)
include ih

theorem fu_E : ∀ c e x, fE g (n + 1) c e x = true → cE g c e x = true := by
  intro c e x h
  unfold fE at h
  split at h <;> first
    | (cases h; done)
    | (revert h; injections; subst_vars; simp only [cE]; repeat' (first | exact fun h => h | exact ih.e _ _ _ | exact ih.a _ _ _ | exact ih.o _ _ _ | exact ih.l _ _ _ | exact ih.p _ _ _ | exact ih.c _ _ _ | exact ih.i _ _ _ _ | refine bm ?_ ?_))
theorem fu_And : ∀ c e x, fAnd g (n + 1) c e x = true → cAnd g c e x = true := by
  intro c e x h
  unfold fAnd at h
  split at h <;> first
    | (cases h; done)
    | (revert h; injections; subst_vars; simp only [cAnd]; repeat' (first | exact fun h => h | exact ih.e _ _ _ | exact ih.a _ _ _ | exact ih.o _ _ _ | exact ih.l _ _ _ | exact ih.p _ _ _ | exact ih.c _ _ _ | exact ih.i _ _ _ _ | refine bm ?_ ?_))
theorem fu_Or : ∀ c e x, fOr g (n + 1) c e x = true → cOr g c e x = true := by
  intro c e x h
  unfold fOr at h
  split at h <;> first
    | (cases h; done)
    | (revert h; injections; subst_vars; simp only [cOr]; repeat' (first | exact fun h => h | exact ih.e _ _ _ | exact ih.a _ _ _ | exact ih.o _ _ _ | exact ih.l _ _ _ | exact ih.p _ _ _ | exact ih.c _ _ _ | exact ih.i _ _ _ _ | refine bm ?_ ?_))
theorem fu_L : ∀ c e x, fL g (n + 1) c e x = true → cL g c e x = true := by
  intro c e x h
  unfold fL at h
  split at h <;> first
    | (cases h; done)
    | (revert h; injections; subst_vars; simp only [cL]; repeat' (first | exact fun h => h | exact ih.e _ _ _ | exact ih.a _ _ _ | exact ih.o _ _ _ | exact ih.l _ _ _ | exact ih.p _ _ _ | exact ih.c _ _ _ | exact ih.i _ _ _ _ | refine bm ?_ ?_))
theorem fu_P : ∀ c e x, fP g (n + 1) c e x = true → cP g c e x = true := by
  intro c e x h
  unfold fP at h
  split at h <;> first
    | (cases h; done)
    | (revert h; injections; subst_vars; simp only [cP]; repeat' (first | exact fun h => h | exact ih.e _ _ _ | exact ih.a _ _ _ | exact ih.o _ _ _ | exact ih.l _ _ _ | exact ih.p _ _ _ | exact ih.c _ _ _ | exact ih.i _ _ _ _ | refine bm ?_ ?_))
theorem fu_C : ∀ c e x, fC g (n + 1) c e x = true → cC g c e x = true := by
  intro c e x h
  unfold fC at h
  split at h <;> first
    | (cases h; done)
    | (revert h; injections; subst_vars; simp only [cC]; repeat' (first | exact fun h => h | exact ih.e _ _ _ | exact ih.a _ _ _ | exact ih.o _ _ _ | exact ih.l _ _ _ | exact ih.p _ _ _ | exact ih.c _ _ _ | exact ih.i _ _ _ _ | refine bm ?_ ?_))
theorem fu_I : ∀ c e b x, fI g (n + 1) c e b x = true → cI g c e b x = true := by
  intro c e b x h
  unfold fI at h
  split at h <;> first
    | (cases h; done)
    | (revert h; injections; subst_vars; simp only [cI]; repeat' (first | exact fun h => h | exact ih.e _ _ _ | exact ih.a _ _ _ | exact ih.o _ _ _ | exact ih.l _ _ _ | exact ih.p _ _ _ | exact ih.c _ _ _ | exact ih.i _ _ _ _ | refine bm ?_ ?_))
end
theorem fu_all {g : GD} : ∀ n, Fu g n
  | 0 => fu_zero
  | n + 1 => ⟨fu_E (fu_all n), fu_And (fu_all n), fu_Or (fu_all n), fu_L (fu_all n), fu_P (fu_all n), fu_C (fu_all n), fu_I (fu_all n)⟩
theorem fu_S {g : GD} {n : Nat} : ∀ s : S, (∀ c x, fS g n c s x = true → cS g c s x = true) ∧ ∀ c xs, fSs g n c s xs = true → cSs g c s xs = true := by
  have ih := fu_all (g := g) n
  intro s
  induction s with
  | nop => exact ⟨fun c x h => by cases x <;> simp [fS] at h <;> simp [cS], fun c xs h => by cases xs <;> simp [fSs] at h; simp [cSs]⟩
  | seq a b ha hb => exact ⟨fun c x h => by cases x <;> simp [fS] at h, fun c xs h => by
      cases xs <;> simp only [fSs] at h <;> first | (cases h; done) | (revert h; simp only [cSs]; exact bm (ha.1 _ _) (hb.2 _ _))⟩
  | ite t a b ha hb => exact ⟨fun c x h => by
      cases x <;> simp only [fS] at h <;> first | (cases h; done) | (revert h; simp only [cS]; exact bm (bm (ih.e _ _ _) (ha.2 _ _)) (hb.2 _ _)), fun c xs h => by cases xs <;> simp [fSs] at h⟩
  | «for» t it b hb => exact ⟨fun c x h => by
      cases x <;> simp only [fS] at h <;> first | (cases h; done) | (revert h; simp only [cS]; exact bm (bm (fun h => h) (ih.i _ _ _ _)) (hb.2 _ _)), fun c xs h => by cases xs <;> simp [fSs] at h⟩
  | «while» t b hb => exact ⟨fun c x h => by
      cases x <;> simp only [fS] at h <;> first | (cases h; done) | (revert h; simp only [cS]; exact bm (bm (fun h => h) (ih.e _ _ _)) (hb.2 _ _)), fun c xs h => by cases xs <;> simp [fSs] at h⟩
  | brk => exact ⟨fun c x h => by cases x <;> simp [fS] at h <;> simp [cS], fun c xs h => by cases xs <;> simp [fSs] at h⟩
  | cnt => exact ⟨fun c x h => by cases x <;> simp [fS] at h <;> simp [cS], fun c xs h => by cases xs <;> simp [fSs] at h⟩
  | stuck => exact ⟨fun c x h => by simp [cS], fun c xs h => by cases xs <;> simp [fSs] at h⟩
  | retN => exact ⟨fun c x h => by
      cases x <;> first | (simp [fS] at h; done) | skip
      rename_i v pos
      cases v <;> simp [fS] at h
      simp [cS], fun c xs h => by cases xs <;> simp [fSs] at h⟩
  | expr e => exact ⟨fun c x h => by
      cases x <;> simp only [fS] at h <;> first | (cases h; done) | (revert h; simp only [cS]; exact bm (fun h => h) (ih.e _ _ _)), fun c xs h => by cases xs <;> simp [fSs] at h⟩
  | ret e => exact ⟨fun c x h => by
      cases x <;> first | (simp [fS] at h; done) | skip
      rename_i v pos
      cases v <;> simp only [fS] at h <;> first | (cases h; done) | (simp only [cS]; exact ih.e _ _ _ h), fun c xs h => by cases xs <;> simp [fSs] at h⟩
  | asg t e => exact ⟨fun c x h => by
      cases x <;> simp only [fS] at h <;> first | (cases h; done) | (revert h; simp only [cS]; exact bm (ih.e _ _ _) (fun h => h)), fun c xs h => by cases xs <;> simp [fSs] at h⟩
  | par i j a b =>
    refine ⟨fun c x h => ?_, fun c xs h => by cases xs <;> simp [fSs] at h⟩
    cases x <;> first | (simp [fS] at h; done) | skip
    rename_i ts v pos
    simp only [fS] at h
    simp only [cS]
    cases hp : parV ts v with
    | none => rw [hp] at h; cases h
    | some r =>
      rw [hp] at h
      revert h
      exact bm (bm (fun h => h) (ih.e _ _ _)) (ih.e _ _ _)
  | setix o i e =>
    refine ⟨fun c x h => ?_, fun c xs h => by cases xs <;> simp [fSs] at h⟩
    cases x <;> first | (simp [fS] at h; done) | skip
    rename_i ts v pos
    simp only [fS] at h
    simp only [cS]
    cases hp : subV ts with
    | none => rw [hp] at h; cases h
    | some r =>
      rw [hp] at h
      revert h
      exact bm (bm (bm (fun h => h) (ih.e _ _ _)) (ih.e _ _ _)) (ih.e _ _ _)
  | setd o i e =>
    refine ⟨fun c x h => ?_, fun c xs h => by cases xs <;> simp [fSs] at h⟩
    cases x <;> first | (simp [fS] at h; done) | skip
    rename_i ts v pos
    simp only [fS] at h
    simp only [cS]
    cases hp : subV ts with
    | none => rw [hp] at h; cases h
    | some r =>
      rw [hp] at h
      revert h
      exact bm (bm (bm (fun h => h) (ih.e _ _ _)) (ih.e _ _ _)) (ih.e _ _ _)
  | setat o f cs e =>
    refine ⟨fun c x h => ?_, fun c xs h => by cases xs <;> simp [fSs] at h⟩
    cases x <;> first | (simp [fS] at h; done) | skip
    rename_i ts v pos
    simp only [fS] at h
    simp only [cS]
    cases hp : atV ts with
    | none => rw [hp] at h; cases h
    | some r =>
      rw [hp] at h
      revert h
      exact bm (bm (fun h => h) (ih.e _ _ _)) (ih.e _ _ _)
  | par3 i j l a b d =>
    refine ⟨fun c x h => ?_, fun c xs h => by cases xs <;> simp [fSs] at h⟩
    cases x <;> first | (simp [fS] at h; done) | skip
    rename_i ts v pos
    simp only [fS] at h
    simp only [cS]
    cases hp : par3V ts v with
    | none => rw [hp] at h; cases h
    | some r =>
      rw [hp] at h
      revert h
      exact bm (bm (bm (fun h => h) (ih.e _ _ _)) (ih.e _ _ _)) (ih.e _ _ _)
  | aug i op e => exact ⟨fun c x h => by
      cases x <;> first | (simp [fS] at h; done) | skip
      rename_i tg op' v sp
      cases tg <;> simp only [fS] at h <;> first | (cases h; done) | (revert h; simp only [cS]; exact bm (fun h => h) (ih.e _ _ _)), fun c xs h => by cases xs <;> simp [fSs] at h⟩
/-- the check, as the kernel runs it -/
theorem chk_of {g : GD} {n : Nat} {c : CC} {s : S} {xs : List Stmt} (h : fSs g n c s xs = true) : cSs g c s xs = true := (fu_S s).2 c xs h
end Den

/-! D3a: the constructs of expressions, one by one. -/
namespace Den
open PySem PySem.Spec PyProof.Rows L2

/-- a def's promise by its transformer -/
def spF (K : PySem.W.Frag) (ct : CTab) (F : FT) (n i : Nat) : Sp := fun vs H Q E => vs.length = n ∧ ∃ ph S xs Q0 X0, RelS K ct ph H S ∧ RVs K ph H xs vs ∧ F i xs S Q0 X0 ∧
  (∀ v S' ph' u H', Q0 v S' → Ext ph H ph' H' → RelS K ct ph' H' S' → RV K ph' H' v u → Q u H') ∧
  (∀ x S' ph' cls d H', X0 x S' → Ext ph H ph' H' → RelS K ct ph' H' S' → RX K ct ph' H' x cls d → E cls d H')
/-- what isinstance asks of an own class -/
structure IsC (K : PySem.W.Frag) (C : Addr) : Prop where
  a : PySem.W.findIn K (.ref C) "__class__" = some (some (.builtin "object.__class__"))
  n : PySem.W.specialIn K (.builtin "object.__class__") "__get__" = some (some (.builtin "getset_descriptor.__get__"))
  t : PySem.W.takesIn K (.builtin "object.__class__") = some true
  m : PySem.W.mroIn K C (.type "object") = some true
structure GOk (P : Program) (w : World) (K : PySem.W.Frag) (mg : Str → Option Value) (base : Heap) (g : GD) (ct : CTab) (F : FT) (k : Nat) : Prop where
  fn : ∀ (i : Nat) x n, g.fns[i]? = some (x, n) → ∃ f fd ps, mg x = some (.ref f) ∧ PySem.W.keepIn K (.ref f) = true ∧ Binds K fd ps [] ∧ ps.length = n ∧ FnOk P w K mg base (L2.CX P w) k f fd ps (spF K ct F n i) ∧ ∀ xs S Q0 X0, F i xs S Q0 X0 → xs.length = n
  num : ∀ x i, g.nums.lookup x = some i → ∃ t, mg x = some (.int i t)
  txts : ∀ x i, g.txts.lookup x = some i → ∃ t, mg x = some (.str i t)
  blt : ∀ x ∈ g.blts, mg x = none
  cls : ∀ c i n, (c, i, n) ∈ g.cls → ∃ C f fd ps, ct c = some C ∧ mg c = some (.ref C) ∧ Mk K C f ∧ Binds K fd ps [] ∧ ps.length = n + 1 ∧ FnOk P w K mg base (L2.CX P w) k f fd ps (spF K ct F (n + 1) i) ∧ ∀ xs S Q0 X0, F i xs S Q0 X0 → xs.length = n + 1
  kin : ∀ c C, ct c = some C → Cls K C
  isc : ∀ c C, ct c = some C → IsC K C
  att : ∀ c f, (c, f) ∈ g.attrs → ∀ C, ct c = some C → NoAttr K C f
  mth : ∀ c m i n, (c, m, i, n) ∈ g.mths → ∃ C f fd ps, ct c = some C ∧ Meth K C m f ∧ Binds K fd ps [] ∧ ps.length = n + 1 ∧ FnOk P w K mg base (L2.CX P w) k f fd ps (spF K ct F (n + 1) i) ∧ ∀ xs S Q0 X0, F i xs S Q0 X0 → xs.length = n + 1
structure XOk (g : GD) (ct : CTab) (F : FT) (k : Nat) (X : Cx) (c : CC) (W : WX) : Prop where
  N : X.N = c.N
  nd : X.N.Nodup
  sc : X.env.scope = c.sc
  fn : X.fn = c.fn
  calm : X.calm = true
  room : Room (k + 1) X.A
  tk : Takes X W
  po : PassesOwn (model X.prog X.w) X.A X.env X.xe
  gok : GOk X.prog X.w X.K X.mg X.base g ct F k
  hw : ct.hw = fun k => k.hash X.w

section
variable {g : GD} {ct : CTab} {F : FT} {k : Nat} {X : Cx} {c : CC} {W : WX} {wa wb wc wd : WA PV} {a b d e : Expr} {pos : Pos}
theorem XOk.units (x : XOk g ct F k X c W) : X.A.units + 64 < cLine := x.room.units
theorem visB_of {sc : Scope} {x : Str} (h : visB sc x = true) : Vis sc x := by
  unfold visB at h
  split at h
  · exact .inl (by assumption)
  · exact .inr (.inl (by assumption))
  · exact .inr (.inr (by assumption))
  · cases h
theorem locB_of {sc : Scope} {x : Str} (h : locB sc x = true) : Loc sc x := by
  unfold locB at h
  split at h
  · exact .inl (by assumption)
  · exact .inr (by assumption)
  · cases h
theorem lclB_of {sc : Scope} {x : Str} (h : lclB sc x = true) : sc.names.lookup x = some .local := by
  unfold lclB at h
  split at h
  · assumption
  · cases h
theorem glB_of {sc : Scope} {x : Str} (h : glB sc x = true) : sc.names.lookup x = some .globalImplicit := by
  unfold glB at h
  split at h
  · assumption
  · cases h
theorem okN_of {x : Str} (h : okN x = true) : (x == ("__debug__" : Str)) = false ∧ (x == ("__classdict__" : Str)) = false := by
  unfold okN at h
  simpa using h
theorem XOk.gl (x : XOk g ct F k X c W) {n : Str} (h : glB c.sc n = true) : Gl X n := by
  show X.env.scope.names.lookup n = _
  rw [x.sc]
  exact glB_of h

/-! ### the heap's side of single steps -/
theorem tE_ret {w : WA PV} {x : PV} {v : V} (hw : ∀ p Q X, w p Q X → Q x p) (hv : ∀ ph H, RV X.K ph H x v) {sg : L2.St} {H : Hp} {Q : VK} (h : tE X.K ct W w sg H Q) : tC v sg H Q := by
  obtain ⟨ph, p, rel, Q0, X0, h, hQ, _⟩ := h
  exact hQ _ _ _ _ _ (hw _ _ _ h) Ext.refl rel (hv _ _)
theorem se_var (x : XOk g ct F k X c W) {i : Nat} {n : Str} (h1 : c.N[i]? = some n) (h2 : visB c.sc n = true) (h3 : okN n = true) : PE X (.Name n pos) (tE X.K ct W (fun p Q _ => ∃ v, p.env[i]? = some (some v) ∧ Q v p)) := by
  refine PE.weak (pe_var (i := i) (by rw [x.N]; exact h1) (by rw [x.sc]; exact visB_of h2) (okN_of h3).1 (okN_of h3).2) fun sg H Q h => ?_
  obtain ⟨ph, p, rel, Q0, X0, ⟨v, e, h⟩, hQ, _⟩ := h
  obtain ⟨u, hu, rv⟩ := rel.e.val i v e
  exact ⟨u, hu, hQ _ _ _ _ _ h Ext.refl rel rv⟩
theorem se_int {i : Int} {j : Nat} : PE X (.Constant (.int i) j pos) (tE X.K ct W fun p Q _ => Q (.int i) p) := PE.weak pe_int fun sg H Q h => tE_ret (fun _ _ _ h => h) (fun _ _ => RV.of_int) h
theorem se_bl {i : Bool} {j : Nat} : PE X (.Constant (.bool i) j pos) (tE X.K ct W fun p Q _ => Q (.bl i) p) := PE.weak pe_bl fun sg H Q h => tE_ret (fun _ _ _ h => h) (fun _ _ => RV.of_bl) h
theorem se_non {j : Nat} : PE X (.Constant .none j pos) (tE X.K ct W fun p Q _ => Q .non p) := PE.weak pe_non fun sg H Q h => tE_ret (fun _ _ _ h => h) (fun _ _ => RV.of_non) h
theorem se_str {i : Str} {j : Nat} : PE X (.Constant (.str i) j pos) (tE X.K ct W fun p Q _ => Q (.str i) p) := PE.weak pe_str fun sg H Q h => tE_ret (fun _ _ _ h => h) (fun _ _ => RV.of_str) h
theorem se_gint (x : XOk g ct F k X c W) {n : Str} {i : Int} (h1 : glB c.sc n = true) (h2 : g.nums.lookup n = some i) (h3 : okN n = true) : PE X (.Name n pos) (tE X.K ct W fun p Q _ => Q (.int i) p) := by
  obtain ⟨t, ht⟩ := x.gok.num n i h2
  exact PE.weak (pe_glob (v := .int i) (x.gl h1) ht ⟨t, rfl⟩ (okN_of h3).1) fun sg H Q h => tE_ret (fun _ _ _ h => h) (fun _ _ => RV.of_int) h
theorem se_gstr (x : XOk g ct F k X c W) {n : Str} {i : Str} (h1 : glB c.sc n = true) (h2 : g.txts.lookup n = some i) (h3 : okN n = true) : PE X (.Name n pos) (tE X.K ct W fun p Q _ => Q (.str i) p) := by
  obtain ⟨t, ht⟩ := x.gok.txts n i h2
  exact PE.weak (pe_glob (v := .str i) (x.gl h1) ht ⟨t, rfl⟩ (okN_of h3).1) fun sg H Q h => tE_ret (fun _ _ _ h => h) (fun _ _ => RV.of_str) h
theorem se_bin (op : Operator) (m : Bool) (ha : PE X a (tE X.K ct W wa)) (hb : PE X b (tE X.K ct W wb)) :
    PE X (.BinOp a op b pos) (tE X.K ct W fun p Q E => wa p (fun x p1 => wb p1 (fun y p2 => binV op m x y p2 Q) E) E) :=
  PE.weak (pe_op (op_bin op) ha hb) fun sg H Q h => tE_op (ops_bin op m) h
theorem se_neg (ha : PE X a (tE X.K ct W wa)) : PE X (.UnaryOp .USub a pos) (tE X.K ct W fun p Q E => wa p (fun x p1 => ∃ i, x = .int i ∧ Q (.int (-i)) p1) E) := by
  refine PE.weak (pe_un un_neg ha) fun sg H Q h => ?_
  obtain ⟨ph, p, rel, h⟩ := h
  refine ⟨ph, p, rel, (Frm.bind (w2 := fun x p1 Q _ => ∃ i, x = PV.int i ∧ Q (PV.int (-i)) p1) h).mono fun v H1 ⟨x, ph1, p1, rel1, e1, rx, h1⟩ => ?_⟩
  obtain ⟨Q0, ⟨i, rfl, q⟩, hQ⟩ := h1.done
  exact ⟨i, rx.int_inv, out rel1 q hQ RV.of_int⟩
/-- two things compared -/
theorem tE_cmp {op : CmpOp} {sg : L2.St} {H : Hp} {Q : VK} (h : tE X.K ct W (fun p Q E => wa p (fun x p1 => wb p1 (fun y p2 => cmpV op x y p2 fun k => Q (.bl k) p2) E) E) sg H Q) :
    tOp (rCmp X.K op) (tE X.K ct W wa) (tE X.K ct W wb) sg H Q :=
  tE_op (f := fun x y p2 Q => cmpV op x y p2 fun k => Q (.bl k) p2) (fun sg ph H p x y v u Q rel rx ry h => by
    obtain ⟨Q0, q, hQ⟩ := h.done
    exact ops_cmp op rel rx ry q fun k q => out rel q hQ RV.of_bl) h
theorem se_cmp (x : XOk g ct F k X c W) (op : CmpOp) (hm : behindInMarks op b = false) (ha : PE X a (tE X.K ct W wa)) (hb : PE X b (tE X.K ct W wb)) :
    PE X (.Compare a [op] [b] pos) (tE X.K ct W fun p Q E => wa p (fun x p1 => wb p1 (fun y p2 => cmpV op x y p2 fun k => Q (.bl k) p2) E) E) :=
  PE.weak (pe_cmpR (op_cmp x.units op) ha hb hm) fun sg H Q h => tE_cmp h

/-! ### tests -/
theorem tB_of {w : WA PV} {sg : L2.St} {H : Hp} {Q : Bool → Hp → Prop} (h : tB X.K ct W w sg H Q) : tE X.K ct W w sg H fun x H1 => ∃ c, x = .bl c ∧ Q c H1 := by
  obtain ⟨ph, p, rel, h⟩ := h
  refine ⟨ph, p, rel, (Frm.bind (w1 := w) (w2 := fun x p1 (Q : Bool → PSt → Prop) _ => ∃ k, x = PV.bl k ∧ Q k p1) h).mono fun v H1 ⟨x, ph1, p1, rel1, e1, rx, h1⟩ => ?_⟩
  obtain ⟨Q0, ⟨i, rfl, q⟩, hQ⟩ := h1.done
  exact ⟨i, rx.bl_inv, hQ _ _ _ _ _ q Ext.refl rel1 rfl⟩
/-- a test whose own rule is that of values -/
theorem pt_of {w : WA PV} (h : PE X e (tE X.K ct W w)) (he : ∀ whole, isTrue e X.env whole = (do let v ← whole; standAt e.pos; holding [v] (truthy v))) : PT X e (tB X.K ct W w) :=
  PT.weak (pt_val h he) fun sg H Q h => tB_of h
theorem st_cmp (x : XOk g ct F k X c W) (op : CmpOp) (hm : behindInMarks op b = false) (ha : PE X a (tE X.K ct W wa)) (hb : PE X b (tE X.K ct W wb)) :
    PT X (.Compare a [op] [b] pos) (tB X.K ct W fun p Q E => wa p (fun x p1 => wb p1 (fun y p2 => cmpV op x y p2 fun k => Q (.bl k) p2) E) E) :=
  PT.weak (pt_cmpR (op_cmp x.units op) ha hb hm) fun sg H Q h => tE_cmp (tB_of h)
theorem tE_chain {op op2 : CmpOp} {sg : L2.St} {H : Hp} {Q : VK} (h : tE X.K ct W (fun p Q E => wa p (fun x p1 => wb p1 (fun y p2 => cmpV op x y p2 fun k =>
      if k = true then wc p2 (fun z p3 => cmpV op2 y z p3 fun k => Q (.bl k) p3) E else Q (.bl false) p2) E) E) sg H Q) :
    tChain (rCmp X.K op) (rCmp X.K op2) (tE X.K ct W wa) (tE X.K ct W wb) (tE X.K ct W wc) sg H Q := by
  obtain ⟨ph, p, rel, h⟩ := h
  refine ⟨ph, p, rel, (Frm.bind (w2 := fun x p1 Q E => wb p1 (fun y p2 => cmpV op x y p2 fun k => if k = true then wc p2 (fun z p3 => cmpV op2 y z p3 fun k => Q (PV.bl k) p3) E else Q (PV.bl false) p2) E) h).mono fun v H1 ⟨x, ph1, p1, rel1, e1, rx, h1⟩ => ?_⟩
  refine ⟨ph1, p1, rel1, (Frm.bind (w2 := fun y p2 Q E => cmpV op x y p2 fun k => if k = true then wc p2 (fun z p3 => cmpV op2 y z p3 fun k => Q (PV.bl k) p3) E else Q (PV.bl false) p2) h1).mono fun u H2 ⟨y, ph2, p2, rel2, e2, ry, h2⟩ => ?_⟩
  obtain ⟨Q0, X0, q, hQ, hX⟩ := h2
  refine ops_cmp op rel2 (RV.mono e2 rel1.s.apart _ _ rx) ry q fun k q => ⟨k, rfl, ?_⟩
  cases k with
  | false => exact hQ _ _ _ _ _ q Ext.refl rel2 RV.of_bl
  | true =>
    rw [if_pos rfl] at q ⊢
    refine ⟨ph2, p2, rel2, (Frm.bind (w2 := fun z p3 (Q : QV) _ => cmpV op2 y z p3 fun k => Q (PV.bl k) p3) ⟨Q0, X0, q, hQ, hX⟩).mono fun t H3 ⟨z, ph3, p3, rel3, e3, rz, h3⟩ => ?_⟩
    obtain ⟨Q1, q1, hQ1⟩ := h3.done
    exact ops_cmp op2 rel3 (RV.mono e3 rel2.s.apart _ _ ry) rz q1 fun k q => out rel3 q hQ1 RV.of_bl
theorem se_chain (x : XOk g ct F k X c W) (op op2 : CmpOp) (hm : lastMarks [op, op2] [b, d] = false) (ha : PE X a (tE X.K ct W wa)) (hb : PE X b (tE X.K ct W wb)) (hc : PE X d (tE X.K ct W wc)) :
    PE X (.Compare a [op, op2] [b, d] pos) (tE X.K ct W fun p Q E => wa p (fun x p1 => wb p1 (fun y p2 => cmpV op x y p2 fun k =>
      if k = true then wc p2 (fun z p3 => cmpV op2 y z p3 fun k => Q (.bl k) p3) E else Q (.bl false) p2) E) E) :=
  PE.weak (pe_chain (op_cmp x.units op) (op_cmp x.units op2) ha hb hc hm) fun sg H Q h => tE_chain h
theorem st_chain (x : XOk g ct F k X c W) (op op2 : CmpOp) (hm : lastMarks [op, op2] [b, d] = false) (ha : PE X a (tE X.K ct W wa)) (hb : PE X b (tE X.K ct W wb)) (hc : PE X d (tE X.K ct W wc)) :
    PT X (.Compare a [op, op2] [b, d] pos) (tB X.K ct W fun p Q E => wa p (fun x p1 => wb p1 (fun y p2 => cmpV op x y p2 fun k =>
      if k = true then wc p2 (fun z p3 => cmpV op2 y z p3 fun k => Q (.bl k) p3) E else Q (.bl false) p2) E) E) :=
  PT.weak (pt_chain (op_cmp x.units op) (op_cmp x.units op2) ha hb hc hm) fun sg H Q h => tE_chain (tB_of h)

/-! ### and, or, not, if -/
variable {rest : List Expr}
abbrev wAnd (wa wb : WA PV) : WA PV := fun p Q E => wa p (fun x p1 => ∃ k, x = .bl k ∧ if k = true then wb p1 Q E else Q (.bl false) p1) E
abbrev wOr (wa wb : WA PV) : WA PV := fun p Q E => wa p (fun x p1 => ∃ k, x = .bl k ∧ if k = true then Q (.bl true) p1 else wb p1 Q E) E
abbrev wNot (wa : WA PV) : WA PV := fun p Q E => wa p (fun x p1 => ∃ k, x = .bl k ∧ Q (.bl (!k)) p1) E
abbrev wIte (wc wa wb : WA PV) : WA PV := fun p Q E => wc p (fun x p1 => ∃ k, x = .bl k ∧ if k = true then wa p1 Q E else wb p1 Q E) E
/-- the first part of and, or, not, if: a truth value -/
theorem tE_fst {wr : Bool → WA PV} {sg : L2.St} {ph : Phi} {H : Hp} {p : PSt} {Q : VK} (h : Frm X.K ct W (fun p Q E => wa p (fun x p1 => ∃ k, x = .bl k ∧ wr k p1 Q E) E) (RV X.K) sg ph H p Q) :
    Frm X.K ct W wa (RV X.K) sg ph H p fun v H1 => ∃ k, v = .bl k ∧ ∃ ph1 p1, Rel X.K ct ph1 H1 sg p1 ∧ Frm X.K ct W (wr k) (RV X.K) sg ph1 H1 p1 Q := by
  refine (Frm.bind (w1 := wa) (w2 := fun x p1 Q E => ∃ k, x = PV.bl k ∧ wr k p1 Q E) h).mono fun v H1 ⟨x, ph1, p1, rel1, e1, rx, h1⟩ => ?_
  obtain ⟨Q0, X0, ⟨k, rfl, q⟩, hQ, hX⟩ := h1
  exact ⟨k, rx.bl_inv, ph1, p1, rel1, Q0, X0, q, hQ, hX⟩
theorem tB_fst {γ δ : Type} {wr : Bool → WA γ} {R : Phi → Hp → γ → δ → Prop} {sg : L2.St} {ph : Phi} {H : Hp} {p : PSt} {Q : δ → Hp → Prop} (h : Frm X.K ct W (fun p Q E => wa p (fun x p1 => ∃ k, x = .bl k ∧ wr k p1 Q E) E) R sg ph H p Q) :
    Frm X.K ct W (wB wa) (fun _ _ k b => k = b) sg ph H p fun k H1 => ∃ ph1 p1, Rel X.K ct ph1 H1 sg p1 ∧ Frm X.K ct W (wr k) R sg ph1 H1 p1 Q := by
  obtain ⟨Q0, X0, hw, hQ, hX⟩ := h
  refine ⟨fun k p1 => wr k p1 Q0 X0, X0, hw, fun a p1 ph1 b H1 q e r rv => ?_, hX⟩
  subst rv
  exact ⟨ph1, p1, r, Q0, X0, q, fun a' p' ph' b' H' q' e' r' rv' => hQ _ _ _ _ _ q' (e.trans e') r' rv', fun x p' ph' cls d sg' H' q' e' r' rx' => hX _ _ _ _ _ _ _ q' (e.trans e') r' rx'⟩
theorem se_and1 {op : BoolOp} {w : WA PV} (h : PE X a (tE X.K ct W w)) : PE X (.BoolOp op [a] pos) (tE X.K ct W w) := pe_one h
theorem frm_at {w w' : WA PV} {R : Phi → Hp → PV → V → Prop} {sg : L2.St} {ph : Phi} {H : Hp} {p : PSt} {Q : VK} (h : Frm X.K ct W w R sg ph H p Q) (e : ∀ p Q E, w p Q E → w' p Q E) : Frm X.K ct W w' R sg ph H p Q :=
  let ⟨Q0, X0, q, hQ, hX⟩ := h
  ⟨Q0, X0, e _ _ _ q, hQ, hX⟩
theorem frm_out {w : WA PV} {x : PV} {v : V} {sg : L2.St} {ph : Phi} {H : Hp} {p : PSt} {Q : VK} (rel : Rel X.K ct ph H sg p) (h : Frm X.K ct W (fun p Q _ => Q x p) (RV X.K) sg ph H p Q) (r : RV X.K ph H x v) : Q v H := by
  obtain ⟨Q0, X0, q, hQ, hX⟩ := h
  exact hQ _ _ _ _ _ q Ext.refl rel r
theorem se_and (ha : PE X a (tE X.K ct W wa)) (hb : PE X (.BoolOp .And (b :: rest) pos) (tE X.K ct W wb)) : PE X (.BoolOp .And (a :: b :: rest) pos) (tE X.K ct W (wAnd wa wb)) := by
  refine PE.weak (pe_and ha hb) fun sg H Q ⟨ph, p, rel, h⟩ => ?_
  refine ⟨ph, p, rel, (tE_fst (wr := fun k p1 Q E => if k = true then wb p1 Q E else Q (PV.bl false) p1) h).mono fun v H1 ⟨k, e, ph1, p1, rel1, h1⟩ => ⟨k, e, ?_⟩⟩
  cases k with
  | true => exact ⟨ph1, p1, rel1, h1⟩
  | false => exact frm_out (w := wa) rel1 h1 RV.of_bl
theorem se_or (ha : PE X a (tE X.K ct W wa)) (hb : PE X (.BoolOp .Or (b :: rest) pos) (tE X.K ct W wb)) : PE X (.BoolOp .Or (a :: b :: rest) pos) (tE X.K ct W (wOr wa wb)) := by
  refine PE.weak (pe_or ha hb) fun sg H Q ⟨ph, p, rel, h⟩ => ?_
  refine ⟨ph, p, rel, (tE_fst (wr := fun k p1 Q E => if k = true then Q (PV.bl true) p1 else wb p1 Q E) h).mono fun v H1 ⟨k, e, ph1, p1, rel1, h1⟩ => ⟨k, e, ?_⟩⟩
  cases k with
  | true => exact frm_out (w := wa) rel1 h1 RV.of_bl
  | false => exact ⟨ph1, p1, rel1, h1⟩
theorem se_not (ha : PE X a (tE X.K ct W wa)) : PE X (.UnaryOp .Not a pos) (tE X.K ct W (wNot wa)) := by
  refine PE.weak (pe_not ha) fun sg H Q ⟨ph, p, rel, h⟩ => ?_
  refine ⟨ph, p, rel, (tE_fst (wr := fun k p1 Q _ => Q (PV.bl (!k)) p1) h).mono fun v H1 ⟨k, e, ph1, p1, rel1, h1⟩ => ⟨k, e, ?_⟩⟩
  exact frm_out (w := wa) rel1 h1 RV.of_bl
theorem se_ite (hc : PT X d (tB X.K ct W wc)) (ha : PE X a (tE X.K ct W wa)) (hb : PE X b (tE X.K ct W wb)) : PE X (.IfExp d a b pos) (tE X.K ct W (wIte wc wa wb)) := by
  refine PE.weak (pe_ifExp hc ha hb) fun sg H Q ⟨ph, p, rel, h⟩ => ?_
  refine ⟨ph, p, rel, (tB_fst (wr := fun k p1 Q E => if k = true then wa p1 Q E else wb p1 Q E) h).mono fun k H1 ⟨ph1, p1, rel1, h1⟩ => ?_⟩
  cases k with
  | true => exact ⟨ph1, p1, rel1, h1⟩
  | false => exact ⟨ph1, p1, rel1, h1⟩
/-- as tests -/
theorem fb_out {w : WA PV} {x : Bool} {sg : L2.St} {ph : Phi} {H : Hp} {p : PSt} {Q : Bool → Hp → Prop} (rel : Rel X.K ct ph H sg p) (h : Frm X.K ct W (wB fun p Q _ => Q (.bl x) p) (fun _ _ k b => k = b) sg ph H p Q) : Q x H := by
  obtain ⟨Q0, X0, ⟨k, e, q⟩, hQ, hX⟩ := h
  cases e
  exact hQ _ _ _ _ _ q Ext.refl rel rfl
theorem sw_and (ha : PT X a (tB X.K ct W wa)) (hb : PW X (.BoolOp .And (b :: rest) pos) (tB X.K ct W wb)) : PW X (.BoolOp .And (a :: b :: rest) pos) (tB X.K ct W (wAnd wa wb)) := by
  refine ⟨fun wh pins s sg H Q I h => (pw_and ha hb).run wh pins s sg H Q I ?_⟩
  obtain ⟨ph, p, rel, h⟩ := h
  refine ⟨ph, p, rel, (tB_fst (wr := fun k => wB fun p1 Q E => if k = true then wb p1 Q E else Q (PV.bl false) p1) h).mono fun k H1 ⟨ph1, p1, rel1, h1⟩ => ?_⟩
  cases k with
  | true => exact ⟨ph1, p1, rel1, h1⟩
  | false => exact fb_out (w := wa) rel1 h1
theorem sw_or (ha : PT X a (tB X.K ct W wa)) (hb : PW X (.BoolOp .Or (b :: rest) pos) (tB X.K ct W wb)) : PW X (.BoolOp .Or (a :: b :: rest) pos) (tB X.K ct W (wOr wa wb)) := by
  refine ⟨fun wh pins s sg H Q I h => (pw_or ha hb).run wh pins s sg H Q I ?_⟩
  obtain ⟨ph, p, rel, h⟩ := h
  refine ⟨ph, p, rel, (tB_fst (wr := fun k => wB fun p1 Q E => if k = true then Q (PV.bl true) p1 else wb p1 Q E) h).mono fun k H1 ⟨ph1, p1, rel1, h1⟩ => ?_⟩
  cases k with
  | true => exact fb_out (w := wa) rel1 h1
  | false => exact ⟨ph1, p1, rel1, h1⟩
theorem st_not (ha : PT X a (tB X.K ct W wa)) : PT X (.UnaryOp .Not a pos) (tB X.K ct W (wNot wa)) := by
  refine PT.weak (pt_not ha) fun sg H Q ⟨ph, p, rel, h⟩ => ?_
  refine ⟨ph, p, rel, (tB_fst (wr := fun k => wB fun p1 Q _ => Q (PV.bl (!k)) p1) h).mono fun k H1 ⟨ph1, p1, rel1, h1⟩ => ?_⟩
  exact fb_out (w := wa) rel1 h1
theorem st_ite (hc : PT X d (tB X.K ct W wc)) (ha : PT X a (tB X.K ct W wa)) (hb : PT X b (tB X.K ct W wb)) : PT X (.IfExp d a b pos) (tB X.K ct W (wIte wc wa wb)) := by
  refine ⟨fun pins s sg H Q I h => ?_⟩
  obtain ⟨ph, p, rel, h⟩ := h
  have e : isTrue (.IfExp d a b pos) X.env (eval (.IfExp d a b pos) X.env) = (do if ← isTrue d X.env (eval d X.env) then isTrue a X.env (eval a X.env) else isTrue b X.env (eval b X.env)) := rfl
  rw [e]
  refine wpAny_bind (thn (hc.run pins s sg H _ I ⟨ph, p, rel, tB_fst (wr := fun k => wB fun p1 Q E => if k = true then wa p1 Q E else wb p1 Q E) h⟩) fun k s1 ⟨H1, I1, ph1, p1, rel1, h1⟩ => ?_)
  cases k with
  | true => exact ha.run pins s1 sg H1 Q I1 ⟨ph1, p1, rel1, h1⟩
  | false => exact hb.run pins s1 sg H1 Q I1 ⟨ph1, p1, rel1, h1⟩
end
end Den

/-! D3b: displays, subscripts, calls. -/
namespace Den
open PySem PySem.Spec PyProof.Rows L2
section
variable {g : GD} {ct : CTab} {F : FT} {k : Nat} {X : Cx} {c : CC} {W : WX} {wa wb wc wd : WA PV} {wl : WA (List PV)} {a b d e : Expr} {es : List Expr} {pos p1 p2 : Pos}
def notStar : Expr → Bool
  | .Starred _ _ => false
  | _ => true
theorem star_of (h : notStar e = true) (es : List Expr) : starEach (e :: es) X.env = (false, eval e X.env) :: starEach es X.env := by
  cases e <;> first | rfl | cases h
theorem stars_of : ∀ {es : List Expr}, es.all notStar = true → (backTo pos (starEach es X.env)).any (·.1) = false
  | [], _ => rfl
  | e :: es, h => by
    rw [List.all_cons, Bool.and_eq_true] at h
    rw [star_of h.1]
    show (false || (backTo pos (starEach es X.env)).any (·.1)) = false
    rw [stars_of h.2]
    rfl
theorem sa_nil : PA X [] (tA X.K ct W fun p Q _ => Q [] p) := PA.weak pa_nil fun sg H Q ⟨ph, p, rel, Q0, X0, h, hQ, _⟩ => hQ _ _ _ _ _ h Ext.refl rel RVs.nil
abbrev wCons (wa : WA PV) (wl : WA (List PV)) : WA (List PV) := fun p Q E => wa p (fun x p1 => wl p1 (fun xs p2 => Q (x :: xs) p2) E) E
theorem sa_cons (hn : notStar e = true) (ha : PE X e (tE X.K ct W wa)) (hl : PA X es (tA X.K ct W wl)) : PA X (e :: es) (tA X.K ct W (wCons wa wl)) := by
  refine PA.weak (pa_cons ha hl (star_of hn es)) fun sg H Q ⟨ph, p, rel, h⟩ => ?_
  refine ⟨ph, p, rel, (Frm.bind (R1 := RV X.K) (w2 := fun x p1 (Q : List PV → PSt → Prop) E => wl p1 (fun xs p2 => Q (x :: xs) p2) E) h).mono fun v H1 ⟨x, ph1, p1, rel1, e1, rx, h1⟩ => ?_⟩
  refine ⟨ph1, p1, rel1, (Frm.bind (R1 := RVs X.K) (w2 := fun xs p2 (Q : List PV → PSt → Prop) _ => Q (x :: xs) p2) h1).mono fun vs H2 ⟨xs, ph2, p2, rel2, e2, rx2, h2⟩ => ?_⟩
  obtain ⟨Q0, q, hQ⟩ := h2.done
  exact hQ _ _ _ _ _ q Ext.refl rel2 (RVs.cons (RV.mono e2 rel1.s.apart _ _ rx) rx2)
/-- behind a list of values -/
theorem tA_then {f : List PV → PSt → QV → Prop} {r : List V → Hp → VK → Prop} (hr : CallS X.K ct W r f) {sg : L2.St} {H : Hp} {Q : VK} (h : tE X.K ct W (fun p Q E => wl p (fun xs p1 => f xs p1 Q) E) sg H Q) :
    tA X.K ct W wl sg H fun vs H1 => r vs H1 Q := by
  obtain ⟨ph, p, rel, h⟩ := h
  refine ⟨ph, p, rel, (Frm.bind (R1 := RVs X.K) (w2 := fun xs p1 Q _ => f xs p1 Q) h).mono fun vs H1 ⟨xs, ph1, p1, rel1, e1, rx, h1⟩ => ?_⟩
  exact hr sg ph1 H1 p1 xs vs Q rel1 rx h1
theorem se_tup (ha : PA X es (tA X.K ct W wl)) {x1 : Nat} : PE X (.Tuple es x1 pos) (tE X.K ct W fun p Q E => wl p (fun xs p1 => szOk xs.length ∧ Q (.tup xs) p1) E) :=
  PE.weak (pe_tup ha) fun sg H Q h => tA_then (r := fun vs H1 Q => vs.length ≤ sizeLine ∧ ∀ p, H1 p = none → Q (.ref p) (upd H1 p (.tup vs))) (f := fun xs p1 Q => szOk xs.length ∧ Q (.tup xs) p1) (fun sg ph H p xs vs Q rel rx h => by
    obtain ⟨Q0, ⟨z, q⟩, hQ⟩ := h.done
    exact ⟨by rw [rx.length]; exact szOk_line z, fun l hl => outT rel q hQ rx hl⟩) h
theorem se_lst (m : Bool) (ha : PA X es (tA X.K ct W wl)) : PE X (.List es pos) (tE X.K ct W fun p Q E => wl p (fun xs p1 => mkL m xs p1 Q) E) :=
  PE.weak (pe_lst ha) fun sg H Q h => tA_then (r := fun vs H1 Q => vs.length ≤ sizeLine ∧ ∀ p, H1 p = none → Q (.ref p) (upd H1 p (.lst vs))) (f := fun xs p1 Q => mkL m xs p1 Q) (fun sg ph H p xs vs Q rel rx h => by
    obtain ⟨Q0, q, hQ⟩ := h.done
    exact mkL_ok rel rx q hQ) h
theorem se_dct0 : PE X (.Dict [] [] pos) (tE X.K ct W fun p Q _ => Q .dct p) :=
  PE.weak pe_dnewK fun sg H Q h l hl => by
    obtain ⟨ph, p, rel, Q0, X0, h, hQ, _⟩ := h
    refine hQ _ _ ph _ _ h (Ext.lay hl) (rel.lay hl) ?_
    unfold RV
    exact ⟨l, [], rfl, upd_same, rel.s.fresh hl⟩
theorem upd_upd (H : Hp) (a : Addr) (o u : HO) : upd (upd H a o) a u = upd H a u := by
  funext b
  by_cases h : b = a
  · subst h; rw [upd_same, upd_same]
  · rw [upd_ne h, upd_ne h, upd_ne h]
theorem se_dct1 (x : XOk g ct F k X c W) {i : Nat} {n : Str} {j : Int} {kk : Nat} (h1 : c.N[i]? = some n) (h2 : visB c.sc n = true) (h3 : okN n = true) :
    PE X (.Dict [some (.Constant (.int j) kk p1)] [.Name n p2] pos) (tE X.K ct W (fun p Q _ => ∃ v, p.env[i]? = some (some v) ∧ Q .dct p)) := by
  refine PE.weak (pe_disp (pps_cons pe_int (pe_var (i := i) (by rw [x.N]; exact h1) (by rw [x.sc]; exact visB_of h2) (okN_of h3).1 (okN_of h3).2) pps_nil) (by rfl) (by rfl) (fun z => by cases z) (by simp)) fun sg H Q h l hl => ?_
  obtain ⟨ph, p, rel, Q0, X0, ⟨v, e, h⟩, hQ, _⟩ := h
  obtain ⟨u, hu, rv⟩ := rel.e.val i v e
  refine ⟨u, hu, upd_same, [(Sum.inl j, u)], rfl, by simp, ?_⟩
  rw [upd_upd]
  refine hQ _ _ ph _ _ h (Ext.lay hl) (rel.lay hl) ?_
  unfold RV
  exact ⟨l, _, rfl, upd_same, rel.s.fresh hl⟩
theorem plainIx_of (h : plainIxB b = true) : PlainIx b := by
  intro o i
  cases b <;> first | rfl | cases h
theorem se_ix (hp : plainIxB b = true) (ha : PE X a (tE X.K ct W wa)) (hb : PE X b (tE X.K ct W wb)) : PE X (.Subscript a b pos) (tE X.K ct W fun p Q E => wa p (fun x p1 => wb p1 (fun y p2 => ixV x y p2 Q) E) E) :=
  PE.weak (pe_ix ix_seq ha hb (plainIx_of hp)) fun sg H Q h => tE_op ops_ix h

/-! ### slices -/
def tP (K : PySem.W.Frag) (ct : CTab) (W : WX) (w : WA (Option Int)) : TO := At K ct W w fun _ _ l o => l = o
theorem so_none : L2.PO X none (tP X.K ct W (partW true wa)) := by
  refine ⟨fun pins s sg H Q I h => po_none.run pins s sg H Q I ?_⟩
  obtain ⟨ph, p, rel, Q0, X0, h, hQ, hX⟩ := h
  unfold partW at h
  rw [if_pos rfl] at h
  exact hQ _ _ _ _ _ h Ext.refl rel rfl
theorem so_some (ha : PE X a (tE X.K ct W wa)) : L2.PO X (some a) (tP X.K ct W (partW false wa)) := by
  refine ⟨fun pins s sg H Q I h => (po_some ha).run pins s sg H Q I ?_⟩
  obtain ⟨ph, p, rel, Q0, X0, h, hQ, hX⟩ := h
  unfold partW at h
  rw [if_neg Bool.false_ne_true] at h
  have h' : Frm X.K ct W (fun p Q E => wa p (fun x p1 => ∃ i, x = PV.int i ∧ Q (some i) p1) E) (fun _ _ (l o : Option Int) => l = o) sg ph H p Q := ⟨Q0, X0, h, hQ, hX⟩
  refine ⟨ph, p, rel, (Frm.bind (R1 := RV X.K) (w2 := fun x p1 (Q : Option Int → PSt → Prop) _ => ∃ i, x = PV.int i ∧ Q (some i) p1) h').mono fun v H1 ⟨x, ph1, p1, rel1, e1, rx, h1⟩ => ?_⟩
  obtain ⟨Q1, ⟨i, rfl, q⟩, hQ1⟩ := h1.done
  exact ⟨i, rx.int_inv, hQ1 _ _ _ _ _ q Ext.refl rel1 rfl⟩
theorem se_slc (m : Bool) {lo hi : Option Expr} {wo wh : WA (Option Int)} (ha : PE X a (tE X.K ct W wa)) (hl : L2.PO X lo (tP X.K ct W wo)) (hh : L2.PO X hi (tP X.K ct W wh)) :
    PE X (.Subscript a (.Slice lo hi none p2) pos) (tE X.K ct W fun p Q E => wa p (fun x p1 => wo p1 (fun l p2 => wh p2 (fun h p3 => slcV m x l h p3 Q) E) E) E) := by
  refine PE.weak (pe_slice sl_all ha hl hh) fun sg H Q ⟨ph, p, rel, h⟩ => ?_
  refine ⟨ph, p, rel, (Frm.bind (w2 := fun x p1 Q E => wo p1 (fun l p2 => wh p2 (fun h p3 => slcV m x l h p3 Q) E) E) h).mono fun v H1 ⟨x, ph1, p1, rel1, e1, rx, h1⟩ => ?_⟩
  refine ⟨ph1, p1, rel1, (Frm.bind (R1 := fun _ _ (l : Option Int) o => l = o) (w2 := fun l p2 Q E => wh p2 (fun h p3 => slcV m x l h p3 Q) E) h1).mono fun o H2 ⟨l, ph2, p2, rel2, e2, ro, h2⟩ => ?_⟩
  refine ⟨ph2, p2, rel2, (Frm.bind (R1 := fun _ _ (l : Option Int) o => l = o) (w2 := fun u p3 Q _ => slcV m x l u p3 Q) h2).mono fun o2 H3 ⟨u, ph3, p3, rel3, e3, ro2, h3⟩ => ?_⟩
  subst ro ro2
  obtain ⟨Q1, q, hQ1⟩ := h3.done
  exact ops_slc rel3 (RV.mono (e2.trans e3) rel1.s.apart _ _ rx) q hQ1

/-! ### calls -/
theorem se_call (x : XOk g ct F k X c W) {n : Str} {i : Nat} (h1 : glB c.sc n = true) (h2 : okN n = true) (h3 : g.fns[i]? = some (n, (e :: es).length)) (hn : (e :: es).all notStar = true) (ha : PA X (e :: es) (tA X.K ct W wl)) :
    PE X (.Call (.Name n p1) (e :: es) [] pos) (tE X.K ct W fun p Q E => wl p (fun xs p1 => F i xs p1.st (fun v st => Q v { p1 with st := st }) (fun x st => E x { p1 with st := st })) E) := by
  obtain ⟨f, fd, ps, hm, hk, hb, hl, hf, har⟩ := x.gok.fn i n _ h3
  rw [List.all_cons, Bool.and_eq_true] at hn
  refine PE.weak (pe_callS hf (x.room.mono (Nat.le_succ _)) (x.gl h1) hm hk hb (fun sg => passAt x.tk sg) ha (okN_of h2).1 (star_of hn.1 es) (stars_of hn.2)) fun sg H Q ⟨ph, p, rel, h⟩ => ?_
  refine ⟨ph, p, rel, (Frm.bind (R1 := RVs X.K) (w2 := fun xs p1 Q E => F i xs p1.st (fun v st => Q v { p1 with st := st }) (fun x st => E x { p1 with st := st })) h).mono fun vs H1 ⟨xs, ph1, p1, rel1, e1, rx, h1⟩ => ?_⟩
  obtain ⟨Q0, X0, q, hQ, hX⟩ := h1
  refine ⟨by rw [rx.length]; exact har _ _ _ _ q, ph1, p1.st, xs, _, _, rel1.s, rx, q, fun v S' ph' u H' q' e' r' rv' => ?_, fun x S' ph' cls d H' q' e' r' rx' => ?_⟩
  · exact hQ _ _ _ _ _ q' e' ⟨rel1.e.mono e' rel1.s.apart, r'⟩ rv'
  · exact hX _ _ _ _ _ _ _ q' e' ⟨rel1.e.mono e' rel1.s.apart, r'⟩ rx'
theorem bltB_of (x : XOk g ct F k X c W) {n m : Str} (h : bltB g c n m = true) : n = m ∧ Gl X n ∧ X.mg n = none ∧ (n == ("__debug__" : Str)) = false := by
  unfold bltB at h
  simp only [Bool.and_eq_true] at h
  obtain ⟨⟨⟨h1, h2⟩, h3⟩, h4⟩ := h
  have e : n = m := of_decide_eq_true h1
  obtain ⟨z, hz, hz2⟩ := List.any_eq_true.mp h3
  have e2 : z = n := of_decide_eq_true hz2
  subst e2
  exact ⟨e, x.gl h2, x.gok.blt z hz, (okN_of h4).1⟩
theorem se_blt (x : XOk g ct F k X c W) (f : Blt) (m : Bool) {n : Str} (h1 : bltB g c n (bltName f) = true) (hn : (e :: es).all notStar = true) (ha : PA X (e :: es) (tA X.K ct W wl)) :
    PE X (.Call (.Name n p1) (e :: es) [] pos) (tE X.K ct W fun p Q E => wl p (fun xs p1 => bltV f m xs p1 Q) E) := by
  obtain ⟨e1, hg, hm, hd⟩ := bltB_of x h1
  rw [List.all_cons, Bool.and_eq_true] at hn
  have hb : bootBuiltins n = some (bltVal f) := by rw [e1]; exact blt_boot f
  have hne : n ≠ "__name__" := by rw [e1]; exact blt_ne f
  have cr := cr_blt (X := X) x.calm x.units f
  refine PE.weak (t := tCB (rBlt X.K f) (tA X.K ct W wl)) ?_ fun sg H Q h => tA_then (ops_blt f m) h
  revert hb cr
  have go : ∀ v : Value, (∃ id, v = .builtin id) ∨ (∃ T, v = .type T) → bootBuiltins n = some v → CallR X v (rBlt X.K f) → PE X (.Call (.Name n p1) (e :: es) [] pos) (tCB (rBlt X.K f) (tA X.K ct W wl)) := fun v hv hb cr => by
    rcases hv with ⟨id, rfl⟩ | ⟨T, rfl⟩
    · exact pe_callB cr hg hm hb ha hne hd (star_of hn.1 es) (stars_of hn.2)
    · exact pe_callTy cr hg hm hb ha hne hd (star_of hn.1 es) (stars_of hn.2)
  exact fun hb cr => go _ (by cases f <;> first | exact .inl ⟨_, rfl⟩ | exact .inr ⟨_, rfl⟩) hb cr
end
end Den

/-! D3c: isinstance, methods, what is walked, comprehensions. -/
namespace Den
open PySem PySem.Spec PyProof.Rows L2
section
variable {g : GD} {ct : CTab} {F : FT} {k : Nat} {X : Cx} {c : CC} {W : WX} {wa wb wc wd : WA PV} {wl : WA (List PV)} {a b d e : Expr} {es : List Expr} {pos p1 p2 : Pos}
theorem boot_isinst : bootBuiltins ("isinstance" : Str) = some (.builtin "isinstance") := by decide +kernel
theorem ne_isinst : ("isinstance" : Str) ≠ "__name__" := by decide +kernel
/-- the class's name as a value -/
theorem pe_tyName (x : XOk g ct F k X c W) {n : Str} {t : String} (h : tyGl g c [(n, t)] = true) : PE X (.Name n pos) (tC (.ty t)) := by
  unfold tyGl at h
  simp only [Bool.and_eq_true, Bool.not_eq_true'] at h
  obtain ⟨⟨⟨⟨⟨h1, h2⟩, h3⟩, h4⟩, h5⟩, _⟩ := h
  obtain ⟨z, hz, hz2⟩ := List.any_eq_true.mp h2
  obtain rfl : z = n := of_decide_eq_true hz2
  exact pe_bltn (v := .ty t) (x.gl h1) (x.gok.blt z hz) (of_decide_eq_true h4) rfl (of_decide_eq_false h5) (okN_of h3).1
theorem tyGl_cons {n : Str} {t : String} {ns : List (Str × String)} (h : tyGl g c ((n, t) :: ns) = true) : tyGl g c [(n, t)] = true ∧ tyGl g c ns = true := by
  unfold tyGl at h
  simp only [Bool.and_eq_true] at h
  refine ⟨?_, h.2⟩
  unfold tyGl
  simp only [Bool.and_eq_true]
  exact ⟨h.1, rfl⟩
/-- a tuple of classes -/
theorem pa_tyNames (x : XOk g ct F k X c W) : ∀ {ns : List (Str × String)} {zs : List Expr}, tyNames ns zs = true → tyGl g c ns = true → PA X zs fun _ H Q => Q (ns.map fun b => V.ty b.2) H
  | [], [], _, _ => pa_nil
  | (n, t) :: ns, .Name y q :: zs, h, hg => by
    unfold tyNames at h
    simp only [Bool.and_eq_true] at h
    obtain rfl : n = y := of_decide_eq_true h.1.1
    obtain ⟨g1, g2⟩ := tyGl_cons hg
    exact pa_cons (pe_tyName x g1) (pa_tyNames x h.2 g2) rfl
  | [], _ :: _, h, _ => by simp [tyNames] at h
  | _ :: _, [], h, _ => by simp [tyNames] at h
theorem kit_paired : ∀ (ns : List (Str × String)), Paired ClsV (ns.map fun b => V.ty b.2) (ns.map fun b => Value.type b.2)
  | [] => .nil
  | b :: ns => .cons (.ty b.2) (kit_paired ns)
abbrev wIsi (wa : WA PV) (ns : List (Str × String)) : WA PV := fun p Q E => wa p (fun x p1 => isiV x ns p1 fun k => Q (.bl k) p1) E
theorem se_isi1 (x : XOk g ct F k X c W) {m n : Str} {t : String} {q : Pos} (h1 : bltB g c m "isinstance" = true) (h2 : tyGl g c [(n, t)] = true) (hn : notStar a = true) (ha : PE X a (tE X.K ct W wa)) :
    PE X (.Call (.Name m p1) [a, .Name n q] [] pos) (tE X.K ct W (wIsi wa [(n, t)])) := by
  obtain ⟨e1, hg, hm, hd⟩ := bltB_of x h1
  have hb : bootBuiltins m = some (.builtin "isinstance") := by rw [e1]; exact boot_isinst
  have hne : m ≠ "__name__" := by rw [e1]; exact ne_isinst
  refine PE.weak (pe_callB call_isi hg hm hb (pa_cons ha (pa_cons (pe_tyName x h2) pa_nil rfl) (star_of hn _)) hne hd (star_of hn _) rfl) fun sg H Q ⟨ph, p, rel, h⟩ => ?_
  refine ⟨ph, p, rel, (Frm.bind (w2 := fun x p1 (Q : QV) _ => isiV x [(n, t)] p1 fun k => Q (PV.bl k) p1) h).mono fun v H1 ⟨x, ph1, p1, rel1, e1, rx, h1⟩ => ?_⟩
  obtain ⟨Q0, ⟨hk, A, hA, q⟩, hQ⟩ := h1.done
  obtain ⟨hmem, hty⟩ := tyN_at rel1 rx hA
  refine ⟨v, .ty t, .type A, .type t, _, rfl, .ty t, hty, kit_ty (kit_all A hmem t (known_mem (hk _ List.mem_cons_self))), out rel1 ?_ hQ RV.of_bl⟩
  simpa using q
theorem se_isiT (x : XOk g ct F k X c W) {m : Str} {ns : List (Str × String)} {zs : List Expr} {x1 : Nat} (h1 : bltB g c m "isinstance" = true) (h2 : tyNames ns zs = true) (h3 : tyGl g c ns = true) (h4 : ns.length < 20) (hn : notStar a = true) (ha : PE X a (tE X.K ct W wa)) :
    PE X (.Call (.Name m p1) [a, .Tuple zs x1 p2] [] pos) (tE X.K ct W (wIsi wa ns)) := by
  obtain ⟨e1, hg, hm, hd⟩ := bltB_of x h1
  have hb : bootBuiltins m = some (.builtin "isinstance") := by rw [e1]; exact boot_isinst
  have hne : m ≠ "__name__" := by rw [e1]; exact ne_isinst
  refine PE.weak (pe_callB call_isiT hg hm hb (pa_cons ha (pa_cons (pe_tup (pa_tyNames x h2 h3)) pa_nil rfl) (star_of hn _)) hne hd (star_of hn _) rfl) fun sg H Q ⟨ph, p, rel, h⟩ => ?_
  refine ⟨ph, p, rel, (Frm.bind (w2 := fun x p1 (Q : QV) _ => isiV x ns p1 fun k => Q (PV.bl k) p1) h).mono fun v H1 ⟨x, ph1, p1, rel1, e1, rx, h1⟩ => ?_⟩
  obtain ⟨Q0, ⟨hk, A, hA, q⟩, hQ⟩ := h1.done
  refine ⟨by rw [List.length_map]; exact Nat.le_trans (Nat.le_of_lt h4) (by decide), fun l hl => ?_⟩
  obtain ⟨hmem, hty⟩ := tyN_at (rel1.lay (o := .tup (ns.map fun b => V.ty b.2)) hl) (RV.mono (Ext.lay hl) rel1.s.apart _ _ rx) hA
  exact ⟨v, l, _, .type A, _, _, rfl, upd_same, kit_paired ns, hty, kitAny_of hmem hk, hQ _ _ ph1 _ _ q (Ext.lay hl) (rel1.lay hl) RV.of_bl⟩

/-! ### methods -/
def mthId : Mth → String
  | .count => "list.count" | .append => "list.append" | .pop => "list.pop"
def rMth (K : PySem.W.Frag) : Mth → V → List V → Hp → VK → Prop
  | .count => rCntI K
  | .append => rAppend
  | .pop => rPopAt
theorem mt_mth (f : Mth) : MtR X (mthId f) (rMth X.K f) := by
  cases f with
  | count => exact mt_lcount
  | append => exact mt_append
  | pop => exact mt_popAt
theorem mth_slot (f : Mth) : Slot "list" (mthName f) (mthId f) := by
  cases f with
  | count => exact PySem.F.slot_list_count
  | append => exact PySem.F.slot_list_append
  | pop => exact PySem.F.slot_list_pop
theorem mth_type (f : Mth) : typeOf (.builtin (mthId f)) = pure (.type "method_descriptor") := by
  cases f with
  | count => exact PySem.F.type_list_count
  | append => exact PySem.F.type_list_append
  | pop => exact PySem.F.type_list_pop
theorem RVs.erase {K : PySem.W.Frag} {ph : Phi} {H : Hp} : ∀ {xs : List PV} {vs : List V} (i : Nat), RVs K ph H xs vs → RVs K ph H (xs.eraseIdx i) (vs.eraseIdx i)
  | [], _, i, h => by rw [h.nil_inv]; simp only [List.eraseIdx_nil]; exact RVs.nil
  | x :: xs, _, 0, h => by
    obtain ⟨v, r, rfl, h1, h2⟩ := h.cons_inv
    exact h2
  | x :: xs, _, i + 1, h => by
    obtain ⟨v, r, rfl, h1, h2⟩ := h.cons_inv
    exact RVs.cons h1 (RVs.erase i h2)
theorem ops_mth (f : Mth) {sg : L2.St} {ph : Phi} {H : Hp} {p : PSt} {x : PV} {v : V} {xs : List PV} {vs : List V} {Q : VK} {Q0 : QV} (rel : Rel X.K ct ph H sg p) (rx : RV X.K ph H x v) (rs : RVs X.K ph H xs vs) (q : methV f x xs p Q0)
    (hQ : ∀ a p' ph' b H', Q0 a p' → Ext ph H ph' H' → Rel X.K ct ph' H' sg p' → RV X.K ph' H' a b → Q b H') : rMth X.K f v vs H Q := by
  unfold methV at q
  split at q
  · obtain ⟨u, rfl, ru⟩ := rs.inv1
    cases ru.int_inv
    obtain ⟨a, us, ys, rfl, h2, h3, ns, e, q⟩ := listOf_at rel rx q
    cases allInt_of h3 e
    exact ⟨a, ns, _, rfl, rfl, SqL.of h2, out rel q hQ RV.of_int⟩
  · obtain ⟨u, rfl, ru⟩ := rs.inv1
    cases ru.int_inv
    obtain ⟨n, ys, j, z, rfl, hn, ⟨hk0, hk1, hj⟩, hz, q⟩ := q
    unfold RV at rx
    obtain ⟨a, rfl, ha⟩ := rx
    obtain ⟨b, us, h4, h5, h6⟩ := rel.s.atL hn
    rw [ha] at h4; cases h4
    have hnl : n < p.st.length := (List.getElem?_eq_some_iff.mp hn).1
    have hm : a ∈ ph.ad := List.mem_iff_getElem?.mpr ⟨n, ha⟩
    obtain ⟨y, hy, ry⟩ := h6.get hz
    rw [← h6.length] at hj
    have ew : Ext ph H ph (upd H a (.lst (us.eraseIdx j))) := Ext.write hm
    refine ⟨a, us, _, j, y, rfl, rfl, h5, by omega, by omega, (ixN_seq hj).1, hy, hQ _ _ ph _ _ q ew ⟨rel.e.mono ew rel.s.apart, ?_⟩ (RV.mono ew rel.s.apart _ _ ry)⟩
    exact rel.s.setL hnl ha h5 (h6.erase j)
  · obtain ⟨u, rfl, ru⟩ := rs.inv1
    obtain ⟨n, ys, rfl, hn, hl, q⟩ := q
    unfold RV at rx
    obtain ⟨a, rfl, ha⟩ := rx
    obtain ⟨b, us, h4, h5, h6⟩ := rel.s.atL hn
    rw [ha] at h4; cases h4
    have hnl : n < p.st.length := (List.getElem?_eq_some_iff.mp hn).1
    have hm : a ∈ ph.ad := List.mem_iff_getElem?.mpr ⟨n, ha⟩
    refine ⟨a, us, u, rfl, rfl, h5, by rw [h6.length, sizeLine_eq]; exact hl, hQ _ _ ph _ _ q (Ext.write hm) ⟨rel.e.mono (Ext.write hm) rel.s.apart, ?_⟩ RV.of_non⟩
    exact rel.s.setL hnl ha h5 (h6.append (RVs.one ru))
  · exact q.elim
theorem plainBase_of {o : Expr} (h : plainBaseB o = true) (nm : Str) : attributeBase o nm X.env (eval o X.env) = eval o X.env := by
  cases o with
  | Call f as kw pos =>
    cases f <;> first | rfl | skip
    cases as <;> first | rfl | skip
    cases kw <;> first | rfl | cases h
  | _ => rfl
theorem stars_few {cp : Pos} : ∀ {es : List Expr}, es.all notStar = true → (backTo cp (starEach es X.env)).all (fun x => !x.1) = true
  | [], _ => rfl
  | e :: es, h => by
    rw [List.all_cons, Bool.and_eq_true] at h
    rw [star_of h.1]
    show (true && (backTo cp (starEach es X.env)).all (fun x => !x.1)) = true
    rw [stars_few h.2]
    rfl
theorem se_meth (f : Mth) {o : Expr} {nm : Str} {ap cp : Pos} (h1 : nm = mthName f) (h2 : plainBaseB o = true) (h3 : (ap.endLine == cp.line) = true) (h4 : (e :: es).length < 20) (hn : (e :: es).all notStar = true) (ha : PE X o (tE X.K ct W wa)) (hl : PA X (e :: es) (tA X.K ct W wl)) :
    PE X (.Call (.Attribute o nm ap) (e :: es) [] cp) (tE X.K ct W fun p Q E => wa p (fun x p1 => mthPre f x p1 ∧ wl p1 (fun xs p2 => methV f x xs p2 Q) E) E) := by
  subst h1
  have hn' := hn
  rw [List.all_cons, Bool.and_eq_true] at hn
  refine PE.weak (pe_bm PySem.F.plainAttrs_list (mth_slot f) (mth_type f) (mt_mth f) ha hl (plainBase_of h2 _) ?_ h3 (star_of hn.1 es) (stars_of hn.2)) fun sg H Q ⟨ph, p, rel, h⟩ => ?_
  · rw [stars_few hn']
    show (true && true && decide ((e :: es).length + 0 + 0 < 30)) = true
    simp only [Bool.true_and, decide_eq_true_eq]
    omega
  · refine ⟨ph, p, rel, (Frm.bind (w2 := fun x p1 (Q : QV) E => mthPre f x p1 ∧ wl p1 (fun xs p2 => methV f x xs p2 Q) E) h).mono fun v H1 ⟨x, ph1, p1, rel1, e1, rx, h1⟩ => ?_⟩
    obtain ⟨Q0, X0, ⟨hp, h1⟩, hQ, hX⟩ := h1
    obtain ⟨a, vs, xs, rfl, h5, h6, _⟩ := listOf_at rel1 rx hp
    refine ⟨.inl ⟨rfl, vs, SqL.of h5⟩, ph1, p1, rel1, (Frm.bind (R2 := RV X.K) (R1 := RVs X.K) (w2 := fun xs p2 (Q : QV) _ => methV f x xs p2 Q) ⟨Q0, X0, h1, hQ, hX⟩).mono fun us H2 ⟨ys, ph2, p2, rel2, e2, ry, h2⟩ => ?_⟩
    obtain ⟨Q1, q, hQ1⟩ := h2.done
    exact ops_mth f rel2 (RV.mono e2 rel1.s.apart _ _ rx) ry q hQ1

/-! ### what is walked -/
/-- J walks the items xs, while stay holds -/
structure WOk (K : PySem.W.Frag) (ct : CTab) (J : It) (xs : List PV) (stay : PSt → Prop) (ph : Phi) (H : Hp) : Prop where
  walk : ∃ G Y, Walk J xs.length G Y ∧ (∀ ph' H' p', ExtW ph H ph' H' → RelS K ct ph' H' p'.st → stay p' → G H') ∧
    (∀ i H1 v H2 ph1 p1, i < xs.length → ExtW ph H ph1 H1 → RelS K ct ph1 H1 p1.st → stay p1 → Y i H1 v H2 → Ext ph1 H1 ph1 H2 ∧ RelS K ct ph1 H2 p1.st ∧ ∃ x, xs[i]? = some x ∧ RV K ph1 H2 x v)
abbrev WI := PSt → (List PV → (PSt → Prop) → PSt → Prop) → QX → Prop
def tI (K : PySem.W.Frag) (ct : CTab) (W : WX) (w : WI) : TI := fun sg H R => ∃ ph p Q0 X0, Rel K ct ph H sg p ∧ w p Q0 X0 ∧
  (∀ xs stay p' ph' J H', Q0 xs stay p' → Ext ph H ph' H' → Rel K ct ph' H' sg p' → WOk K ct J xs stay ph' H' → R J H') ∧
  (∀ x p' ph' cls d sg' H', X0 x p' → Ext ph H ph' H' → Rel K ct ph' H' sg' p' → RX K ct ph' H' x cls d → W cls d sg' H')
theorem PI.weak {tg it : Expr} {t t' : TI} (h : PI X tg it t) (q : ∀ sg H R, t' sg H R → t sg H R) : PI X tg it t' := ⟨fun pins s sg H R I hw => h.run pins s sg H R I (q sg H R hw)⟩
/-- a list or a tuple as it is walked -/
def iSeq (K : PySem.W.Frag) (tl : TE) : TI := fun sg H R => tl sg H fun x H1 => ∃ a, x = .ref a ∧ (((∃ xs, SqL K H1 a xs) ∧ R (Itl K a) H1) ∨ ((∃ xs, SqT K H1 a xs) ∧ R (Itt K a) H1))
theorem pi_seq {tg l : Expr} {tl : TE} (hl : PE X l tl) : PI X tg l (iSeq X.K tl) := by
  refine ⟨fun pins s sg H R I h => ?_⟩
  refine thn (hl.run pins s sg H _ I h) fun v s1 ⟨x, H1, I1, r1, a, e, q⟩ => ?_
  subst e
  obtain rfl : v = Value.ref a := r1
  have fp : ∀ {H' : Hp}, ∀ b ∈ [s1.heap.objs.size], FpOk X pins H1 b := fun b hb => by
    rw [List.mem_singleton.mp hb]
    exact I1.fpOk (Nat.le_refl _) (I1.hok.fresh (Nat.le_refl _))
  rcases q with ⟨⟨xs, hq⟩, q⟩ | ⟨⟨xs, hq⟩, q⟩
  · obtain ⟨its, rv, pl, hz⟩ := I1.list hq
    refine wpAny_pyIter_list pl.isList ⟨s1.heap.objs.size, [s1.heap.objs.size], _, _, H1, rfl, I1.kept (t' := s1.toks) fun b o e => Heap.get?_push_of_some _ e, turn_list a _, ⟨_, Heap.get?_push_size _ rfl, rfl, rfl⟩, fp (H' := H), q⟩
  · obtain ⟨its, rv, pt, hz⟩ := I1.tuple hq
    have hT : s1.heap.IsTuple a its.toArray := by obtain ⟨o, h1, h2, h3⟩ := pt; exact ⟨o, h1, h2, h3⟩
    refine wpAny_pyIter_tuple hT ⟨s1.heap.objs.size, [s1.heap.objs.size], _, _, H1, rfl, I1.kept (t' := s1.toks) fun b o e => Heap.get?_push_of_some _ e, turn_tuple a _, ⟨_, Heap.get?_push_size _ rfl, rfl, rfl⟩, fp (H' := H), q⟩
section
variable {K : PySem.W.Frag} {ph : Phi} {H : Hp} {p : PSt} {sg : L2.St}
theorem src_list (rel : Rel K ct ph H sg p) {x : PV} {v : V} {f : List PV → Prop} (rx : RV K ph H x v) (ht : isTup x = false) (h : itemsOf p x f) :
    ∃ a xs vs, v = .ref a ∧ H a = some (.lst vs) ∧ RVs K ph H xs vs ∧ f xs ∧ ∀ ph' H' p', ExtW ph H ph' H' → RelS K ct ph' H' p'.st → srcOf x xs p' → ∃ vs', H' a = some (.lst vs') ∧ RVs K ph' H' xs vs' := by
  cases x with
  | lst xs =>
    unfold RV at rx
    obtain ⟨a, vs, e, h1, h3, h2⟩ := rx
    exact ⟨a, xs, vs, e, h1, h2, h, fun ph' H' p' ex _ _ => ⟨vs, ex.keep _ _ h1 h3, RVs.monoW ex rel.s.apart rel.s.hidL _ _ h2⟩⟩
  | ref n =>
    unfold RV at rx
    obtain ⟨a, e, h1⟩ := rx
    obtain ⟨xs, h2, h3⟩ := h
    obtain ⟨b, vs, h4, h5, h6⟩ := rel.s.atL h2
    rw [h1] at h4; cases h4
    refine ⟨a, xs, vs, e, h5, h6, h3, fun ph' H' p' ex rs st => ?_⟩
    obtain ⟨b, vs', g4, g5, g6⟩ := rs.atL (show p'.st[n]? = some (.lst xs) from st)
    rw [ex.mem h1] at g4; cases g4
    exact ⟨vs', g5, g6⟩
  | tup _ => cases ht
  | _ => exact h.elim
theorem src_tup (rel : Rel K ct ph H sg p) {x : PV} {v : V} {f : List PV → Prop} (rx : RV K ph H x v) (ht : isTup x = true) (h : itemsOf p x f) :
    ∃ a xs vs, v = .ref a ∧ SqT K H a vs ∧ RVs K ph H xs vs ∧ f xs ∧ ∀ ph' H', ExtW ph H ph' H' → SqT K H' a vs ∧ RVs K ph' H' xs vs := by
  cases x with
  | tup xs =>
    obtain ⟨a, vs, e, h1, h2⟩ := rx.tup_inv
    exact ⟨a, xs, vs, e, h1, h2, h, fun ph' H' ex => ⟨ex.sqT rel.s.apart rel.s.hidL h1, RVs.monoW ex rel.s.apart rel.s.hidL _ _ h2⟩⟩
  | _ => cases ht
/-- the i-th of the list at a -/
def YL (a : Addr) : Nat → Hp → V → Hp → Prop := fun i H v H' => H' = H ∧ ∃ vs, H a = some (.lst vs) ∧ vs[i]? = some v
def GL (a : Addr) (n : Nat) : Hp → Prop := fun H => ∃ vs, H a = some (.lst vs) ∧ vs.length = n
theorem walk_L {a : Addr} {n : Nat} : Walk (Itl K a) n (GL a n) (YL a) where
  goes := fun i H hi ⟨vs, e, hl⟩ => ⟨vs, vs[i]'(by omega), SqL.of e, by simp⟩
  stops := fun H ⟨vs, e, hl⟩ => ⟨vs, SqL.of e, by omega⟩
  yields := fun i H v H' hi ⟨vs, e, hl⟩ y => ⟨y.1, vs, e, y.2 vs (SqL.of e)⟩
def YLe (a : Addr) : Nat → Hp → V → Hp → Prop := fun i H v H' => ∃ T x, v = .ref T ∧ H T = none ∧ H' = upd H T (.tup [.int (i : Nat), x]) ∧ ∃ vs, H a = some (.lst vs) ∧ vs[i]? = some x
theorem walk_Le {a : Addr} {n : Nat} : Walk (Ite K a) n (GL a n) (YLe a) where
  goes := fun i H hi ⟨vs, e, hl⟩ => ⟨vs, vs[i]'(by omega), SqL.of e, by simp⟩
  stops := fun H ⟨vs, e, hl⟩ => ⟨vs, SqL.of e, by omega⟩
  yields := fun i H v H' hi ⟨vs, e, hl⟩ ⟨T, x, h1, h2, h3, h4⟩ => ⟨T, x, h1, h2, h3, vs, e, h4 vs (SqL.of e)⟩
def YLz (a b : Addr) : Nat → Hp → V → Hp → Prop := fun i H v H' => ∃ T x y, v = .ref T ∧ H T = none ∧ H' = upd H T (.tup [x, y]) ∧ (∃ vs, H a = some (.lst vs) ∧ vs[i]? = some x) ∧ ∃ vs, H b = some (.lst vs) ∧ vs[i]? = some y
theorem walk_Lz {a b : Addr} {n m k : Nat} (hk : k = min n m) : Walk (Itz K a b) k (fun H => GL a n H ∧ GL b m H) (YLz a b) where
  goes := fun i H hi ⟨⟨vs, e, hl⟩, ⟨us, e', hl'⟩⟩ => ⟨vs, us, vs[i]'(by omega), us[i]'(by omega), SqL.of e, SqL.of e', by simp, by simp⟩
  stops := fun H ⟨⟨vs, e, hl⟩, ⟨us, e', hl'⟩⟩ => ⟨vs, us, SqL.of e, SqL.of e', by omega⟩
  yields := fun i H v H' hi ⟨⟨vs, e, hl⟩, ⟨us, e', hl'⟩⟩ ⟨T, x, y, h1, h2, h3, h4, h5⟩ => ⟨T, x, y, h1, h2, h3, ⟨vs, e, h4 vs (SqL.of e)⟩, us, e', h5 us (SqL.of e')⟩
theorem walk_Tz {a b : Addr} {xs ys : List V} {k : Nat} (hk : k = min xs.length ys.length) : Walk (RZ.ItzT K a b) k (fun H => SqT K H a xs ∧ SqT K H b ys) (YPair (fun i => xs[i]?) (fun i => ys[i]?)) where
  goes := fun i H hi ⟨e, e'⟩ => ⟨xs, ys, xs[i]'(by omega), ys[i]'(by omega), e, e', by simp, by simp⟩
  stops := fun H ⟨e, e'⟩ => ⟨xs, ys, e, e', by omega⟩
  yields := fun i H v H' hi ⟨e, e'⟩ ⟨T, x, y, h1, h2, h3, h4, h5⟩ => ⟨T, x, y, h1, h2, h3, h4 xs e, h5 ys e'⟩
theorem enumL_get : ∀ {xs : List PV} {n i : Nat} {x : PV}, xs[i]? = some x → (enumL n xs)[i]? = some (.tup [.int ((n + i : Nat) : Int), x])
  | [], _, _, _, h => by simp at h
  | y :: xs, n, 0, x, h => by simp at h; subst h; simp [enumL]
  | y :: xs, n, i + 1, x, h => by
    have q := enumL_get (n := n + 1) (i := i) (x := x) (xs := xs) (by simpa using h)
    show (enumL (n + 1) xs)[i]? = _
    rw [q, show n + 1 + i = n + (i + 1) by omega]
theorem enumL_len : ∀ (xs : List PV) (n : Nat), (enumL n xs).length = xs.length
  | [], _ => rfl
  | x :: xs, n => by simp [enumL, enumL_len xs]
theorem zipL_get : ∀ {xs ys : List PV} {i : Nat} {x y : PV}, xs[i]? = some x → ys[i]? = some y → (zipL xs ys)[i]? = some (.tup [x, y])
  | [], _, _, _, _, h, _ => by simp at h
  | _ :: _, [], _, _, _, _, h => by simp at h
  | x :: xs, y :: ys, 0, _, _, h, h' => by simp at h h'; subst h h'; simp [zipL]
  | x :: xs, y :: ys, i + 1, a, b, h, h' => by
    show (zipL xs ys)[i]? = _
    exact zipL_get (by simpa using h) (by simpa using h')
theorem zipL_len : ∀ (xs ys : List PV), (zipL xs ys).length = min xs.length ys.length
  | [], _ => by simp [zipL]
  | _ :: _, [] => by simp [zipL]
  | x :: xs, y :: ys => by simp [zipL, zipL_len xs ys]
theorem RVs.get_of {xs : List PV} {vs : List V} {i : Nat} {v : V} (h : RVs K ph H xs vs) (hv : vs[i]? = some v) : ∃ x, xs[i]? = some x ∧ RV K ph H x v := by
  have hl : i < xs.length := by rw [← h.length]; exact (List.getElem?_eq_some_iff.mp hv).1
  obtain ⟨u, h1, h2⟩ := h.get (List.getElem?_eq_getElem hl)
  rw [hv] at h1; cases h1
  exact ⟨_, List.getElem?_eq_getElem hl, h2⟩
/-- a new pair as an item -/
theorem pair_ok {S : Store} (rs : RelS K ct ph H S) {T : Addr} {x y : PV} {v u : V} (hT : H T = none) (rx : RV K ph H x v) (ry : RV K ph H y u) :
    Ext ph H ph (upd H T (.tup [v, u])) ∧ RelS K ct ph (upd H T (.tup [v, u])) S ∧ RV K ph (upd H T (.tup [v, u])) (.tup [x, y]) (.ref T) :=
  ⟨Ext.lay hT, rs.lay hT, RV.of_tup (SqT.of upd_same) (RVs.mono (Ext.lay hT) rs.apart _ _ (RVs.cons rx (RVs.one ry)))⟩
end
theorem si_seq {tg l : Expr} (ha : PE X l (tE X.K ct W wa)) : PI X tg l (tI X.K ct W fun p Q E => wa p (fun x p1 => src1 p1 x fun xs st => Q xs st p1) E) := by
  refine PI.weak (pi_seq ha) fun sg H R ⟨ph, p, Q0, X0, rel, hw, hQ, hX⟩ => ?_
  refine ⟨ph, p, rel, _, X0, hw, fun x p1 ph1 v H1 q e rel1 rx => ?_, hX⟩
  cases ht : isTup x with
  | false =>
    obtain ⟨a, xs, vs, rfl, h1, h2, q, st⟩ := src_list rel1 rx ht q
    refine ⟨a, rfl, .inl ⟨⟨vs, SqL.of h1⟩, hQ _ _ _ _ _ _ q e rel1 ⟨GL a xs.length, YL a, walk_L, fun ph' H' p' ex rs s => ?_, fun i H2 u H3 ph2 p2 hi ex rs s y => ?_⟩⟩⟩
    · obtain ⟨us, g1, g2⟩ := st ph' H' p' ex rs s
      exact ⟨us, g1, g2.length⟩
    · obtain ⟨rfl, us, g3, g4⟩ := y
      obtain ⟨us', g1, g2⟩ := st ph2 _ p2 ex rs s
      rw [g3] at g1; cases g1
      exact ⟨Ext.refl, rs, g2.get_of g4⟩
  | true =>
    obtain ⟨a, xs, vs, rfl, h1, h2, q, st⟩ := src_tup rel1 rx ht q
    refine ⟨a, rfl, .inr ⟨⟨vs, h1⟩, hQ _ _ _ _ _ _ q e rel1 ⟨_, _, by rw [← h2.length]; exact walk_tup, fun ph' H' p' ex rs s => (st ph' H' ex).1, fun i H2 u H3 ph2 p2 hi ex rs s y => ?_⟩⟩⟩
    obtain ⟨rfl, g4⟩ := y
    exact ⟨Ext.refl, rs, (st ph2 _ ex).2.get_of g4⟩
theorem boot_rng : bootBuiltins ("range" : Str) = some (.type "range") := by decide +kernel
theorem walkR {lo : Int} {n : Nat} {K : PySem.W.Frag} {ph : Phi} {H : Hp} : WOk K ct (Itr lo n) (rngL lo n) (fun _ => True) ph H := by
  have hl : (rngL lo n).length = n := by unfold rngL; simp
  refine ⟨fun _ => True, YFn fun i => .int (lo + i), by rw [hl]; exact walk_range, fun _ _ _ _ _ _ => trivial, fun i H1 v H2 ph1 p1 hi _ rs _ y => ?_⟩
  obtain ⟨rfl, rfl⟩ := y
  rw [hl] at hi
  refine ⟨Ext.refl, rs, .int (lo + (i : Int)), ?_, RV.of_int⟩
  unfold rngL
  simp [List.getElem?_range hi]
theorem si_rng1 (x : XOk g ct F k X c W) {tg : Expr} {n : Str} (h1 : bltB g c n "range" = true) (hn : notStar a = true) (ha : PE X a (tE X.K ct W wa)) :
    PI X tg (.Call (.Name n p1) [a] [] pos) (tI X.K ct W fun p Q E => wa p (fun x p1 => ∃ n, x = .int n ∧ rngOk 0 n ∧ Q (rngL 0 n.toNat) (fun _ => True) p1) E) := by
  obtain ⟨e1, hg, hm, hd⟩ := bltB_of x h1
  subst e1
  refine PI.weak (pi_range1 hg hm (pa_cons ha pa_nil (star_of hn _)) (star_of hn _)) fun sg H R ⟨ph, p, Q0, X0, rel, hw, hQ, hX⟩ => ?_
  refine ⟨ph, p, rel, _, X0, hw, fun x p1 ph1 v H1 q e rel1 rx => ?_, hX⟩
  obtain ⟨i, rfl, z, q⟩ := q
  cases rx.int_inv
  exact ⟨i, rfl, z.2.2.1, z.2.2.2, hQ _ _ _ _ _ _ q e rel1 walkR⟩
theorem si_rng2 (x : XOk g ct F k X c W) {tg : Expr} {n : Str} (h1 : bltB g c n "range" = true) (hn : notStar a = true) (hn2 : notStar b = true) (ha : PE X a (tE X.K ct W wa)) (hb : PE X b (tE X.K ct W wb)) :
    PI X tg (.Call (.Name n p1) [a, b] [] pos) (tI X.K ct W fun p Q E => wa p (fun x p1 => wb p1 (fun y p2 => ∃ lo hi, x = .int lo ∧ y = .int hi ∧ rngOk lo hi ∧ Q (rngL lo (hi - lo).toNat) (fun _ => True) p2) E) E) := by
  obtain ⟨e1, hg, hm, hd⟩ := bltB_of x h1
  subst e1
  refine PI.weak (pi_range2 hg hm (pa_cons ha (pa_cons hb pa_nil (star_of hn2 _)) (star_of hn _)) (by rw [star_of hn, star_of hn2]; rfl) (star_of hn2 _)) fun sg H R ⟨ph, p, Q0, X0, rel, hw, hQ, hX⟩ => ?_
  refine ⟨ph, p, rel, _, X0, hw, fun x p1 ph1 v H1 q e rel1 rx => ?_, hX⟩
  refine ⟨ph1, p1, rel1, _, X0, q, fun y p2 ph2 u H2 q e2 rel2 ry => ?_, fun x p' ph' cls d sg' H' q' e' r' rx' => hX _ _ _ _ _ _ _ q' (e.trans e') r' rx'⟩
  obtain ⟨i, j, rfl, rfl, z, q⟩ := q
  cases rx.int_inv
  cases ry.int_inv
  exact ⟨i, j, rfl, z, hQ _ _ _ _ _ _ q (e.trans e2) rel2 walkR⟩
theorem si_enum (x : XOk g ct F k X c W) {n : Str} {el : List Expr} {kk : Nat} (h1 : bltB g c n "enumerate" = true) (hn : notStar a = true) (ha : PE X a (tE X.K ct W wa)) :
    PI X (.Tuple el kk p2) (.Call (.Name n p1) [a] [] pos) (tI X.K ct W fun p Q E => wa p (fun x p1 => src1 p1 x fun xs st => Q (enumL 0 xs) st p1) E) := by
  obtain ⟨e1, hg, hm, hd⟩ := bltB_of x h1
  subst e1
  refine PI.weak (pi_enA hg hm (pa_cons ha pa_nil (star_of hn _)) (star_of hn _)) fun sg H R ⟨ph, p, Q0, X0, rel, hw, hQ, hX⟩ => ?_
  refine ⟨ph, p, rel, _, X0, hw, fun x p1 ph1 v H1 q e rel1 rx => ?_, hX⟩
  cases ht : isTup x with
  | false =>
    obtain ⟨a, xs, vs, rfl, h1, h2, q, st⟩ := src_list rel1 rx ht q
    refine ⟨a, vs, rfl, .inl ⟨SqL.of h1, hQ _ _ _ _ _ _ q e rel1 ⟨GL a xs.length, YLe a, by rw [enumL_len]; exact walk_Le, fun ph' H' p' ex rs s => ?_, fun i H2 u H3 ph2 p2 hi ex rs s y => ?_⟩⟩⟩
    · obtain ⟨us, g1, g2⟩ := st ph' H' p' ex rs s
      exact ⟨us, g1, g2.length⟩
    · obtain ⟨T, w, rfl, hT, rfl, us, g3, g4⟩ := y
      obtain ⟨us', g1, g2⟩ := st ph2 H2 p2 ex rs s
      rw [g3] at g1; cases g1
      obtain ⟨z, g5, g6⟩ := g2.get_of g4
      obtain ⟨q1, q2, q3⟩ := pair_ok rs hT (RV.of_int (i := (i : Nat))) g6
      exact ⟨q1, q2, _, by rw [enumL_get g5, Nat.zero_add], q3⟩
  | true =>
    obtain ⟨a, xs, vs, rfl, h1, h2, q, st⟩ := src_tup rel1 rx ht q
    refine ⟨a, vs, rfl, .inr ⟨h1, hQ _ _ _ _ _ _ q e rel1 ⟨_, _, by rw [enumL_len, ← h2.length]; exact walk_enT, fun ph' H' p' ex rs s => (st ph' H' ex).1, fun i H2 u H3 ph2 p2 hi ex rs s y => ?_⟩⟩⟩
    obtain ⟨T, w1, w2, rfl, hT, rfl, g3, g4⟩ := y
    cases g3
    obtain ⟨z, g5, g6⟩ := (st ph2 H2 ex).2.get_of g4
    obtain ⟨q1, q2, q3⟩ := pair_ok rs hT (RV.of_int (i := (i : Nat))) g6
    exact ⟨q1, q2, _, by rw [enumL_get g5, Nat.zero_add], q3⟩
theorem si_zip (x : XOk g ct F k X c W) {n : Str} {el : List Expr} {kk : Nat} (h1 : bltB g c n "zip" = true) (hn : notStar a = true) (hn2 : notStar b = true) (ha : PE X a (tE X.K ct W wa)) (hb : PE X b (tE X.K ct W wb)) :
    PI X (.Tuple el kk p2) (.Call (.Name n p1) [a, b] [] pos) (tI X.K ct W fun p Q E => wa p (fun x p1 => wb p1 (fun y p2 => isTup x = isTup y ∧ src1 p2 x fun xs st => src1 p2 y fun ys st' => Q (zipL xs ys) (fun p => st p ∧ st' p) p2) E) E) := by
  obtain ⟨e1, hg, hm, hd⟩ := bltB_of x h1
  subst e1
  refine PI.weak (RZ.pi_zipA hg hm (pa_cons ha (pa_cons hb pa_nil (star_of hn2 _)) (star_of hn _)) (star_of hn _) (by rw [star_of hn2]; rfl)) fun sg H R ⟨ph, p, Q0, X0, rel, hw, hQ, hX⟩ => ?_
  refine ⟨ph, p, rel, _, X0, hw, fun x p1 ph1 v H1 q e rel1 rx => ?_, hX⟩
  refine ⟨ph1, p1, rel1, _, X0, q, fun y p2 ph2 u H2 q e2 rel2 ry => ?_, fun x p' ph' cls d sg' H' q' e' r' rx' => hX _ _ _ _ _ _ _ q' (e.trans e') r' rx'⟩
  obtain ⟨hxy, q⟩ := q
  have rx := RV.mono e2 rel1.s.apart _ _ rx
  cases ht : isTup x with
  | false =>
    rw [ht] at hxy
    obtain ⟨a, xs, vs, rfl, h1, h2, q, st⟩ := src_list rel2 rx ht q
    obtain ⟨b, ys, us, rfl, h3, h4, q, st'⟩ := src_list rel2 ry hxy.symm q
    refine ⟨a, b, vs, us, rfl, .inl ⟨SqL.of h1, SqL.of h3, hQ _ _ _ _ _ _ q (e.trans e2) rel2 ⟨_, YLz a b, walk_Lz (zipL_len xs ys), fun ph' H' p' ex rs s => ?_, fun i H2 u H3 ph2 p2 hi ex rs s y => ?_⟩⟩⟩
    · obtain ⟨us, g1, g2⟩ := st ph' H' p' ex rs s.1
      obtain ⟨us', g3, g4⟩ := st' ph' H' p' ex rs s.2
      exact ⟨⟨us, g1, g2.length⟩, us', g3, g4.length⟩
    · obtain ⟨T, w, w', rfl, hT, rfl, ⟨vs', g3, g4⟩, us', g5, g6⟩ := y
      obtain ⟨z, g1, g2⟩ := st ph2 H2 p2 ex rs s.1
      rw [g3] at g1; cases g1
      obtain ⟨z', g7, g8⟩ := st' ph2 H2 p2 ex rs s.2
      rw [g5] at g7; cases g7
      obtain ⟨o1, o2, o3⟩ := g2.get_of g4
      obtain ⟨o4, o5, o6⟩ := g8.get_of g6
      obtain ⟨q1, q2, q3⟩ := pair_ok rs hT o3 o6
      exact ⟨q1, q2, _, zipL_get o2 o5, q3⟩
  | true =>
    rw [ht] at hxy
    obtain ⟨a, xs, vs, rfl, h1, h2, q, st⟩ := src_tup rel2 rx ht q
    obtain ⟨b, ys, us, rfl, h3, h4, q, st'⟩ := src_tup rel2 ry hxy.symm q
    refine ⟨a, b, vs, us, rfl, .inr ⟨h1, h3, hQ _ _ _ _ _ _ q (e.trans e2) rel2 ⟨_, _, walk_Tz (xs := vs) (ys := us) (by rw [zipL_len, h2.length, h4.length]), fun ph' H' p' ex rs s => ⟨(st ph' H' ex).1, (st' ph' H' ex).1⟩, fun i H2 u H3 ph2 p2 hi ex rs s y => ?_⟩⟩⟩
    obtain ⟨T, w1, w2, rfl, hT, rfl, g3, g4⟩ := y
    obtain ⟨o1, o2, o3⟩ := (st ph2 H2 ex).2.get_of g3
    obtain ⟨o4, o5, o6⟩ := (st' ph2 H2 ex).2.get_of g4
    obtain ⟨q1, q2, q3⟩ := pair_ok rs hT o3 o6
    exact ⟨q1, q2, _, zipL_get o2 o5, q3⟩
end
end Den

/-! D3d: targets, comprehensions. -/
namespace Den
open PySem PySem.Spec PyProof.Rows L2
section
variable {g : GD} {ct : CTab} {F : FT} {k : Nat} {X : Cx} {c : CC} {W : WX} {K : PySem.W.Frag} {ph : Phi} {H : Hp} {sg : L2.St} {p : PSt}
/-! ### targets -/
theorem wipe_set_mem {i : Nat} {v : Option V} : ∀ {vs : List Nat} {sg : L2.St}, i ∈ vs → wipe (sg.set i v) vs = wipe sg vs
  | w :: vs, sg, h => by
    show (wipe (sg.set i v) vs).set w none = (wipe sg vs).set w none
    rcases List.mem_cons.mp h with e | e
    · subst e
      by_cases hm : i ∈ vs
      · rw [wipe_set_mem hm]
      · have q : ∀ {us : List Nat} {sg : L2.St}, i ∉ us → wipe (sg.set i v) us = (wipe sg us).set i v := fun {us} => by
          induction us with
          | nil => intro sg _; rfl
          | cons u us ih =>
            intro sg hu
            show (wipe (sg.set i v) us).set u none = ((wipe sg us).set u none).set i v
            rw [ih (fun z => hu (List.mem_cons_of_mem _ z)), List.set_comm _ _ (fun z => hu (by rw [z]; exact List.mem_cons_self))]
        rw [q hm, List.set_set]
    · rw [wipe_set_mem e]
theorem wipe_get : ∀ (vs : List Nat) (sg : L2.St) (i : Nat), (L2.wipe sg vs)[i]? = if i ∈ vs ∧ i < sg.length then some none else sg[i]?
  | [], sg, i => by simp [L2.wipe]
  | v :: vs, sg, i => by
    show ((L2.wipe sg vs).set v none)[i]? = _
    rw [List.getElem?_set, wipe_length, wipe_get vs sg i]
    by_cases h : v = i
    · subst h
      by_cases hl : v < sg.length
      · simp [hl]
      · simp [hl]
    · have h' : ¬ i = v := fun z => h z.symm
      simp [h, h']
theorem wipe_idem (vs : List Nat) (sg : L2.St) : L2.wipe (L2.wipe sg vs) vs = L2.wipe sg vs := by
  apply List.ext_getElem?
  intro i
  rw [wipe_get, wipe_get, wipe_length]
  split <;> rfl
/-- stored at the slots of t alone -/
def Wpd (t : T) (sg sg' : L2.St) : Prop := ∀ vs : List Nat, (∀ i ∈ slotsT t, i ∈ vs) → L2.wipe sg' vs = L2.wipe sg vs
theorem RelE.set {env : List (Option PV)} (r : RelE K ph H env sg) {i : Nat} {x : PV} {v : V} (hi : i < env.length) (rx : RV K ph H x v) : RelE K ph H (env.set i (some x)) (sg.set i (some v)) := by
  refine ⟨by simp [r.len], fun j y h => ?_⟩
  by_cases hj : j = i
  · subst hj
    rw [List.getElem?_set_self hi] at h
    cases h
    exact ⟨v, by rw [List.getElem?_set_self (by rw [← r.len]; exact hi)], rx⟩
  · rw [List.getElem?_set_ne (fun z => hj z.symm)] at h
    obtain ⟨u, h1, h2⟩ := r.val j y h
    exact ⟨u, by rw [List.getElem?_set_ne (fun z => hj z.symm)]; exact h1, h2⟩
def tT (K : PySem.W.Frag) (ct : CTab) (t : T) : TG := fun v sg H Q => ∃ ph p x Q0, Rel K ct ph H sg p ∧ RV K ph H x v ∧ wT t x p Q0 ∧ ∀ p' sg', Q0 p' → Rel K ct ph H sg' p' → Wpd t sg sg' → Q sg' H
def tTs (K : PySem.W.Frag) (ct : CTab) (t : T) : TGs := fun vs sg H Q => ∃ ph p xs Q0, Rel K ct ph H sg p ∧ RVs K ph H xs vs ∧ wTs t xs p Q0 ∧ ∀ p' sg', Q0 p' → Rel K ct ph H sg' p' → Wpd t sg sg' → Q sg' H
theorem PG.weak {tg : Expr} {t t' : TG} (h : PG X tg t) (q : ∀ v sg H Q, t' v sg H Q → t v sg H Q) : PG X tg t' := ⟨fun pins s sg H v u Q I r hw => h.run pins s sg H v u Q I r (q _ _ _ _ hw)⟩
theorem PGs.weak {tg : List Expr} {t t' : TGs} (h : PGs X tg t) (q : ∀ v sg H Q, t' v sg H Q → t v sg H Q) : PGs X tg t' := ⟨fun pins s sg H v u Q I r hw => h.run pins s sg H v u Q I r (q _ _ _ _ hw)⟩
theorem cT_star {t : T} {e : Expr} (h : cT c t e = true) : notStar e = true := by
  cases e <;> first | rfl | (cases t <;> simp [cT] at h)
theorem assignEach_of {e : Expr} (h : notStar e = true) (es : List Expr) (env : Env) : assignEach (e :: es) env = (false, assign e env) :: assignEach es env := by
  cases e <;> first | rfl | cases h
theorem assignEach_len : ∀ (es : List Expr) (env : Env), (assignEach es env).length = es.length
  | [], _ => rfl
  | e :: es, env => by
    have q := assignEach_len es env
    cases e <;> simp only [assignEach, List.length_cons, q]
theorem assignEach_none : ∀ {es : List Expr} (env : Env), es.all notStar = true → (assignEach es env).findIdx? (·.1) = none
  | [], _, _ => rfl
  | e :: es, env, h => by
    rw [List.all_cons, Bool.and_eq_true] at h
    rw [assignEach_of h.1, List.findIdx?_cons]
    simp only [Bool.false_eq_true, if_false]
    rw [assignEach_none env h.2]
    rfl
theorem cTs_star : ∀ {t : T} {es : List Expr}, cTs c t es = true → es.all notStar = true
  | .nil, [], _ => rfl
  | .cons t ts, e :: es, h => by
    simp only [cTs, Bool.and_eq_true] at h
    rw [List.all_cons, Bool.and_eq_true]
    exact ⟨cT_star h.1, cTs_star h.2⟩
  | .nil, _ :: _, h => by simp [cTs] at h
  | .cons _ _, [], h => by simp [cTs] at h
  | .name _, _, h => by simp [cTs] at h
  | .tup _, _, h => by simp [cTs] at h
mutual
theorem wT_some : ∀ (t : T) (v : PV) (p : PSt) (R : PSt → Prop), wT t v p R → ∃ p', R p'
  | .name i, v, p, R, h => by
    simp only [wT] at h
    exact ⟨_, h.2⟩
  | .tup ts, v, p, R, h => by
    simp only [wT] at h
    obtain ⟨xs, _, h⟩ := h
    exact wTs_some ts xs p R h
  | .nil, _, _, _, h => by simp [wT] at h
  | .cons _ _, _, _, _, h => by simp [wT] at h
theorem wTs_some : ∀ (t : T) (v : List PV) (p : PSt) (R : PSt → Prop), wTs t v p R → ∃ p', R p'
  | .nil, v, p, R, h => by
    simp only [wTs] at h
    exact ⟨_, h.2⟩
  | .cons t ts, v, p, R, h => by
    simp only [wTs] at h
    obtain ⟨x, r, _, h⟩ := h
    obtain ⟨p', h⟩ := wT_some t x p _ h
    exact wTs_some ts r p' R h
  | .name _, _, _, _, h => by simp [wTs] at h
  | .tup _, _, _, _, h => by simp [wTs] at h
end
theorem wTs_len : ∀ {t : T} {es : List Expr} {xs : List PV} {p : PSt} {Q : PSt → Prop}, cTs c t es = true → wTs t xs p Q → xs.length = es.length
  | .nil, [], xs, p, Q, _, h => by
    simp only [wTs] at h
    rw [h.1]; rfl
  | .cons t ts, e :: es, xs, p, Q, hc, h => by
    simp only [cTs, Bool.and_eq_true] at hc
    simp only [wTs] at h
    obtain ⟨x, r, rfl, h⟩ := h
    obtain ⟨p', h⟩ := wT_some t x p _ h
    rw [List.length_cons, List.length_cons, wTs_len hc.2 h]
  | .nil, _ :: _, _, _, _, h, _ => by simp [cTs] at h
  | .cons _ _, [], _, _, _, h, _ => by simp [cTs] at h
  | .name _, _, _, _, _, h, _ => by simp [cTs] at h
  | .tup _, _, _, _, _, h, _ => by simp [cTs] at h
mutual
theorem sT (x : XOk g ct F k X c W) : ∀ (t : T) (e : Expr), cT c t e = true → PG X e (tT X.K ct t)
  | .name i, e, h => by
    cases e <;> first | (simp [cT] at h; done) | skip
    rename_i n pos
    simp only [cT, Bool.and_eq_true, decide_eq_true_eq, Bool.or_eq_true] at h
    obtain ⟨⟨h1, h2⟩, h3⟩ := h
    have hf : X.fn n = true ∨ X.env.scope.names.lookup n = some .local := by
      rw [x.fn, x.sc]
      exact h3.imp id lclB_of
    refine PG.weak (pg_name x.nd (i := i) (by rw [x.N]; exact h1) (by rw [x.sc]; exact locB_of h2) hf) fun v sg H Q h => ?_
    obtain ⟨ph, p, y, Q0, rel, rx, hw, hQ⟩ := h
    simp only [wT] at hw
    exact hQ _ _ hw.2 ⟨rel.e.set hw.1 rx, rel.s⟩ fun vs hv => wipe_set_mem (hv i (by simp [slotsT]))
  | .tup ts, e, h => by
    cases e <;> first | (simp [cT] at h; done) | skip
    rename_i es kk pos
    simp only [cT] at h
    refine PG.weak (pg_tup (n := es.length) x.calm (sTs x ts es h) (assignEach_len es _) (assignEach_none _ (cTs_star h))) fun v sg H Q h' => ?_
    obtain ⟨ph, p, y, Q0, rel, rx, hw, hQ⟩ := h'
    simp only [wT] at hw
    obtain ⟨xs, rfl, hw⟩ := hw
    obtain ⟨a, vs, rfl, h1, h2⟩ := rx.tup_inv
    exact ⟨a, vs, rfl, h1, by rw [h2.length]; exact wTs_len h hw, ph, p, xs, Q0, rel, h2, hw, hQ⟩
  | .nil, _, h => by simp [cT] at h
  | .cons _ _, _, h => by simp [cT] at h
theorem sTs (x : XOk g ct F k X c W) : ∀ (t : T) (es : List Expr), cTs c t es = true → PGs X es (tTs X.K ct t)
  | .nil, [], h => PGs.weak pgs_nil fun vs sg H Q h => by
    obtain ⟨ph, p, xs, Q0, rel, rx, hw, hQ⟩ := h
    simp only [wTs] at hw
    obtain ⟨rfl, hw⟩ := hw
    exact ⟨rx.nil_inv, hQ _ _ hw rel fun _ _ => rfl⟩
  | .cons t ts, e :: es, h => by
    simp only [cTs, Bool.and_eq_true] at h
    refine PGs.weak (pgs_cons (sT x t e h.1) (sTs x ts es h.2) (by rw [assignEach_of (cT_star h.1)]; rfl)) fun vs sg H Q h' => ?_
    obtain ⟨ph, p, xs, Q0, rel, rx, hw, hQ⟩ := h'
    simp only [wTs] at hw
    obtain ⟨y, ys, rfl, hw⟩ := hw
    obtain ⟨v, us, rfl, r1, r2⟩ := rx.cons_inv
    refine ⟨v, us, rfl, ph, p, y, _, rel, r1, hw, fun p' sg' hw' rel' wp => ?_⟩
    exact ⟨ph, p', ys, Q0, rel', r2, hw', fun p2 sg2 q2 rel2 wp2 => hQ p2 sg2 q2 rel2 fun vs hv =>
      (wp2 vs fun i hi => hv i (by simp [slotsT, hi])).trans (wp vs fun i hi => hv i (by simp [slotsT, hi]))⟩
  | .nil, _ :: _, h => by simp [cTs] at h
  | .cons _ _, [], h => by simp [cTs] at h
  | .name _, _, h => by simp [cTs] at h
  | .tup _, _, h => by simp [cTs] at h
end
/-! ### lists that are being made -/
mutual
theorem RV.hide {D : Addr} (hD : H D = none) : ∀ (x : PV) (v : V), RV K ph H x v → RV K (ph.hide D) H x v
  | .non, _, h => by simpa [RV] using h
  | .bl _, _, h => by simpa [RV] using h
  | .int _, _, h => by simpa [RV] using h
  | .str _, _, h => by simpa [RV] using h
  | .ty _, _, h => by simpa [RV] using h
  | .dct, v, h => by
    unfold RV at h ⊢
    obtain ⟨a, kvs, e1, h1, h3⟩ := h
    exact ⟨a, kvs, e1, h1, ⟨h3.1, fun z => (List.mem_cons.mp z).elim (fun z => by rw [z, hD] at h1; cases h1) h3.2⟩⟩
  | .tup xs, v, h => by
    unfold RV at h ⊢
    obtain ⟨a, vs, e1, h1, h2⟩ := h
    exact ⟨a, vs, e1, h1, RVs.hide hD xs vs h2⟩
  | .lst xs, v, h => by
    unfold RV at h ⊢
    obtain ⟨a, vs, e1, h1, h3, h2⟩ := h
    exact ⟨a, vs, e1, h1, ⟨h3.1, fun z => (List.mem_cons.mp z).elim (fun z => by rw [z, hD] at h1; cases h1) h3.2⟩, RVs.hide hD xs vs h2⟩
  | .lck xs, v, h => by
    unfold RV at h ⊢
    obtain ⟨a, vs, e1, h1, h2⟩ := h
    refine ⟨a, vs, e1, ?_, RVs.hide hD xs vs h2⟩
    rcases h1 with ⟨h1, h3⟩ | h1
    · refine .inl ⟨h1, h3.1, fun z => (List.mem_cons.mp z).elim (fun z => ?_) h3.2⟩
      subst z
      rcases h1 with h1 | ⟨o, h1⟩
      · rw [hD] at h1; cases h1
      · rw [hD] at h1; cases h1
    · exact .inr h1
  | .ref n, v, h => by
    unfold RV at h ⊢
    exact h
theorem RVs.hide {D : Addr} (hD : H D = none) : ∀ (xs : List PV) (vs : List V), RVs K ph H xs vs → RVs K (ph.hide D) H xs vs
  | [], _, h => by simpa [RVs] using h
  | x :: xs, vs, h => by
    unfold RVs at h ⊢
    obtain ⟨v, r, e1, h1, h2⟩ := h
    exact ⟨v, r, e1, RV.hide hD x v h1, RVs.hide hD xs r h2⟩
end
mutual
theorem RV.show {D : Addr} : ∀ (x : PV) (v : V), RV K (ph.hide D) H x v → RV K ph H x v
  | .non, _, h => by simpa [RV] using h
  | .bl _, _, h => by simpa [RV] using h
  | .int _, _, h => by simpa [RV] using h
  | .str _, _, h => by simpa [RV] using h
  | .ty _, _, h => by simpa [RV] using h
  | .dct, v, h => by
    unfold RV at h ⊢
    obtain ⟨a, kvs, e1, h1, h3⟩ := h
    exact ⟨a, kvs, e1, h1, ⟨h3.1, fun z => h3.2 (List.mem_cons_of_mem _ z)⟩⟩
  | .tup xs, v, h => by
    unfold RV at h ⊢
    obtain ⟨a, vs, e1, h1, h2⟩ := h
    exact ⟨a, vs, e1, h1, RVs.show xs vs h2⟩
  | .lst xs, v, h => by
    unfold RV at h ⊢
    obtain ⟨a, vs, e1, h1, h3, h2⟩ := h
    exact ⟨a, vs, e1, h1, ⟨h3.1, fun z => h3.2 (List.mem_cons_of_mem _ z)⟩, RVs.show xs vs h2⟩
  | .lck xs, v, h => by
    unfold RV at h ⊢
    obtain ⟨a, vs, e1, h1, h2⟩ := h
    exact ⟨a, vs, e1, h1.imp (fun q => ⟨q.1, q.2.1, fun z => q.2.2 (List.mem_cons_of_mem _ z)⟩) id, RVs.show xs vs h2⟩
  | .ref n, v, h => by
    unfold RV at h ⊢
    exact h
theorem RVs.show {D : Addr} : ∀ (xs : List PV) (vs : List V), RVs K (ph.hide D) H xs vs → RVs K ph H xs vs
  | [], _, h => by simpa [RVs] using h
  | x :: xs, vs, h => by
    unfold RVs at h ⊢
    obtain ⟨v, r, e1, h1, h2⟩ := h
    exact ⟨v, r, e1, RV.show x v h1, RVs.show xs r h2⟩
end
-- a hidden list that is written: nothing else knows it
mutual
theorem RV.wr {D : Addr} {o : HO} (hm : D ∈ ph.hd) (hd : D ∉ ph.ad) (hl : ∃ us, H D = some (.lst us)) : ∀ (x : PV) (v : V), RV K ph H x v → RV K ph (upd H D o) x v
  | .non, _, h => by simpa [RV] using h
  | .bl _, _, h => by simpa [RV] using h
  | .int _, _, h => by simpa [RV] using h
  | .str _, _, h => by simpa [RV] using h
  | .ty _, _, h => by simpa [RV] using h
  | .dct, v, h => by
    unfold RV at h ⊢
    obtain ⟨a, kvs, e1, h1, h3⟩ := h
    exact ⟨a, kvs, e1, by rw [upd_ne (fun z => h3.2 (by rw [z]; exact hm))]; exact h1, h3⟩
  | .tup xs, v, h => by
    unfold RV at h ⊢
    obtain ⟨a, vs, e1, h1, h2⟩ := h
    refine ⟨a, vs, e1, ?_, RVs.wr hm hd hl xs vs h2⟩
    obtain ⟨us, hl⟩ := hl
    rcases h1 with (h1 | ⟨o, h1⟩) | h1
    · exact .inl (.inl (by rw [upd_ne (fun z => by rw [z, hl] at h1; cases h1)]; exact h1))
    · exact .inl (.inr ⟨o, by rw [upd_ne (fun z => by rw [z, hl] at h1; cases h1)]; exact h1⟩)
    · exact .inr h1
  | .lst xs, v, h => by
    unfold RV at h ⊢
    obtain ⟨a, vs, e1, h1, h3, h2⟩ := h
    exact ⟨a, vs, e1, by rw [upd_ne (fun z => h3.2 (by rw [z]; exact hm))]; exact h1, h3, RVs.wr hm hd hl xs vs h2⟩
  | .lck xs, v, h => by
    unfold RV at h ⊢
    obtain ⟨a, vs, e1, h1, h2⟩ := h
    refine ⟨a, vs, e1, ?_, RVs.wr hm hd hl xs vs h2⟩
    rcases h1 with ⟨h1, h3⟩ | h1
    · have ne : a ≠ D := fun z => h3.2 (by rw [z]; exact hm)
      refine .inl ⟨?_, h3⟩
      rcases h1 with h1 | ⟨o, h1⟩
      · exact .inl (by rw [upd_ne ne]; exact h1)
      · exact .inr ⟨o, by rw [upd_ne ne]; exact h1⟩
    · exact .inr h1
  | .ref n, v, h => by
    unfold RV at h ⊢
    exact h
theorem RVs.wr {D : Addr} {o : HO} (hm : D ∈ ph.hd) (hd : D ∉ ph.ad) (hl : ∃ us, H D = some (.lst us)) : ∀ (xs : List PV) (vs : List V), RVs K ph H xs vs → RVs K ph (upd H D o) xs vs
  | [], _, h => by simpa [RVs] using h
  | x :: xs, vs, h => by
    unfold RVs at h ⊢
    obtain ⟨v, r, e1, h1, h2⟩ := h
    exact ⟨v, r, e1, RV.wr hm hd hl x v h1, RVs.wr hm hd hl xs r h2⟩
end
theorem RO.map {ph' : Phi} {H' : Hp} {o : SO} {a : Addr} (r : RO K ct ph H o a) (hv : ∀ xs vs, RVs K ph H xs vs → RVs K ph' H' xs vs) (k : ∀ u, H a = some u → H' a = some u) (hd : ∀ dx, H dx = some (.own a) → H' dx = some (.own a)) : RO K ct ph' H' o a := by
  cases o with
  | lst xs =>
    obtain ⟨vs, h1, h2⟩ := r
    exact ⟨vs, k _ h1, hv _ _ h2⟩
  | ins c fs =>
    obtain ⟨C, dx, hs, h0, h1, h3, h4, h2⟩ := r
    exact ⟨C, dx, hs, h0, k _ h1, hd dx h3, h4, hv _ _ h2⟩
  | dct es g =>
    obtain ⟨hs, h1, h2, h3, h4, h5⟩ := r
    exact ⟨hs, k _ h1, h2, h3, hv _ _ h4, hv _ _ h5⟩
theorem Rel.hide (r : Rel K ct ph H sg p) {D : Addr} (hD : H D = none) : Rel K ct (ph.hide D) (upd H D (.lst [])) sg p := by
  have ex : Ext ph H ph (upd H D (.lst [])) := Ext.lay hD
  have h0 : RelS K ct ph (upd H D (.lst [])) p.st := r.s.lay hD
  have f := r.s.fresh hD
  have ex2 : Ext (ph.hide D) H (ph.hide D) (upd H D (.lst [])) := Ext.lay hD
  have hv : ∀ xs vs, RVs K ph H xs vs → RVs K (ph.hide D) (upd H D (.lst [])) xs vs := fun xs vs q => RVs.mono ex2 r.s.apart _ _ (RVs.hide hD xs vs q)
  refine ⟨⟨r.e.len, fun i x h => ?_⟩, r.s.len, r.s.nd, fun a ha => ?_, fun i o h => ?_⟩
  · obtain ⟨v, h1, h2⟩ := r.e.val i x h
    exact ⟨v, h1, RV.mono ex2 r.s.apart _ _ (RV.hide hD x v h2)⟩
  · rcases List.mem_cons.mp ha with z | z
    · subst z
      exact ⟨f.1, [], upd_same⟩
    · obtain ⟨h1, vs, h2⟩ := r.s.hid a z
      exact ⟨h1, vs, by rw [upd_ne (ne_of_none h2 hD)]; exact h2⟩
  · obtain ⟨a, h1, h2⟩ := r.s.obj i o h
    exact ⟨a, h1, h2.map hv (fun u e => by rw [upd_ne (ne_of_none e hD)]; exact e) fun dx e => by rw [upd_ne (ne_of_none e hD)]; exact e⟩
theorem Rel.show {D : Addr} (r : Rel K ct (ph.hide D) H sg p) : Rel K ct ph H sg p := by
  refine ⟨⟨r.e.len, fun i x h => ?_⟩, r.s.len, r.s.nd, fun a ha => r.s.hid a (List.mem_cons_of_mem _ ha), fun i o h => ?_⟩
  · obtain ⟨v, h1, h2⟩ := r.e.val i x h
    exact ⟨v, h1, RV.show x v h2⟩
  · obtain ⟨a, h1, h2⟩ := r.s.obj i o h
    exact ⟨a, h1, h2.map (fun xs vs q => RVs.show xs vs q) (fun _ e => e) fun _ e => e⟩
theorem Rel.wr {D : Addr} {us : List V} (r : Rel K ct ph H sg p) (hm : D ∈ ph.hd) : Rel K ct ph (upd H D (.lst us)) sg p := by
  obtain ⟨hd, hl⟩ := r.s.hid D hm
  have hl' := hl
  obtain ⟨ws, hw⟩ := hl
  refine ⟨⟨r.e.len, fun i x h => ?_⟩, r.s.len, r.s.nd, fun a ha => ?_, fun i o h => ?_⟩
  · obtain ⟨v, h1, h2⟩ := r.e.val i x h
    exact ⟨v, h1, RV.wr hm hd hl' x v h2⟩
  · obtain ⟨h1, vs, h2⟩ := r.s.hid a ha
    by_cases z : a = D
    · subst z; exact ⟨h1, us, upd_same⟩
    · exact ⟨h1, vs, by rw [upd_ne z]; exact h2⟩
  · obtain ⟨a, h1, h2⟩ := r.s.obj i o h
    have ne : a ≠ D := fun z => hd (by rw [← z]; exact List.mem_iff_getElem?.mpr ⟨i, h1⟩)
    exact ⟨a, h1, h2.map (fun xs vs q => RVs.wr hm hd hl' xs vs q) (fun u e => by rw [upd_ne ne]; exact e) fun dx e => by rw [upd_ne (fun z => by rw [z, hw] at e; cases e)]; exact e⟩
/-- other stores, other hidden lists -/
theorem RV.imp {ph' : Phi} (ha : ∀ (n : Nat) a, ph.ad[n]? = some a → ph'.ad[n]? = some a) (off : ∀ a, ph.off a → ph'.off a) : (∀ (x : PV) (v : V), RV K ph H x v → RV K ph' H x v) ∧ ∀ (xs : List PV) (vs : List V), RVs K ph H xs vs → RVs K ph' H xs vs := by
  have go : ∀ n : Nat, (∀ (x : PV) (v : V), sizeOf x < n → RV K ph H x v → RV K ph' H x v) ∧ ∀ (xs : List PV) (vs : List V), sizeOf xs < n → RVs K ph H xs vs → RVs K ph' H xs vs := by
    intro n
    induction n with
    | zero => exact ⟨fun _ _ h => absurd h (Nat.not_lt_zero _), fun _ _ h => absurd h (Nat.not_lt_zero _)⟩
    | succ n ih =>
      refine ⟨fun x v hs h => ?_, fun xs vs hs h => ?_⟩
      · cases x with
        | tup xs =>
          unfold RV at h ⊢
          obtain ⟨a, vs, e1, h1, h2⟩ := h
          exact ⟨a, vs, e1, h1, ih.2 xs vs (by simp at hs; omega) h2⟩
        | lst xs =>
          unfold RV at h ⊢
          obtain ⟨a, vs, e1, h1, h3, h2⟩ := h
          exact ⟨a, vs, e1, h1, off a h3, ih.2 xs vs (by simp at hs; omega) h2⟩
        | lck xs =>
          unfold RV at h ⊢
          obtain ⟨a, vs, e1, h1, h2⟩ := h
          exact ⟨a, vs, e1, h1.imp (fun q => ⟨q.1, off a q.2⟩) id, ih.2 xs vs (by simp at hs; omega) h2⟩
        | ref n =>
          unfold RV at h ⊢
          obtain ⟨a, e1, h1⟩ := h
          exact ⟨a, e1, ha n a h1⟩
        | dct =>
          unfold RV at h ⊢
          obtain ⟨a, kvs, e1, h1, h3⟩ := h
          exact ⟨a, kvs, e1, h1, off a h3⟩
        | _ => unfold RV at h ⊢; exact h
      · cases xs with
        | nil => unfold RVs at h ⊢; exact h
        | cons x xs =>
          unfold RVs at h ⊢
          obtain ⟨v, r, e1, h1, h2⟩ := h
          exact ⟨v, r, e1, ih.1 x v (by simp at hs; omega) h1, ih.2 xs r (by simp at hs; omega) h2⟩
  exact ⟨fun x v => (go (sizeOf x + 1)).1 x v (Nat.lt_succ_self _), fun xs vs => (go (sizeOf xs + 1)).2 xs vs (Nat.lt_succ_self _)⟩
/-- fewer hidden lists -/
theorem RV.fewer {ph' : Phi} (ha : ph'.ad = ph.ad) (hh : ∀ a ∈ ph'.hd, a ∈ ph.hd) : (∀ (x : PV) (v : V), RV K ph H x v → RV K ph' H x v) ∧ ∀ (xs : List PV) (vs : List V), RVs K ph H xs vs → RVs K ph' H xs vs :=
  RV.imp (fun n a h => by rw [ha]; exact h) fun a h => ⟨by rw [ha]; exact h.1, fun z => h.2 (hh a z)⟩
theorem RelS.fewer {S : Store} {ph' : Phi} (r : RelS K ct ph H S) (ha : ph'.ad = ph.ad) (hh : ∀ a ∈ ph'.hd, a ∈ ph.hd) : RelS K ct ph' H S := by
  refine ⟨by rw [ha]; exact r.len, by rw [ha]; exact r.nd, fun a h => by rw [ha]; exact r.hid a (hh a h), fun i o h => ?_⟩
  obtain ⟨a, h1, h2⟩ := r.obj i o h
  exact ⟨a, by rw [ha]; exact h1, h2.map (RV.fewer ha hh).2 (fun _ e => e) fun _ e => e⟩
theorem RelE.fewer {env : List (Option PV)} {ph' : Phi} (r : RelE K ph H env sg) (ha : ph'.ad = ph.ad) (hh : ∀ a ∈ ph'.hd, a ∈ ph.hd) : RelE K ph' H env sg :=
  ⟨r.len, fun i x h => let ⟨v, h1, h2⟩ := r.val i x h; ⟨v, h1, (RV.fewer ha hh).1 x v h2⟩⟩
theorem wipeP_len (env : List (Option PV)) : ∀ vs, (wipeP env vs).length = env.length
  | [] => rfl
  | v :: vs => by unfold wipeP; rw [List.length_set, wipeP_len env vs]
theorem RelE.wipe {env : List (Option PV)} (r : RelE K ph H env sg) : ∀ vs, RelE K ph H (wipeP env vs) (wipe sg vs)
  | [] => r
  | v :: vs => by
    have ih := RelE.wipe r vs
    refine ⟨by rw [wipeP_len, wipe_length]; exact r.len, fun i x h => ?_⟩
    unfold wipeP at h
    by_cases hi : v = i
    · subst hi
      by_cases hl : v < (wipeP env vs).length
      · rw [List.getElem?_set_self hl] at h; cases h
      · rw [List.getElem?_eq_none (by simpa using hl)] at h; cases h
    · rw [List.getElem?_set_ne hi] at h
      obtain ⟨u, h1, h2⟩ := ih.val i x h
      refine ⟨u, ?_, h2⟩
      show ((L2.wipe sg vs).set v none)[i]? = _
      rw [List.getElem?_set_ne hi]
      exact h1
theorem lcLoop_stay {turn : PV → PSt → (Option PV → PSt → Prop) → Prop} {stay : PSt → Prop} {Q : List PV → PSt → Prop} : ∀ {xs acc : List PV} {p : PSt}, lcLoop turn stay xs acc p Q → stay p
  | [], _, _, h => h.1
  | _ :: _, _, _, h => h.1

/-! ### comprehensions -/
abbrev W0 : WX := fun _ _ _ _ => False
abbrev wLc (m : Bool) (vs : List Nat) (tg : T) (wi : WI) (wc we : WA PV) : WA PV := fun p Q X => wi p (fun xs stay p1 =>
  lcLoop (fun x p2 R => wT tg x p2 fun p3 => wc p3 (fun k p4 => ∃ b, k = .bl b ∧ if b = true then we p4 (fun y p5 => R (some y) { p5 with env := wipeP p1.env vs }) noX else R none { p4 with env := wipeP p1.env vs }) noX)
    stay xs [] { p1 with env := wipeP p1.env vs } fun ys p6 => mkL m ys { p6 with env := p1.env } Q) X
theorem Ext.off {ph' : Phi} {H' : Hp} {a : Addr} {o : HO} (e : Ext ph H ph' H') (h : H a = none) : Ext ph H ph' (upd H' a o) :=
  ⟨e.more, e.hid, fun c u q n => by rw [upd_ne (ne_of_none q h)]; exact e.keep c u q n, fun c u q => by
    obtain ⟨o', h'⟩ := e.dom c u q
    exact ⟨o', by rw [upd_ne (ne_of_none q h)]; exact h'⟩⟩
theorem Ext.hidden {D : Addr} {o : HO} (h : H D = none) : Ext ph H (ph.hide D) (upd H D o) :=
  ⟨⟨[], by simp [Phi.hide], by simp⟩, ⟨[D], rfl, fun c hc => by rw [List.mem_singleton.mp hc]; exact h⟩, fun c u q _ => by rw [upd_ne (ne_of_none q h)]; exact q, fun c u q => ⟨u, by rw [upd_ne (ne_of_none q h)]; exact q⟩⟩
theorem Ext.hdm {ph' : Phi} {H' : Hp} {D : Addr} (e : Ext ph H ph' H') (h : D ∈ ph.hd) : D ∈ ph'.hd := by
  obtain ⟨m, z, _⟩ := e.hid
  rw [z]
  exact List.mem_append_right _ h
theorem Ext.fewer {ph' : Phi} {H' : Hp} (e : Ext ph H ph' H') : Ext ph H ⟨ph'.ad, ph.hd⟩ H' := ⟨e.more, ⟨[], rfl, by simp⟩, e.keep, e.dom⟩
theorem tLc_of {m : Bool} {vs : List Nat} {tg : T} {wi : WI} {wc we : WA PV} {Q : VK} (htg : ∀ i ∈ slotsT tg, i ∈ vs) (h : tE K ct W (wLc m vs tg wi wc we) sg H Q) :
    tLc (tI K ct W wi) (tT K ct tg) (tB K ct W0 wc) (tE K ct W0 we) vs sg H Q := by
  obtain ⟨ph, p, rel, Q0, X0, hw, hQ, hX⟩ := h
  refine ⟨ph, p, _, X0, rel, hw, fun xs stay p1 ph1 J H1 q ext rel1 wok D hD => ?_, hX⟩
  obtain ⟨G, Y, wk, good, item⟩ := wok.walk
  generalize hturn : (fun (x : PV) (p2 : PSt) (R : Option PV → PSt → Prop) => wT tg x p2 fun p3 => wc p3 (fun k p4 => ∃ b, k = PV.bl b ∧ if b = true then we p4 (fun y p5 => R (some y) { p5 with env := wipeP p1.env vs }) noX else R none { p4 with env := wipeP p1.env vs }) noX) = turn at q
  have base : Ext ph1 H1 (ph1.hide D) (upd H1 D (.lst [])) := Ext.hidden hD
  refine lc_it wk (fun i H2 => ∃ ph2 p2 acc accV, Ext ph1 H1 ph2 H2 ∧ D ∈ ph2.hd ∧ Rel K ct ph2 H2 (wipe sg vs) p2 ∧ p2.env = wipeP p1.env vs ∧ H2 D = some (.lst accV) ∧ RVs K ph2 H2 acc accV ∧
    lcLoop turn stay (xs.drop i) acc p2 fun ys p6 => mkL m ys { p6 with env := p1.env } Q0) ?_ ?_ ?_ ?_
  · have r := rel1.hide hD
    exact ⟨ph1.hide D, ⟨wipeP p1.env vs, p1.st⟩, [], [], base, List.mem_cons_self, ⟨r.e.wipe vs, r.s⟩, rfl, upd_same, RVs.nil, by rw [List.drop_zero]; exact q⟩
  · rintro i H2 hi ⟨ph2, p2, acc, accV, e2, mD, r2, he, hD2, ha, hl⟩
    exact good ph2 H2 p2 e2.toW r2.s (lcLoop_stay hl)
  · rintro i v H2 H3 hi ⟨ph2, p2, acc, accV, e2, mD, r2, he, hD2, ha, hl⟩ y
    have hdr : xs.drop i = xs[i] :: xs.drop (i + 1) := List.drop_eq_getElem_cons hi
    rw [hdr] at hl
    obtain ⟨hs, hl⟩ := hl
    obtain ⟨e3, r3, x, hx, rx⟩ := item i H2 v H3 ph2 p2 hi e2.toW r2.s hs y
    obtain rfl : xs[i] = x := by
      rw [List.getElem?_eq_getElem hi] at hx
      exact Option.some.inj hx
    have rel3 : Rel K ct ph2 H3 (wipe sg vs) p2 := ⟨r2.e.mono e3 r2.s.apart, r3⟩
    have nD : D ∉ ph2.ad := (r2.s.hid D mD).1
    have hD3 : H3 D = some (.lst accV) := e3.keep _ _ hD2 nD
    subst hturn
    refine ⟨ph2, p2, _, _, rel3, rx, hl, fun p3 sg3 hl rel4 wp => ⟨(wp vs htg).trans (wipe_idem vs sg), ?_⟩⟩
    refine ⟨ph2, p3, rel4, _, noX, hl, fun b p4 ph4 k H4 hl e4 rel5 hk => ?_, fun _ _ _ _ _ _ _ h => h.elim⟩
    subst hk
    -- back to the next turn's state
    have e24 : Ext ph1 H1 ph4 H4 := e2.trans (e3.trans e4)
    have nx : ∀ {ph5 : Phi} {H5 : Hp} {st : Store}, Ext ph4 H4 ph5 H5 → RelS K ct ph5 H5 st → Rel K ct ph5 H5 (wipe sg vs) ⟨wipeP p1.env vs, st⟩ := fun {ph5 H5 st} e5 r5 =>
      ⟨by rw [← he]; exact (r2.e.mono (e3.trans (e4.trans e5)) r2.s.apart), r5⟩
    have mD4 : D ∈ ph4.hd := e4.hdm mD
    have hD4 : H4 D = some (.lst accV) := e4.keep _ _ hD3 nD
    have ha4 : RVs K ph4 H4 acc accV := RVs.mono (e3.trans e4) r2.s.apart _ _ ha
    cases b with
    | false =>
      rw [if_neg Bool.false_ne_true] at hl ⊢
      exact ⟨ph4, _, acc, accV, e24, mD4, nx Ext.refl rel5.s, rfl, hD4, ha4, hl⟩
    | true =>
      rw [if_pos rfl] at hl ⊢
      refine ⟨ph4, p4, rel5, _, noX, hl, fun z p5 ph5 zv H5 hl e5 rel6 rz => ?_, fun _ _ _ _ _ _ _ h => h.elim⟩
      obtain ⟨hz, hl⟩ := hl
      have mD5 : D ∈ ph5.hd := e5.hdm mD4
      have hD5 : H5 D = some (.lst accV) := e5.keep _ _ hD4 (rel5.s.hid D mD4).1
      have ha5 := RVs.mono e5 rel5.s.apart _ _ ha4
      obtain ⟨nD5, hl5⟩ := rel6.s.hid D mD5
      exact ⟨accV, hD5, by rw [ha.length, sizeLine_eq]; exact hz, ph5, ⟨wipeP p1.env vs, p5.st⟩, acc ++ [z], accV ++ [zv], (e24.trans e5).off hD, mD5, (nx e5 rel6.s).wr mD5, rfl, upd_same, RVs.wr mD5 nD5 hl5 _ _ (ha5.append (RVs.one rz)), hl⟩
  · rintro H2 ⟨ph2, p2, acc, accV, e2, mD, r2, he, hD2, ha, hl⟩
    rw [List.drop_length] at hl
    obtain ⟨_, hz, hl⟩ := hl
    have nD : D ∉ ph2.ad := (r2.s.hid D mD).1
    have nD1 : D ∉ ph1.hd := (rel1.s.fresh hD).2
    have hsub : ∀ a ∈ (⟨ph2.ad, ph1.hd⟩ : Phi).hd, a ∈ ph2.hd := fun a z => e2.hdm z
    have rS : RelS K ct ⟨ph2.ad, ph1.hd⟩ H2 p2.st := r2.s.fewer rfl hsub
    have e2' := e2.fewer
    have rE : RelE K ⟨ph2.ad, ph1.hd⟩ H2 p1.env sg := rel1.e.mono e2' rel1.s.apart
    have ha' : RVs K ⟨ph2.ad, ph1.hd⟩ H2 acc accV := (RV.fewer (ph := ph2) (ph' := ⟨ph2.ad, ph1.hd⟩) rfl hsub).2 _ _ ha
    cases m with
    | false =>
      have hl : Q0 (.lst acc) { p2 with env := p1.env } := hl
      refine hQ _ _ _ _ _ hl (ext.trans e2') ⟨rE, rS⟩ ?_
      unfold RV
      exact ⟨D, accV, rfl, hD2, ⟨nD, nD1⟩, ha'⟩
    | true =>
      have hl : Q0 (.ref p2.st.length) { env := p1.env, st := p2.st ++ [.lst acc] } := hl
      have im := RV.imp (K := K) (H := H2) (ph := ph2) (ph' := (⟨ph2.ad, ph1.hd⟩ : Phi).push D) (fun n a z => by
        show (ph2.ad ++ [D])[n]? = _
        rw [List.getElem?_append_left (List.getElem?_eq_some_iff.mp z).1]; exact z) fun a z => ⟨fun w => (List.mem_append.mp w).elim z.1 fun w => z.2 (by rw [List.mem_singleton.mp w]; exact mD), fun w => z.2 (hsub a w)⟩
      have rP : RelS K ct ((⟨ph2.ad, ph1.hd⟩ : Phi).push D) H2 (p2.st ++ [.lst acc]) := rS.adopt ⟨nD, nD1⟩ hD2 (im.2 _ _ ha) fun j o b hj hb => by
        obtain ⟨b', h1, h2⟩ := r2.s.obj j o hj
        have hb : ph2.ad[j]? = some b := hb
        rw [hb] at h1; cases h1
        exact h2.map im.2 (fun _ z => z) fun _ z => z
      have eP : Ext ph1 H1 ((⟨ph2.ad, ph1.hd⟩ : Phi).push D) H2 := by
        obtain ⟨q, z1, z2⟩ := e2.more
        refine ⟨⟨q ++ [D], ?_, fun c hc => (List.mem_append.mp hc).elim (z2 c) fun w => by rw [List.mem_singleton.mp w]; exact hD⟩, ⟨[], rfl, by simp⟩, e2.keep, e2.dom⟩
        show ph2.ad ++ [D] = _
        rw [z1, List.append_assoc]
      refine hQ _ _ _ _ _ hl (ext.trans eP) ⟨rel1.e.mono eP rel1.s.apart, rP⟩ ?_
      unfold RV
      refine ⟨D, rfl, ?_⟩
      show (ph2.ad ++ [D])[p2.st.length]? = _
      rw [List.getElem?_append_right (by rw [r2.s.len]; exact Nat.le_refl _), r2.s.len]
      simp
/-- a comprehension, one clause -/
theorem se_lc (m : Bool) {own : List (Str × Nat)} {tg : T} {t i e : Expr} {ifs : List Expr} {scope : Scope} {pos : Pos} {wi : WI} {wc we : WA PV} (hc : X.calm = true) (hN : X.N.Nodup) (ok : BlkOk X.N X.env.scope scope own) (htg : ∀ i ∈ slotsT tg, i ∈ own.map (·.2))
    (hns : notSetB i = true) (hi : PI X t i (tI X.K ct W wi)) (hg : ∀ (s : Shared) (H : Hp) (C : Addr) (cl : List (Str × Addr)) (fp : List Addr), PG (X.blk s H scope (compEnvC scope cl C X.env) fp) t (tT X.K ct tg))
    (ht : ∀ (s : Shared) (H : Hp) (C : Addr) (cl : List (Str × Addr)) (fp : List Addr), PTs (X.blk s H scope (compEnvC scope cl C X.env) fp) ifs (tB X.K ct W0 wc))
    (he : ∀ (s : Shared) (H : Hp) (C : Addr) (cl : List (Str × Addr)) (fp : List Addr), PE (X.blk s H scope (compEnvC scope cl C X.env) fp) e (tE X.K ct W0 we)) :
    PE X (.ListComp e [⟨t, i, ifs, 0⟩] scope pos) (tE X.K ct W (wLc m (own.map (·.2)) tg wi wc we)) :=
  PE.weak (pe_lc hc hN hi ok hg ht he (by intro x; cases i <;> first | rfl | cases hns)) fun sg H Q h => tLc_of htg h
/-- name = a comprehension -/
theorem ss_lc (m : Bool) {own : List (Str × Nat)} {tg : T} {t i e : Expr} {ifs : List Expr} {scope : Scope} {pos spos py : Pos} {wi : WI} {wc we : WA PV} {j : Nat} {y : Str} (hc : X.calm = true) (hN : X.N.Nodup) (hy : X.N[j]? = some y) (hyl : X.env.scope.names.lookup y = some .local) (hk : X.env.scope.kind = .function)
    (hl : (py.line == pos.line) = true) (hsn : (scope.names.any fun (n, k) => n == y && (k == .local || k == .cell)) = false) (ok : BlkOk X.N X.env.scope scope own) (htg : ∀ i ∈ slotsT tg, i ∈ own.map (·.2))
    (hns : notSetB i = true) (hi : PI X t i (tI X.K ct W wi)) (hg : ∀ (s : Shared) (H : Hp) (C : Addr) (cl : List (Str × Addr)) (fp : List Addr), PG (X.blk s H scope (compEnvC scope cl C X.env) fp) t (tT X.K ct tg))
    (ht : ∀ (s : Shared) (H : Hp) (C : Addr) (cl : List (Str × Addr)) (fp : List Addr), PTs (X.blk s H scope (compEnvC scope cl C X.env) fp) ifs (tB X.K ct W0 wc))
    (he : ∀ (s : Shared) (H : Hp) (C : Addr) (cl : List (Str × Addr)) (fp : List Addr), PE (X.blk s H scope (compEnvC scope cl C X.env) fp) e (tE X.K ct W0 we)) :
    PS X (.Assign [.Name y py] (.ListComp e [⟨t, i, ifs, 0⟩] scope pos) spos) (tAsg (tE X.K ct W (wLc m (own.map (·.2)) tg wi wc we)) (gName j)) :=
  PS.weak (ps_setLc hc hN hy hyl (sw_true hk hyl hl hsn) hi ok hg ht he (by intro x; cases i <;> first | rfl | cases hns)) fun D sg H h => tLc_of htg h
end
end Den

/-! D3d2: comprehensions of two clauses. -/
namespace Den
open PySem PySem.Spec PyProof.Rows L2
theorem if_t {a b : Prop} (h : a) : if true = true then a else b := h
/-- a loop by a predicate of the turn; Step: what a turn must reach -/
theorem loop_it {J : It} {n : Nat} {G : Hp → Prop} {Y : Nat → Hp → V → Hp → Prop} (w : Walk J n G Y) {H1 : Hp} {Qd : Hp → Prop} {Step : (Hp → Prop) → V → Hp → Prop} (Pv : Nat → Hp → Prop) (h0 : Pv 0 H1) (hG : ∀ i H, i ≤ n → Pv i H → G H)
    (hs : ∀ i x H H', i < n → Pv i H → Y i H x H' → Step (Pv (i + 1)) x H') (hd : ∀ H, Pv n H → Qd H) :
    ∃ W : Nat → Nat → Hp → Prop, (∃ m, W 0 m H1) ∧ ∀ i m H, W i m H →
      (J.stop i H ∧ Qd H) ∨ (J.go i H ∧ ∃ Nx : Hp → Prop, (∀ H', Nx H' → ∃ m', m' < m ∧ W (i + 1) m' H') ∧ ∀ x H', J.yld i H x H' → Step Nx x H') := by
  refine ⟨fun i m H => m = n - i ∧ i ≤ n ∧ Pv i H, ⟨n, by simp, Nat.zero_le _, h0⟩, ?_⟩
  rintro i m H ⟨rfl, hi, p⟩
  have q := hG i H hi p
  by_cases hlt : i < n
  · refine .inr ⟨w.goes i H hlt q, Pv (i + 1), fun H' p' => ⟨n - (i + 1), by omega, rfl, hlt, p'⟩, fun x H' y => hs i x H H' hlt p (w.yields i H x H' hlt q y)⟩
  · have e : i = n := by omega
    subst e
    exact .inl ⟨w.stops H q, hd H p⟩
section
variable {K : PySem.W.Frag} {ct : CTab} {W : WX} {ph ph' : Phi} {H H' : Hp} {sg : L2.St} {p : PSt}
theorem lcOut_stay {turn : PV → List PV → PSt → (List PV → PSt → Prop) → Prop} {stay : PSt → Prop} {Q : List PV → PSt → Prop} : ∀ {xs acc : List PV} {p : PSt}, lcOut turn stay xs acc p Q → stay p
  | [], _, _, h => h.1
  | _ :: _, _, _, h => h.1
/-- a comprehension's list, at its end -/
theorem lc_fin {m : Bool} {ph1 ph2 : Phi} {H1 H2 : Hp} {D : Addr} {acc : List PV} {accV : List V} {vs : List Nat} {p1 p2 : PSt} {Q0 : QV} {Q : VK} (ext : Ext ph H ph1 H1) (rel1 : Rel K ct ph1 H1 sg p1) (hD : H1 D = none) (e2 : Ext ph1 H1 ph2 H2) (mD : D ∈ ph2.hd) (r2 : Rel K ct ph2 H2 (wipe sg vs) p2)
    (hD2 : H2 D = some (.lst accV)) (ha : RVs K ph2 H2 acc accV) (hl : mkL m acc { p2 with env := p1.env } Q0) (hQ : ∀ a p' ph' b H', Q0 a p' → Ext ph H ph' H' → Rel K ct ph' H' sg p' → RV K ph' H' a b → Q b H') : Q (.ref D) H2 := by
  obtain ⟨hz, hl⟩ := hl
  have nD : D ∉ ph2.ad := (r2.s.hid D mD).1
  have nD1 : D ∉ ph1.hd := (rel1.s.fresh hD).2
  have hsub : ∀ a ∈ (⟨ph2.ad, ph1.hd⟩ : Phi).hd, a ∈ ph2.hd := fun a z => e2.hdm z
  have rS : RelS K ct ⟨ph2.ad, ph1.hd⟩ H2 p2.st := r2.s.fewer rfl hsub
  have e2' := e2.fewer
  have rE : RelE K ⟨ph2.ad, ph1.hd⟩ H2 p1.env sg := rel1.e.mono e2' rel1.s.apart
  have ha' : RVs K ⟨ph2.ad, ph1.hd⟩ H2 acc accV := (RV.fewer (ph := ph2) (ph' := ⟨ph2.ad, ph1.hd⟩) rfl hsub).2 _ _ ha
  cases m with
  | false =>
    have hl : Q0 (.lst acc) { p2 with env := p1.env } := hl
    refine hQ _ _ _ _ _ hl (ext.trans e2') ⟨rE, rS⟩ ?_
    unfold RV
    exact ⟨D, accV, rfl, hD2, ⟨nD, nD1⟩, ha'⟩
  | true =>
    have hl : Q0 (.ref p2.st.length) { env := p1.env, st := p2.st ++ [.lst acc] } := hl
    have im := RV.imp (K := K) (H := H2) (ph := ph2) (ph' := (⟨ph2.ad, ph1.hd⟩ : Phi).push D) (fun n a z => by
      show (ph2.ad ++ [D])[n]? = _
      rw [List.getElem?_append_left (List.getElem?_eq_some_iff.mp z).1]; exact z) fun a z => ⟨fun w => (List.mem_append.mp w).elim z.1 fun w => z.2 (by rw [List.mem_singleton.mp w]; exact mD), fun w => z.2 (hsub a w)⟩
    have rP : RelS K ct ((⟨ph2.ad, ph1.hd⟩ : Phi).push D) H2 (p2.st ++ [.lst acc]) := rS.adopt ⟨nD, nD1⟩ hD2 (im.2 _ _ ha) fun j o b hj hb => by
      obtain ⟨b', h1, h2⟩ := r2.s.obj j o hj
      have hb : ph2.ad[j]? = some b := hb
      rw [hb] at h1; cases h1
      exact h2.map im.2 (fun _ z => z) fun _ z => z
    have eP : Ext ph1 H1 ((⟨ph2.ad, ph1.hd⟩ : Phi).push D) H2 := by
      obtain ⟨q, z1, z2⟩ := e2.more
      refine ⟨⟨q ++ [D], ?_, fun c hc => (List.mem_append.mp hc).elim (z2 c) fun w => by rw [List.mem_singleton.mp w]; exact hD⟩, ⟨[], rfl, by simp⟩, e2.keep, e2.dom⟩
      show ph2.ad ++ [D] = _
      rw [z1, List.append_assoc]
    refine hQ _ _ _ _ _ hl (ext.trans eP) ⟨rel1.e.mono eP rel1.s.apart, rP⟩ ?_
    unfold RV
    refine ⟨D, rfl, ?_⟩
    show (ph2.ad ++ [D])[p2.st.length]? = _
    rw [List.getElem?_append_right (by rw [r2.s.len]; exact Nat.le_refl _), r2.s.len]
    simp
abbrev wLc2 (m : Bool) (vs vs1 : List Nat) (tg tg1 : T) (wi wi1 : WI) (wc we : WA PV) : WA PV := fun p Q X => wi p (fun xs stay p1 =>
      lcOut (fun x acc p2 R => wT tg x p2 fun p3 => wi1 p3 (fun ys stay1 p4 =>
          lcLoop (fun y p5 R1 => wT tg1 y p5 fun p6 => wc p6 (fun k p7 => ∃ b, k = .bl b ∧ if b = true then we p7 (fun z p8 => R1 (some z) { p8 with env := wipeP p4.env vs1 }) noX else R1 none { p7 with env := wipeP p4.env vs1 }) noX)
            stay1 ys acc { p4 with env := wipeP p4.env vs1 } fun acc' p9 => R acc' { p9 with env := wipeP p1.env vs }) noX)
        stay xs [] { p1 with env := wipeP p1.env vs } fun ys p6 => mkL m ys { p6 with env := p1.env } Q) X
theorem tLc2_of {m : Bool} {vs vs1 : List Nat} {tg tg1 : T} {wi wi1 : WI} {wc we : WA PV} {Q : VK} (htg : ∀ i ∈ slotsT tg, i ∈ vs) (htg1 : ∀ i ∈ slotsT tg1, i ∈ vs1) (h : tE K ct W (wLc2 m vs vs1 tg tg1 wi wi1 wc we) sg H Q) :
    tLc2 (tI K ct W wi) (tT K ct tg) (fun _ H Q => Q true H) (tI K ct W0 wi1) (tT K ct tg1) (tB K ct W0 wc) (tE K ct W0 we) vs vs1 sg H Q := by
  obtain ⟨ph, p, rel, Q0, X0, hw, hQ, hX⟩ := h
  refine ⟨ph, p, _, X0, rel, hw, fun xs stay p1 ph1 J H1 q ext rel1 wok D hD => ?_, hX⟩
  obtain ⟨G, Y, wk, good, item⟩ := wok.walk
  generalize hturn : (fun (x : PV) (acc : List PV) (p2 : PSt) (R : List PV → PSt → Prop) => wT tg x p2 fun p3 => wi1 p3 (fun ys stay1 p4 =>
          lcLoop (fun y p5 R1 => wT tg1 y p5 fun p6 => wc p6 (fun k p7 => ∃ b, k = PV.bl b ∧ if b = true then we p7 (fun z p8 => R1 (some z) { p8 with env := wipeP p4.env vs1 }) noX else R1 none { p7 with env := wipeP p4.env vs1 }) noX)
            stay1 ys acc { p4 with env := wipeP p4.env vs1 } fun acc' p9 => R acc' { p9 with env := wipeP p1.env vs }) noX) = turn at q
  have key : ∀ x acc p2 (R : List PV → PSt → Prop), turn x acc p2 R → wT tg x p2 fun p3 => wi1 p3 (fun ys stay1 p4 =>
          lcLoop (fun y p5 R1 => wT tg1 y p5 fun p6 => wc p6 (fun k p7 => ∃ b, k = PV.bl b ∧ if b = true then we p7 (fun z p8 => R1 (some z) { p8 with env := wipeP p4.env vs1 }) noX else R1 none { p7 with env := wipeP p4.env vs1 }) noX)
            stay1 ys acc { p4 with env := wipeP p4.env vs1 } fun acc' p9 => R acc' { p9 with env := wipeP p1.env vs }) noX := fun x acc p2 R h => by rw [← hturn] at h; exact h
  have base : Ext ph1 H1 (ph1.hide D) (upd H1 D (.lst [])) := Ext.hidden hD
  refine loop_it wk (Step := fun Nx x H' => tT K ct tg x (wipe sg vs) H' fun σ2 H2 => wipe σ2 vs = wipe sg vs ∧ (fun (_ : L2.St) (H : Hp) (Q : Bool → Hp → Prop) => Q true H) σ2 H2 fun b H3 =>
    if b = true then tI K ct W0 wi1 σ2 H3 fun J1 H4 => ∃ W1 : Nat → Nat → Hp → Prop, (∃ m, W1 0 m H4) ∧ ∀ j k H, W1 j k H →
      (J1.stop j H ∧ Nx H) ∨ (J1.go j H ∧ ∃ Nx1 : Hp → Prop, (∀ H', Nx1 H' → ∃ k', k' < k ∧ W1 (j + 1) k' H') ∧ ∀ x H', J1.yld j H x H' → tT K ct tg1 x (wipe σ2 vs1) H' fun σ3 H5 => wipe σ3 vs1 = wipe σ2 vs1 ∧ tB K ct W0 wc σ3 H5 fun b H6 =>
        if b = true then tE K ct W0 we σ3 H6 fun y H7 => ∃ acc, H7 D = some (.lst acc) ∧ acc.length < sizeLine ∧ Nx1 (upd H7 D (.lst (acc ++ [y]))) else Nx1 H6)
    else Nx H3) (fun i H2 => ∃ ph2 p2 acc accV, Ext ph1 H1 ph2 H2 ∧ D ∈ ph2.hd ∧ Rel K ct ph2 H2 (wipe sg vs) p2 ∧ p2.env = wipeP p1.env vs ∧ H2 D = some (.lst accV) ∧ RVs K ph2 H2 acc accV ∧
    lcOut turn stay (xs.drop i) acc p2 fun ys p6 => mkL m ys { p6 with env := p1.env } Q0) ?_ ?_ ?_ ?_
  · have r := rel1.hide hD
    exact ⟨ph1.hide D, ⟨wipeP p1.env vs, p1.st⟩, [], [], base, List.mem_cons_self, ⟨r.e.wipe vs, r.s⟩, rfl, upd_same, RVs.nil, by rw [List.drop_zero]; exact q⟩
  · rintro i H2 hi ⟨ph2, p2, acc, accV, e2, mD, r2, he, hD2, ha, hl⟩
    exact good ph2 H2 p2 e2.toW r2.s (lcOut_stay hl)
  · rintro i v H2 H3 hi ⟨ph2, p2, acc, accV, e2, mD, r2, he, hD2, ha, hl⟩ y
    have hdr : xs.drop i = xs[i] :: xs.drop (i + 1) := List.drop_eq_getElem_cons hi
    rw [hdr] at hl
    obtain ⟨hs, hl⟩ := hl
    obtain ⟨e3, r3, x, hx, rx⟩ := item i H2 v H3 ph2 p2 hi e2.toW r2.s hs y
    obtain rfl : xs[i] = x := by
      rw [List.getElem?_eq_getElem hi] at hx
      exact Option.some.inj hx
    have rel3 : Rel K ct ph2 H3 (wipe sg vs) p2 := ⟨r2.e.mono e3 r2.s.apart, r3⟩
    have nD : D ∉ ph2.ad := (r2.s.hid D mD).1
    have hD3 : H3 D = some (.lst accV) := e3.keep _ _ hD2 nD
    have ha3 : RVs K ph2 H3 acc accV := RVs.mono e3 r2.s.apart _ _ ha
    replace hl := key _ _ _ _ hl
    refine ⟨ph2, p2, _, _, rel3, rx, hl, fun p3 sg3 hl rel4 wp => ⟨(wp vs htg).trans (wipe_idem vs sg), ?_⟩⟩
    refine if_t ?_
    refine ⟨ph2, p3, _, noX, rel4, hl, fun ys stay1 p4 ph4 J1 H4 q1 e4 rel5 wok1 => ?_, fun _ _ _ _ _ _ _ h => h.elim⟩
    obtain ⟨G1, Y1, wk1, good1, item1⟩ := wok1.walk
    have e24 : Ext ph1 H1 ph4 H4 := e2.trans (e3.trans e4)
    have mD4 : D ∈ ph4.hd := e4.hdm mD
    have hD4 : H4 D = some (.lst accV) := e4.keep _ _ hD3 nD
    have ha4 : RVs K ph4 H4 acc accV := RVs.mono e4 rel4.s.apart _ _ ha3
    generalize hturn1 : (fun (y : PV) (p5 : PSt) (R1 : Option PV → PSt → Prop) => wT tg1 y p5 fun p6 => wc p6 (fun k p7 => ∃ b, k = PV.bl b ∧ if b = true then we p7 (fun z p8 => R1 (some z) { p8 with env := wipeP p4.env vs1 }) noX else R1 none { p7 with env := wipeP p4.env vs1 }) noX) = turn1 at q1
    -- the outer slots, as they were
    have nx : ∀ {ph5 : Phi} {H5 : Hp} {st : Store}, ExtW ph4 H4 ph5 H5 → RelS K ct ph5 H5 st → Rel K ct ph5 H5 (wipe sg vs) ⟨wipeP p1.env vs, st⟩ := fun {ph5 H5 st} e5 r5 =>
      ⟨by rw [← he]; exact (r2.e.mono (e3.trans e4) r2.s.apart).monoW e5 rel5.s.apart rel5.s.hidL, r5⟩
    refine loop_it wk1 (Step := fun Nx1 x H' => tT K ct tg1 x (wipe sg3 vs1) H' fun σ3 H5 => wipe σ3 vs1 = wipe sg3 vs1 ∧ tB K ct W0 wc σ3 H5 fun b H6 =>
        if b = true then tE K ct W0 we σ3 H6 fun y H7 => ∃ acc, H7 D = some (.lst acc) ∧ acc.length < sizeLine ∧ Nx1 (upd H7 D (.lst (acc ++ [y]))) else Nx1 H6)
      (fun j H5 => ∃ ph5 p5 acc5 accV5, ExtW ph4 H4 ph5 H5 ∧ D ∈ ph5.hd ∧ Rel K ct ph5 H5 (wipe sg3 vs1) p5 ∧ p5.env = wipeP p4.env vs1 ∧ H5 D = some (.lst accV5) ∧ RVs K ph5 H5 acc5 accV5 ∧ Ext ph1 H1 ph5 H5 ∧
        lcLoop turn1 stay1 (ys.drop j) acc5 p5 fun acc' p9 => lcOut turn stay (xs.drop (i + 1)) acc' { p9 with env := wipeP p1.env vs } fun ys p6 => mkL m ys { p6 with env := p1.env } Q0) ?_ ?_ ?_ ?_
    · exact ⟨ph4, ⟨wipeP p4.env vs1, p4.st⟩, acc, accV, ExtW.refl, mD4, ⟨rel5.e.wipe vs1, rel5.s⟩, rfl, hD4, ha4, e24, by rw [List.drop_zero]; exact q1⟩
    · rintro j H5 hj ⟨ph5, p5, acc5, accV5, e5, mD5, r5, he5, hD5, ha5, e15, hl5⟩
      exact good1 ph5 H5 p5 e5 r5.s (lcLoop_stay hl5)
    · rintro j v1 H5 H6 hj ⟨ph5, p5, acc5, accV5, e5, mD5, r5, he5, hD5, ha5, e15, hl5⟩ y1
      have hdr1 : ys.drop j = ys[j] :: ys.drop (j + 1) := List.drop_eq_getElem_cons hj
      rw [hdr1] at hl5
      obtain ⟨hs1, hl5⟩ := hl5
      obtain ⟨e6, r6, x1, hx1, rx1⟩ := item1 j H5 v1 H6 ph5 p5 hj e5 r5.s hs1 y1
      obtain rfl : ys[j] = x1 := by
        rw [List.getElem?_eq_getElem hj] at hx1
        exact Option.some.inj hx1
      have rel6 : Rel K ct ph5 H6 (wipe sg3 vs1) p5 := ⟨r5.e.mono e6 r5.s.apart, r6⟩
      have nD5 : D ∉ ph5.ad := (r5.s.hid D mD5).1
      have hD6 : H6 D = some (.lst accV5) := e6.keep _ _ hD5 nD5
      subst hturn1
      refine ⟨ph5, p5, _, _, rel6, rx1, hl5, fun p6 sg6 hl6 rel7 wp1 => ⟨(wp1 vs1 htg1).trans (wipe_idem vs1 sg3), ?_⟩⟩
      refine ⟨ph5, p6, rel7, _, noX, hl6, fun b p7 ph7 k H7 hl7 e7 rel8 hk => ?_, fun _ _ _ _ _ _ _ h => h.elim⟩
      subst hk
      have e57 : ExtW ph4 H4 ph7 H7 := e5.trans (e6.trans e7).toW
      have e17 : Ext ph1 H1 ph7 H7 := e15.trans (e6.trans e7)
      have nx1 : ∀ {ph8 : Phi} {H8 : Hp} {st : Store}, Ext ph7 H7 ph8 H8 → RelS K ct ph8 H8 st → Rel K ct ph8 H8 (wipe sg3 vs1) ⟨wipeP p4.env vs1, st⟩ := fun {ph8 H8 st} e8 r8 =>
        ⟨by rw [← he5]; exact (r5.e.mono (e6.trans (e7.trans e8)) r5.s.apart), r8⟩
      have mD7 : D ∈ ph7.hd := e7.hdm mD5
      have hD7 : H7 D = some (.lst accV5) := e7.keep _ _ hD6 nD5
      have ha7 : RVs K ph7 H7 acc5 accV5 := RVs.mono (e6.trans e7) r5.s.apart _ _ ha5
      cases b with
      | false =>
        rw [if_neg Bool.false_ne_true] at hl7 ⊢
        exact ⟨ph7, _, acc5, accV5, e57, mD7, nx1 Ext.refl rel8.s, rfl, hD7, ha7, e17, hl7⟩
      | true =>
        rw [if_pos rfl] at hl7 ⊢
        refine ⟨ph7, p7, rel8, _, noX, hl7, fun z p8 ph8 zv H8 hl8 e8 rel9 rz => ?_, fun _ _ _ _ _ _ _ h => h.elim⟩
        obtain ⟨hz, hl8⟩ := hl8
        have mD8 : D ∈ ph8.hd := e8.hdm mD7
        have hD8 : H8 D = some (.lst accV5) := e8.keep _ _ hD7 (rel8.s.hid D mD7).1
        have ha8 := RVs.mono e8 rel8.s.apart _ _ ha7
        obtain ⟨nD8, hl9⟩ := rel9.s.hid D mD8
        have eo : ExtW ph4 H4 ph8 (upd H8 D (.lst (accV5 ++ [zv]))) := (e57.trans e8.toW).wr mD4
        exact ⟨accV5, hD8, by rw [ha7.length, sizeLine_eq]; exact hz, ph8, ⟨wipeP p4.env vs1, p8.st⟩, acc5 ++ [z], accV5 ++ [zv], eo, mD8, (nx1 e8 rel9.s).wr mD8, rfl, upd_same, RVs.wr mD8 nD8 hl9 _ _ (ha8.append (RVs.one rz)), (e17.trans e8).off hD, hl8⟩
    · rintro H5 ⟨ph5, p5, acc5, accV5, e5, mD5, r5, he5, hD5, ha5, e15, hl5⟩
      rw [List.drop_length] at hl5
      obtain ⟨_, hl5⟩ := hl5
      exact ⟨ph5, _, acc5, accV5, e15, mD5, nx e5 r5.s, rfl, hD5, ha5, hl5⟩
  · rintro H2 ⟨ph2, p2, acc, accV, e2, mD, r2, he, hD2, ha, hl⟩
    rw [List.drop_length] at hl
    exact lc_fin ext rel1 hD e2 mD r2 hD2 ha hl.2 hQ
end
section
variable {ct : CTab} {W : WX} {X : Cx}
theorem se_lc2 (m : Bool) {own : List (Str × Nat)} {vs1 : List Nat} {tg tg1 : T} {t i t1 i1 e : Expr} {ifs1 : List Expr} {scope : Scope} {pos : Pos} {wi wi1 : WI} {wc we : WA PV} (hc : X.calm = true) (hN : X.N.Nodup) (ok : BlkOk X.N X.env.scope scope own) (htg : ∀ i ∈ slotsT tg, i ∈ own.map (·.2)) (htg1 : ∀ i ∈ slotsT tg1, i ∈ vs1) (hv : ∀ i ∈ vs1, i ∈ own.map (·.2))
    (hns : notSetB i = true) (hns1 : notSetB i1 = true) (hi : PI X t i (tI X.K ct W wi)) (hg : ∀ (s : Shared) (H : Hp) (C : Addr) (cl : List (Str × Addr)) (fp : List Addr), PG (X.blk s H scope (compEnvC scope cl C X.env) fp) t (tT X.K ct tg))
    (hi1 : ∀ (s : Shared) (H : Hp) (C : Addr) (cl : List (Str × Addr)) (fp : List Addr), PI (X.blk s H scope (compEnvC scope cl C X.env) fp) t1 i1 (tI X.K ct W0 wi1))
    (hg1 : ∀ (s : Shared) (H : Hp) (C : Addr) (cl : List (Str × Addr)) (fp : List Addr), PG (X.blk s H scope (compEnvC scope cl C X.env) fp) t1 (tT X.K ct tg1))
    (ht : ∀ (s : Shared) (H : Hp) (C : Addr) (cl : List (Str × Addr)) (fp : List Addr), PTs (X.blk s H scope (compEnvC scope cl C X.env) fp) ifs1 (tB X.K ct W0 wc))
    (he : ∀ (s : Shared) (H : Hp) (C : Addr) (cl : List (Str × Addr)) (fp : List Addr), PE (X.blk s H scope (compEnvC scope cl C X.env) fp) e (tE X.K ct W0 we)) :
    PE X (.ListComp e [⟨t, i, [], 0⟩, ⟨t1, i1, ifs1, 0⟩] scope pos) (tE X.K ct W (wLc2 m (own.map (·.2)) vs1 tg tg1 wi wi1 wc we)) :=
  PE.weak (pe_lc2 hc hN hi ok hv hg (fun _ _ _ _ _ => pts_nil) hi1 hg1 ht he (by intro x; cases i <;> first | rfl | cases hns) (by intro _ x; cases i1 <;> first | rfl | cases hns1)) fun sg H Q h => tLc2_of htg htg1 h
end
end Den

/-! D3e: all expressions. -/
namespace Den
open PySem PySem.Spec PyProof.Rows L2
section
variable {g : GD} {ct : CTab} {F : FT} {k : Nat}
theorem XOk.blk {X : Cx} {c : CC} {W : WX} (x : XOk g ct F k X c W) (s : Shared) (H : Hp) (scope : Scope) (C : Addr) (cl : List (Str × Addr)) (fp : List Addr) : XOk g ct F k (X.blk s H scope (compEnvC scope cl C X.env) fp) (Den.blk c scope) W0 where
  N := x.N
  nd := x.nd
  sc := by
    show relS scope X.env.scope = relS scope c.sc
    rw [x.sc]
  fn := rfl
  calm := x.calm
  room := x.room
  tk := takes0
  po := PassesOwn.never
  gok := x.gok
  hw := x.hw
theorem cE_star {c : CC} {e : E} {a : Expr} (h : cE g c e a = true) : notStar a = true := by
  cases a <;> first | rfl | (cases e <;> simp [cE, nvB] at h)
theorem cL_star {c : CC} : ∀ {e : E} {as : List Expr}, cL g c e as = true → as.all notStar = true
  | .nil, [], _ => rfl
  | .cons e es, a :: as, h => by
    simp only [cL, Bool.and_eq_true] at h
    rw [List.all_cons, Bool.and_eq_true]
    exact ⟨cE_star h.1, cL_star h.2⟩
  | .nil, _ :: _, h => by simp [cL] at h
  | .cons _ _, [], h => by simp [cL] at h
  | .var _, _, h => by simp [cL] at h
  | .int _, _, h => by simp [cL] at h
  | .bl _, _, h => by simp [cL] at h
  | .non, _, h => by simp [cL] at h
  | .str _, _, h => by simp [cL] at h
  | .gint _ _, _, h => by simp [cL] at h
  | .gstr _ _, _, h => by simp [cL] at h
  | .gty _ _, _, h => by simp [cL] at h
  | .dct0, _, h => by simp [cL] at h
  | .never, _, h => by simp [cL] at h
  | .trg1 _ _ _, _, h => by simp [cL] at h
  | .trg2 _ _ _ _, _, h => by simp [cL] at h
  | .dnew, _, h => by simp [cL] at h
  | .ixd _ _, _, h => by simp [cL] at h
  | .ind _ _ _, _, h => by simp [cL] at h
  | .dget _ _ _, _, h => by simp [cL] at h
  | .dset _ _ _, _, h => by simp [cL] at h
  | .seqd _, _, h => by simp [cL] at h
  | .attr _ _ _, _, h => by simp [cL] at h
  | .mcall _ _ _ _ _, _, h => by simp [cL] at h
  | .new _ _ _, _, h => by simp [cL] at h
  | .isc _ _, _, h => by simp [cL] at h
  | .dct1 _ _, _, h => by simp [cL] at h
  | .bin _ _ _ _, _, h => by simp [cL] at h
  | .neg _, _, h => by simp [cL] at h
  | .cmp _ _ _, _, h => by simp [cL] at h
  | .chain _ _ _ _ _, _, h => by simp [cL] at h
  | .and _ _, _, h => by simp [cL] at h
  | .or _ _, _, h => by simp [cL] at h
  | .not _, _, h => by simp [cL] at h
  | .ite _ _ _, _, h => by simp [cL] at h
  | .tup _, _, h => by simp [cL] at h
  | .lst _ _, _, h => by simp [cL] at h
  | .ix _ _, _, h => by simp [cL] at h
  | .slc _ _ _ _, _, h => by simp [cL] at h
  | .call _ _, _, h => by simp [cL] at h
  | .blt _ _ _, _, h => by simp [cL] at h
  | .isi _ _ _, _, h => by simp [cL] at h
  | .meth _ _ _, _, h => by simp [cL] at h
  | .lc _ _ _ _ _ _, _, h => by simp [cL] at h
  | .lc2 _ _ _ _ _ _ _ _ _, _, h => by simp [cL] at h
  | .seq _, _, h => by simp [cL] at h
  | .rng1 _, _, h => by simp [cL] at h
  | .rng2 _ _, _, h => by simp [cL] at h
  | .enum _, _, h => by simp [cL] at h
  | .zip _ _, _, h => by simp [cL] at h
/-- what the text of an IR term is worth -/
abbrev GE (g : GD) (ct : CTab) (F : FT) (k : Nat) (e : E) : Prop := ∀ (X : Cx) (c : CC) (W : WX) (a : Expr), XOk g ct F k X c W → cE g c e a = true → PE X a (tE X.K ct W (wE F e)) ∧ PT X a (tB X.K ct W (wE F e))
abbrev GAnd (g : GD) (ct : CTab) (F : FT) (k : Nat) (e : E) : Prop := ∀ (X : Cx) (c : CC) (W : WX) (as : List Expr) (pos : Pos), XOk g ct F k X c W → cAnd g c e as = true → PE X (.BoolOp .And as pos) (tE X.K ct W (wE F e)) ∧ PW X (.BoolOp .And as pos) (tB X.K ct W (wE F e))
abbrev GOr (g : GD) (ct : CTab) (F : FT) (k : Nat) (e : E) : Prop := ∀ (X : Cx) (c : CC) (W : WX) (as : List Expr) (pos : Pos), XOk g ct F k X c W → cOr g c e as = true → PE X (.BoolOp .Or as pos) (tE X.K ct W (wE F e)) ∧ PW X (.BoolOp .Or as pos) (tB X.K ct W (wE F e))
abbrev GL' (g : GD) (ct : CTab) (F : FT) (k : Nat) (e : E) : Prop := ∀ (X : Cx) (c : CC) (W : WX) (as : List Expr), XOk g ct F k X c W → cL g c e as = true → PA X as (tA X.K ct W (wL F e))
abbrev GI (g : GD) (ct : CTab) (F : FT) (k : Nat) (e : E) : Prop := ∀ (X : Cx) (c : CC) (W : WX) (b : Bool) (tg a : Expr), XOk g ct F k X c W → cI g c e b a = true → (b = true → ∃ el kk pos, tg = .Tuple el kk pos) → PI X tg a (tI X.K ct W (wI F e))
/-- a part of a slice, by the expression's own fact -/
theorem gP {e : E} (h : GE g ct F k e) {X : Cx} {c : CC} {W : WX} (x : XOk g ct F k X c W) {o : Option Expr} (hc : cP g c e o = true) : L2.PO X o (tP X.K ct W (partW (isNonE e) (wE F e))) := by
  cases o with
  | none =>
    cases e <;> first | (simp [cP] at hc; done) | skip
    exact so_none
  | some a =>
    have hn : isNonE e = false := by cases e <;> first | rfl | (simp [cP] at hc)
    have hc' : cE g c e a = true := by cases e <;> first | (simp [cP] at hc; done) | simpa [cP] using hc
    rw [hn]
    exact so_some (h X c W a x hc').1
theorem gC {e : E} (h : GE g ct F k e) {X : Cx} {c : CC} {W : WX} (x : XOk g ct F k X c W) {ifs : List Expr} (hc : cC g c e ifs = true) : PTs X ifs (tB X.K ct W (wE F e)) := by
  cases ifs with
  | nil =>
    cases e with
    | bl b =>
      cases b with
      | false => simp [cC] at hc
      | true =>
        refine ⟨fun pins s sg H Q I h => pts_nil.run pins s sg H Q I ?_⟩
        obtain ⟨ph, p, rel, Q0, X0, ⟨k, e, h⟩, hQ, _⟩ := h
        cases e
        exact hQ _ _ _ _ _ h Ext.refl rel rfl
    | _ => simp [cC] at hc
  | cons a as =>
    cases as with
    | nil =>
      have hc' : cE g c e a = true := by cases e <;> simpa [cC] using hc
      exact pts_one (h X c W a x hc').2
    | cons _ _ => cases e <;> simp [cC] at hc
theorem gp_of {e : E} {X : Cx} {W : WX} {a : Expr} (h : PE X a (tE X.K ct W (wE F e))) (he : ∀ whole, isTrue a X.env whole = (do let v ← whole; standAt a.pos; holding [v] (truthy v))) : PE X a (tE X.K ct W (wE F e)) ∧ PT X a (tB X.K ct W (wE F e)) := ⟨h, pt_of h he⟩
end
end Den

/-! D3i: objects of own classes: attributes, methods, new ones. -/
namespace Den
open PySem PySem.Spec PyProof.Rows L2
theorem meth_eq {env : Env} {o : Expr} {nm : Str} {ap cp : Pos} {args : List Expr} (hb : attributeBase o nm env (eval o env) = eval o env) (hl : (ap.endLine == cp.line) = true)
    (hf : methodCallForm (args.length + 0) (backTo cp (starEach args env)) (backToKw cp (keywordEach [] env)) = true) : eval (.Call (.Attribute o nm ap) args [] cp) env = (do
      let v ← eval o env
      standAt ap.atName
      let (g, more) ← holding [v] (getMethod v nm (do return (← importBound o env).getD true))
      callWith cp g more (backTo cp (starEach args env)) (backToKw cp (keywordEach [] env))) := by
  rw [arm_eval_Call, hb]
  have hp : methodCallPos true o env ap cp = pure cp := by unfold methodCallPos; simp [hl]
  unfold methodCall calleeOf
  rw [show args.length + ([] : List Keyword).length = args.length + 0 from rfl, hf]
  simp only [if_true, hp]
  rfl
section
variable {K : PySem.W.Frag} {ct : CTab} {ph ph' : Phi} {H H' : Hp} {S : Store} {sg : L2.St} {p : PSt}
theorem insOf_at (rel : Rel K ct ph H sg p) {n : Nat} {c : Str} {fs : List (Str × PV)} {v : V} (rx : RV K ph H (.ref n) v) (h : p.st[n]? = some (.ins c fs)) :
    ∃ a C dx hs, v = .ref a ∧ ph.ad[n]? = some a ∧ ct c = some C ∧ H a = some (.ins C dx hs) ∧ H dx = some (.own a) ∧ hs.map (·.1) = fs.map (·.1) ∧ RVs K ph H (fs.map (·.2)) (hs.map (·.2)) := by
  obtain ⟨a, h1, C, dx, hs, h2, h3, h4, h5, h6⟩ := rel.s.obj n _ h
  unfold RV at rx
  obtain ⟨a', e, h7⟩ := rx
  rw [h1] at h7; cases h7
  exact ⟨a, C, dx, hs, e, h1, h2, h3, h4, h5, h6⟩
theorem lookup_at {f : Str} : ∀ {fs : List (Str × PV)} {hs : List (Str × V)}, hs.map (·.1) = fs.map (·.1) → RVs K ph H (fs.map (·.2)) (hs.map (·.2)) →
    (∀ x, fs.lookup f = some x → ∃ v, hs.lookup f = some v ∧ RV K ph H x v) ∧ (fs.lookup f = none → hs.lookup f = none)
  | [], [], _, _ => ⟨fun _ h => (by cases h), fun _ => rfl⟩
  | [], _ :: _, h, _ => by cases h
  | _ :: _, [], h, _ => by cases h
  | (g, x) :: fs, (g', v) :: hs, h, r => by
    simp only [List.map_cons, List.cons.injEq] at h
    obtain ⟨rfl, h⟩ := h
    obtain ⟨u, us, e, r1, r2⟩ := RVs.cons_inv r
    simp only [List.map_cons, List.cons.injEq] at e
    obtain ⟨rfl, rfl⟩ := e
    have ih := lookup_at (f := f) h r2
    simp only [List.lookup_cons]
    cases f == g' with
    | true => exact ⟨fun y e => (by cases e; exact ⟨_, rfl, r1⟩), fun e => (by cases e)⟩
    | false => exact ih
theorem put_at {f : Str} {x : PV} {v : V} (rx : RV K ph H x v) : ∀ {fs : List (Str × PV)} {hs : List (Str × V)}, hs.map (·.1) = fs.map (·.1) → RVs K ph H (fs.map (·.2)) (hs.map (·.2)) →
    (putF f v hs).map (·.1) = (putP f x fs).map (·.1) ∧ RVs K ph H ((putP f x fs).map (·.2)) ((putF f v hs).map (·.2))
  | [], [], _, _ => ⟨rfl, RVs.one rx⟩
  | [], _ :: _, h, _ => by cases h
  | _ :: _, [], h, _ => by cases h
  | (g, y) :: fs, (g', u) :: hs, h, r => by
    simp only [List.map_cons, List.cons.injEq] at h
    obtain ⟨rfl, h⟩ := h
    obtain ⟨w, us, e, r1, r2⟩ := RVs.cons_inv r
    simp only [List.map_cons, List.cons.injEq] at e
    obtain ⟨rfl, rfl⟩ := e
    unfold putF putP
    by_cases hg : g' = f
    · rw [if_pos hg, if_pos hg]
      exact ⟨by simp [h], RVs.cons rx r2⟩
    · rw [if_neg hg, if_neg hg]
      obtain ⟨i1, i2⟩ := put_at rx h r2
      exact ⟨by simp [i1], RVs.cons r1 i2⟩
/-- an object more in the store, which stands at a already -/
theorem RelS.adoptO (r : RelS K ct ph H S) {a : Addr} {o : SO} (hn : ph.off a) (hv : RO K ct (ph.push a) H o a) (hr : ∀ (i : Nat) (q : SO) (b : Addr), S[i]? = some q → ph.ad[i]? = some b → RO K ct (ph.push a) H q b) : RelS K ct (ph.push a) H (S ++ [o]) := by
  refine ⟨by simp [Phi.push, r.len], List.nodup_append.mpr ⟨r.nd, by simp, fun x hx y hy z => ?_⟩, fun b hb => ?_, fun i q hi => ?_⟩
  · rw [List.mem_singleton.mp hy] at z
    exact hn.1 (z ▸ hx)
  · obtain ⟨h1, h2⟩ := r.hid b hb
    refine ⟨fun hm => ?_, h2⟩
    rcases List.mem_append.mp hm with z | z
    · exact h1 z
    · exact hn.2 (List.mem_singleton.mp z ▸ hb)
  · rcases Nat.lt_or_ge i S.length with hl | hl
    · rw [List.getElem?_append_left hl] at hi
      obtain ⟨b, h1, h2⟩ := r.obj i q hi
      refine ⟨b, ?_, hr i q b hi h1⟩
      show (ph.ad ++ [a])[i]? = _
      rw [List.getElem?_append_left (by rw [r.len]; exact hl)]
      exact h1
    · rw [List.getElem?_append_right hl] at hi
      have hz : i - S.length = 0 := by
        have := (List.getElem?_eq_some_iff.mp hi).1
        simp at this
        exact this
      rw [hz] at hi
      cases hi
      refine ⟨a, ?_, hv⟩
      show (ph.ad ++ [a])[i]? = _
      rw [List.getElem?_append_right (by rw [r.len]; exact hl), r.len, hz]
      rfl
/-- a new object of an own class -/
theorem RelS.newI (r : RelS K ct ph H S) {x dx C : Addr} {c : Str} (hc : ct c = some C) (hx : H x = none) (hdx : H dx = none) (ne : dx ≠ x) :
    RelS K ct (ph.push x) (upd (upd H dx (.own x)) x (.ins C dx [])) (S ++ [.ins c []]) ∧ Ext ph H (ph.push x) (upd (upd H dx (.own x)) x (.ins C dx [])) := by
  have hx' : upd H dx (.own x) x = none := by rw [upd_ne ne.symm]; exact hx
  have e1 : Ext ph H ph (upd H dx (.own x)) := Ext.lay hdx
  have e2 : Ext ph (upd H dx (.own x)) (ph.push x) (upd (upd H dx (.own x)) x (.ins C dx [])) := Ext.new hx'
  have r1 : RelS K ct ph (upd H dx (.own x)) S := r.lay hdx
  refine ⟨(r1.lay (o := .ins C dx []) hx').adoptO (r1.fresh hx') ⟨C, dx, [], hc, upd_same, by rw [upd_ne ne, upd_same], rfl, RVs.nil⟩ fun i q b hi hb => ?_, e1.trans e2⟩
  obtain ⟨b', h1, h2⟩ := r1.obj i q hi
  rw [hb] at h1; cases h1
  refine h2.mono e2 r1.apart (fun u e => ?_) fun dy e => ?_
  · rw [upd_ne (ne_of_none e hx')]; exact e
  · rw [upd_ne (ne_of_none e hx')]; exact e
/-- an object of an own class is written -/
theorem RelS.setI (r : RelS K ct ph H S) {n : Nat} {a C dx : Addr} {c : Str} {fs fs0 : List (Str × PV)} {hs hs0 : List (Str × V)} (hn : n < S.length) (ha : ph.ad[n]? = some a) (hc : ct c = some C) (h0 : H a = some (.ins C dx hs0)) (hd : H dx = some (.own a)) (hk : hs.map (·.1) = fs.map (·.1)) (hv : RVs K ph H (fs.map (·.2)) (hs.map (·.2))) :
    RelS K ct ph (upd H a (.ins C dx hs)) (S.set n (.ins c fs)) := by
  have hm : a ∈ ph.ad := List.mem_iff_getElem?.mpr ⟨n, ha⟩
  have ex : Ext ph H ph (upd H a (.ins C dx hs)) := Ext.write hm
  refine ⟨by simp [r.len], r.nd, fun b hb => ?_, fun i o hi => ?_⟩
  · obtain ⟨h1, us, h2⟩ := r.hid b hb
    exact ⟨h1, us, ex.keep _ _ h2 h1⟩
  by_cases hin : i = n
  · subst hin
    rw [List.getElem?_set_self hn] at hi
    cases hi
    refine ⟨a, ha, C, dx, hs, hc, upd_same, ?_, hk, RVs.mono ex r.apart _ _ hv⟩
    rw [upd_ne (fun z => by rw [z, h0] at hd; cases hd)]; exact hd
  · rw [List.getElem?_set_ne (fun z => hin z.symm)] at hi
    obtain ⟨b, h1, h2⟩ := r.obj i o hi
    have hb : b ≠ a := fun z => by
      subst z
      obtain ⟨l1, e1⟩ := List.getElem?_eq_some_iff.mp h1
      obtain ⟨l2, e2⟩ := List.getElem?_eq_some_iff.mp ha
      exact hin ((List.getElem_inj r.nd).mp (e1.trans e2.symm))
    refine ⟨b, h1, h2.mono ex r.apart (fun u e => by rw [upd_ne hb]; exact e) fun dy q => ?_⟩
    rw [upd_ne (fun z => by rw [z, h0] at q; cases q)]; exact q
end
theorem pairIn_mem {l : List (Str × Str)} {a b : Str} (h : pairIn l a b = true) : (a, b) ∈ l := by
  obtain ⟨⟨x, y⟩, hm, h⟩ := List.any_eq_true.mp h
  simp only [isNm, Bool.and_eq_true, decide_eq_true_eq] at h
  obtain ⟨rfl, rfl⟩ := h
  exact hm
theorem clsIn_mem {l : List (Str × Nat × Nat)} {a : Str} {i n : Nat} (h : clsIn l a i n = true) : (a, i, n) ∈ l := by
  obtain ⟨⟨x, y, z⟩, hm, h⟩ := List.any_eq_true.mp h
  simp only [isNm, Bool.and_eq_true, decide_eq_true_eq] at h
  obtain ⟨⟨rfl, rfl⟩, rfl⟩ := h
  exact hm
theorem clsNm_mem {l : List (Str × Nat × Nat)} {a : Str} (h : clsNm l a = true) : ∃ i n, (a, i, n) ∈ l := by
  obtain ⟨⟨x, y, z⟩, hm, h⟩ := List.any_eq_true.mp h
  simp only [isNm, decide_eq_true_eq] at h
  subst h
  exact ⟨y, z, hm⟩
theorem mthIn_mem {l : List (Str × Str × Nat × Nat)} {a b : Str} {i n : Nat} (h : mthIn l a b i n = true) : (a, b, i, n) ∈ l := by
  obtain ⟨⟨x, y, z, w⟩, hm, h⟩ := List.any_eq_true.mp h
  simp only [isNm, Bool.and_eq_true, decide_eq_true_eq] at h
  obtain ⟨⟨⟨rfl, rfl⟩, rfl⟩, rfl⟩ := h
  exact hm
section
variable {g : GD} {ct : CTab} {F : FT} {k : Nat} {X : Cx} {c : CC} {W : WX} {wa wb : WA PV} {wl : WA (List PV)} {a e : Expr} {es : List Expr} {pos p1 p2 : Pos}
theorem se_never : PE X a (tE X.K ct W fun _ _ _ => False) := ⟨fun _ _ _ _ _ _ ⟨_, _, _, _, _, h, _⟩ => h.elim⟩
theorem st_never : PT X a (tB X.K ct W fun _ _ _ => False) := ⟨fun _ _ _ _ _ _ ⟨_, _, _, _, _, h, _⟩ => h.elim⟩
theorem se_attr (x : XOk g ct F k X c W) {f : Str} {cs : List Str} (h2 : plainBaseB a = true) (h3 : ∀ q ∈ cs, pairIn g.attrs q f = true) (ha : PE X a (tE X.K ct W wa)) :
    PE X (.Attribute a f pos) (tE X.K ct W fun p Q E => wa p (fun x p1 => ∃ n q fs v, x = .ref n ∧ p1.st[n]? = some (.ins q fs) ∧ q ∈ cs ∧ fs.lookup f = some v ∧ Q v p1) E) := by
  refine PE.weak (pe_fld ha (plainBase_of h2 _)) fun sg H Q ⟨ph, p, rel, h⟩ => ?_
  refine ⟨ph, p, rel, (Frm.bind (R1 := RV X.K) (w2 := fun x p1 (Q : QV) _ => ∃ n q fs v, x = .ref n ∧ p1.st[n]? = some (.ins q fs) ∧ q ∈ cs ∧ fs.lookup f = some v ∧ Q v p1) h).mono fun v H1 ⟨y, ph1, p1, rel1, e1, rx, h1⟩ => ?_⟩
  obtain ⟨Q0, ⟨n, q, fs, z, rfl, hn, hc, hl, hq⟩, hQ⟩ := h1.done
  obtain ⟨b, C, dx, hs, rfl, hb, hct, hH, hd, hk, hv⟩ := insOf_at rel1 rx hn
  obtain ⟨u, hu, ru⟩ := (lookup_at (f := f) hk hv).1 z hl
  exact ⟨b, C, dx, hs, u, rfl, hH, x.gok.kin _ _ hct, x.gok.att _ _ (pairIn_mem (h3 q hc)) C hct, hu, out rel1 hq hQ ru⟩
abbrev wMc (F : FT) (wa : WA PV) (wl : WA (List PV)) (m q : Str) (i : Nat) : WA PV := fun p Q E => wa p (fun x p1 => ∃ n fs, x = .ref n ∧ p1.st[n]? = some (.ins q fs) ∧ fs.lookup m = none ∧
      wl p1 (fun xs p2 => F i (x :: xs) p2.st (fun v st => Q v { p2 with st := st }) (fun _ _ => False)) E) E
theorem noPass (x : XOk g ct F k X c W) : Passes (L2.CX X.prog X.w) X (fun _ _ _ => False) := passes_call x.tk fun _ _ _ _ h => h.elim
/-- what is asked of a method's arguments -/
theorem mc_args {i n m' : Nat} {q : Str} {fs : List (Str × PV)} {Q0 : QV} {Q : VK} {sg : L2.St} {ph : Phi} {H : Hp} {p : PSt} {b : Addr} (rel : Rel X.K ct ph H sg p) (hn : p.st[m']? = some (.ins q fs)) (hb : ph.ad[m']? = some b)
    (har : ∀ xs S Q0 X0, F i xs S Q0 X0 → xs.length = n + 1) (hQ : ∀ a p' ph' b H', Q0 a p' → Ext ph H ph' H' → Rel X.K ct ph' H' sg p' → RV X.K ph' H' a b → Q b H')
    {xs : List PV} {p' : PSt} {ph' : Phi} {vs : List V} {H' : Hp} (hF : F i (.ref m' :: xs) p'.st (fun v st => Q0 v { p' with st := st }) (fun _ _ => False)) (ex : Ext ph H ph' H') (rel' : Rel X.K ct ph' H' sg p') (rv : RVs X.K ph' H' xs vs) :
    spF X.K ct F (n + 1) i (V.ref b :: (vs ++ [])) H' Q (fun _ _ _ => False) := by
  rw [List.append_nil]
  have hr : RVs X.K ph' H' (.ref m' :: xs) (V.ref b :: vs) := RVs.cons (by unfold RV; exact ⟨b, rfl, ex.mem hb⟩) rv
  refine ⟨by rw [hr.length]; exact har _ _ _ _ hF, ph', p'.st, _, _, _, rel'.s, hr, hF, fun v S' ph2 u H2 hq e2 r2 ru => ?_, fun _ _ _ _ _ _ z => z.elim⟩
  exact hQ _ _ _ _ _ hq (ex.trans e2) ⟨rel'.e.mono e2 rel'.s.apart, r2⟩ ru
theorem mc_main {m q : Str} {i n : Nat} {C : Addr} {sg : L2.St} {H : Hp} {Q : VK} (hC : ct q = some C) (har : ∀ xs S Q0 X0, F i xs S Q0 X0 → xs.length = n + 1) (h : tE X.K ct W (wMc F wa wl m q i) sg H Q) :
    tE X.K ct W wa sg H fun v H1 => ∃ b dx fs, v = V.ref b ∧ H1 b = some (.ins C dx fs) ∧ fs.lookup m = none ∧ tA X.K ct W wl sg H1 fun vs H2 => spF X.K ct F (n + 1) i (v :: (vs ++ [])) H2 Q (fun _ _ _ => False) := by
  obtain ⟨ph, p, rel, h⟩ := h
  refine ⟨ph, p, rel, (Frm.bind (R1 := RV X.K) (w2 := fun x p1 (Q : QV) E => ∃ n fs, x = .ref n ∧ p1.st[n]? = some (.ins q fs) ∧ fs.lookup m = none ∧
    wl p1 (fun xs p2 => F i (x :: xs) p2.st (fun v st => Q v { p2 with st := st }) (fun _ _ => False)) E) h).mono fun v H1 ⟨y, ph1, p1, rel1, e1, rx, h1⟩ => ?_⟩
  obtain ⟨Q0, X0, ⟨n, fs, rfl, hn, hno, hw⟩, hQ, hX⟩ := h1
  obtain ⟨b, C', dx, hs, rfl, hb, hct, hH, hd, hk, hv⟩ := insOf_at rel1 rx hn
  rw [hC] at hct; cases hct
  refine ⟨b, dx, hs, rfl, hH, (lookup_at (f := m) hk hv).2 hno, ph1, p1, rel1, _, X0, hw, fun xs p' ph' vs H' hF' ex rel' rv => ?_, hX⟩
  exact mc_args rel1 hn hb har hQ hF' ex rel' rv
theorem mc_form {cp : Pos} (hst : es.all notStar = true) (h4 : es.length < 20) : methodCallForm (es.length + 0) (backTo cp (starEach es X.env)) (backToKw cp (keywordEach [] X.env)) = true := by
  unfold methodCallForm
  rw [stars_few hst]
  show (true && true && decide (es.length + 0 + 0 < 30)) = true
  simp only [Bool.true_and, decide_eq_true_eq]
  omega
theorem se_mcall (x : XOk g ct F k X c W) {m q : Str} {i : Nat} {ap cp : Pos} (h2 : plainBaseB a = true) (h3 : (ap.endLine == cp.line) = true) (h4 : (e :: es).length < 20) (hm : mthIn g.mths q m i (e :: es).length = true) (hst : (e :: es).all notStar = true)
    (ha : PE X a (tE X.K ct W wa)) (hl : PA X (e :: es) (tA X.K ct W wl)) : PE X (.Call (.Attribute a m ap) (e :: es) [] cp) (tE X.K ct W (wMc F wa wl m q i)) := by
  obtain ⟨C, f, fd, ps, hC, hM, hB, hps, hF, har⟩ := x.gok.mth _ _ _ _ (mthIn_mem hm)
  have hst' := hst
  rw [List.all_cons, Bool.and_eq_true] at hst'
  exact PE.weak (pe_meth ha (x.gok.kin _ _ hC) hM hF (x.room.mono (Nat.le_succ _)) hB .nil (noPass x) hl (star_of hst'.1 es) (stars_of hst'.2) (meth_eq (plainBase_of h2 _) h3 (mc_form hst h4))) fun sg H Q h => mc_main hC har h
theorem se_mcall0 (x : XOk g ct F k X c W) {m q : Str} {i : Nat} {ap cp : Pos} (h2 : plainBaseB a = true) (h3 : (ap.endLine == cp.line) = true) (hm : mthIn g.mths q m i 0 = true)
    (ha : PE X a (tE X.K ct W wa)) : PE X (.Call (.Attribute a m ap) [] [] cp) (tE X.K ct W (wMc F wa (fun p Q _ => Q [] p) m q i)) := by
  obtain ⟨C, f, fd, ps, hC, hM, hB, hps, hF, har⟩ := x.gok.mth _ _ _ _ (mthIn_mem hm)
  refine PE.weak (pe_meth0 ha (x.gok.kin _ _ hC) hM hF (x.room.mono (Nat.le_succ _)) hB .nil (noPass x) (meth_eq (plainBase_of h2 _) h3 (mc_form rfl (by decide)))) fun sg H Q h => ?_
  obtain ⟨ph, p, rel, h⟩ := mc_main hC har h
  refine ⟨ph, p, rel, h.mono fun v H1 ⟨b, dx, fs, e1, e2, e3, ph1, p1, rel1, Q1, X1, hw, hQ, _⟩ => ⟨b, dx, fs, e1, e2, e3, ?_⟩⟩
  exact hQ _ _ _ _ _ hw Ext.refl rel1 RVs.nil
/-- C(..) -/
theorem se_new (x : XOk g ct F k X c W) {q n : Str} {i : Nat} (h0 : n = q) (h1 : glB c.sc n = true) (h2 : okN n = true) (hm : clsIn g.cls q i (e :: es).length = true) (hst : (e :: es).all notStar = true) (hl : PA X (e :: es) (tA X.K ct W wl)) :
    PE X (.Call (.Name n p1) (e :: es) [] pos) (tE X.K ct W fun p Q E => wl p (fun xs p1 => F i (.ref p1.st.length :: xs) (p1.st ++ [.ins q []]) (fun v st => v = .non ∧ Q (.ref p1.st.length) { p1 with st := st }) (fun _ _ => False)) E) := by
  subst h0
  obtain ⟨C, f, fd, ps, hC, hmg, hM, hB, hps, hF, har⟩ := x.gok.cls _ _ _ (clsIn_mem hm)
  rw [List.all_cons, Bool.and_eq_true] at hst
  refine PE.weak (pe_make hM hF x.room (x.gl h1) hmg hB .nil (noPass x) hl (okN_of h2).1 (star_of hst.1 es) (stars_of hst.2)) fun sg H Q ⟨ph, p, rel, h⟩ => ?_
  refine ⟨ph, p, rel, (Frm.bind (R1 := RVs X.K) (w2 := fun xs p1 (Q : QV) _ => F i (.ref p1.st.length :: xs) (p1.st ++ [.ins n []]) (fun v st => v = .non ∧ Q (.ref p1.st.length) { p1 with st := st }) (fun _ _ => False)) h).mono fun vs H1 ⟨xs, ph1, p1, rel1, e1, rx, h1⟩ => ?_⟩
  intro y dx hy hdx hne
  obtain ⟨Q0, q0, hQ⟩ := h1.done
  obtain ⟨rs, ex⟩ := rel1.s.newI (c := n) hC hy hdx hne
  have hget : (ph1.push y).ad[p1.st.length]? = some y := by
    show (ph1.ad ++ [y])[p1.st.length]? = _
    rw [← rel1.s.len]
    simp
  have hr : RVs X.K (ph1.push y) (upd (upd H1 dx (.own y)) y (.ins C dx [])) (.ref p1.st.length :: xs) (V.ref y :: (vs ++ [])) := by
    rw [List.append_nil]
    exact RVs.cons (by unfold RV; exact ⟨y, rfl, hget⟩) (RVs.mono ex rel1.s.apart _ _ rx)
  refine ⟨by rw [hr.length]; exact har _ _ _ _ q0, ph1.push y, _, _, _, _, rs, hr, q0, fun v S' ph2 u H2 hq e2 r2 ru => ?_, fun _ _ _ _ _ _ z => z.elim⟩
  obtain ⟨rfl, hq⟩ := hq
  refine ⟨ru.non_inv, hQ _ _ ph2 _ _ hq (ex.trans e2) ⟨rel1.e.mono (ex.trans e2) rel1.s.apart, r2⟩ ?_⟩
  unfold RV
  exact ⟨y, rfl, e2.mem hget⟩
/-- isinstance(x, C), of an object of C -/
theorem se_isc (x : XOk g ct F k X c W) {m q n : Str} (h1 : bltB g c m "isinstance" = true) (h0 : n = q) (h2 : glB c.sc n = true) (h3 : okN n = true) (h4 : clsNm g.cls q = true) (hn : notStar a = true) (ha : PE X a (tE X.K ct W wa)) :
    PE X (.Call (.Name m p1) [a, .Name n p2] [] pos) (tE X.K ct W fun p Q E => wa p (fun x p1 => ∃ j fs, x = .ref j ∧ p1.st[j]? = some (.ins q fs) ∧ Q (.bl true) p1) E) := by
  subst h0
  obtain ⟨e1, hg, hm, hd⟩ := bltB_of x h1
  have hb : bootBuiltins m = some (.builtin "isinstance") := by rw [e1]; exact boot_isinst
  have hne : m ≠ "__name__" := by rw [e1]; exact ne_isinst
  obtain ⟨i, ar, hmem⟩ := clsNm_mem h4
  obtain ⟨C, _, _, _, hC, hmg, _⟩ := x.gok.cls _ _ _ hmem
  refine PE.weak (pe_callB call_isi hg hm hb (pa_cons ha (pa_cons (pe_glob (v := .ref C) (x.gl h2) hmg rfl (okN_of h3).1) pa_nil rfl) (star_of hn _)) hne hd (star_of hn _) rfl) fun sg H Q ⟨ph, p, rel, h⟩ => ?_
  refine ⟨ph, p, rel, (Frm.bind (R1 := RV X.K) (w2 := fun x p1 (Q : QV) _ => ∃ j fs, x = .ref j ∧ p1.st[j]? = some (.ins n fs) ∧ Q (.bl true) p1) h).mono fun v H1 ⟨y, ph1, p1, rel1, e1, rx, h1⟩ => ?_⟩
  obtain ⟨Q0, ⟨j, fs, rfl, hj, q⟩, hQ⟩ := h1.done
  obtain ⟨b, C', dx, hs, rfl, hb, hct, hH, hd, hk, hv⟩ := insOf_at rel1 rx hj
  rw [hC] at hct; cases hct
  have ic := x.gok.isc _ _ hC
  refine ⟨.ref b, .ref C, .ref C, .ref C, true, rfl, .own C, .base (.ins hH (x.gok.kin _ _ hC) ic.a ic.n ic.t ic.m), ?_, out rel1 q hQ RV.of_bl⟩
  unfold PySem.W.kitOne
  rw [if_pos (by simp)]
end
end Den

/-! D3j: dicts with tuple keys; tuple(range(..)), list(range(..)). -/
namespace Den
open PySem PySem.Spec PyProof.Rows L2
section
variable {K : PySem.W.Frag} {ct : CTab} {ph ph' : Phi} {H H' : Hp} {S : Store} {sg : L2.St} {p : PSt}
/-- the entries of a dict as they stand -/
structure Fits (K : PySem.W.Frag) (ph : Phi) (H : Hp) (es : List (PV × PV)) (hs : List Ent) : Prop where
  ks : es.map (fun e => keyOf e.1) = hs.map (fun h => some h.1)
  dp : ∀ h ∈ hs, h.1.depth ≤ 8
  kp : RVs K ph H (es.map (·.1)) (hs.map fun h => V.ref h.2.1)
  vs : RVs K ph H (es.map (·.2)) (hs.map (·.2.2))
theorem Fits.nil : Fits K ph H [] [] := ⟨rfl, fun _ h => (by cases h), RVs.nil, RVs.nil⟩
theorem Fits.inv {e : PV × PV} {es : List (PV × PV)} {hs : List Ent} (h : Fits K ph H (e :: es) hs) : ∃ d ds, hs = d :: ds ∧ keyOf e.1 = some d.1 ∧ d.1.depth ≤ 8 ∧ RV K ph H e.1 (.ref d.2.1) ∧ RV K ph H e.2 d.2.2 ∧ Fits K ph H es ds := by
  obtain ⟨k1, k2, k3, k4⟩ := h
  cases hs with
  | nil => simp at k1
  | cons d ds =>
    simp only [List.map_cons, List.cons.injEq] at k1
    obtain ⟨v, r, e3, a3, b3⟩ := k3.cons_inv
    obtain ⟨u, r', e4, a4, b4⟩ := k4.cons_inv
    simp only [List.map_cons, List.cons.injEq] at e3 e4
    obtain ⟨rfl, rfl⟩ := e3
    obtain ⟨rfl, rfl⟩ := e4
    exact ⟨d, ds, rfl, k1.1, k2 d List.mem_cons_self, a3, a4, k1.2, fun x hx => k2 x (List.mem_cons_of_mem _ hx), b3, b4⟩
theorem Fits.cons {e : PV × PV} {es : List (PV × PV)} {d : Ent} {ds : List Ent} (h1 : keyOf e.1 = some d.1) (h2 : d.1.depth ≤ 8) (h3 : RV K ph H e.1 (.ref d.2.1)) (h4 : RV K ph H e.2 d.2.2) (h : Fits K ph H es ds) : Fits K ph H (e :: es) (d :: ds) :=
  ⟨by simp only [List.map_cons, h1, h.ks], fun x hx => by
    rcases List.mem_cons.mp hx with rfl | hx
    · exact h2
    · exact h.dp x hx, RVs.cons h3 h.kp, RVs.cons h4 h.vs⟩
theorem Fits.mono (e : Ext ph H ph' H') (ap : Apart ph H) {es : List (PV × PV)} {hs : List Ent} (h : Fits K ph H es hs) : Fits K ph' H' es hs := ⟨h.ks, h.dp, RVs.mono e ap _ _ h.kp, RVs.mono e ap _ _ h.vs⟩
theorem Fits.len : ∀ {es : List (PV × PV)} {hs : List Ent}, Fits K ph H es hs → hs.length = es.length := fun h => by
  have := h.vs.length
  simpa using this
theorem Fits.key : ∀ {es : List (PV × PV)} {hs : List Ent}, Fits K ph H es hs → ∀ d ∈ hs, KeyAt K H d.1 d.2.1
  | [], hs, h, d, hd => by
    have := h.len
    rw [List.length_eq_zero_iff.mp this] at hd
    cases hd
  | e :: es, hs, h, d, hd => by
    obtain ⟨d', ds, rfl, h1, h2, h3, h4, h5⟩ := h.inv
    rcases List.mem_cons.mp hd with rfl | hd
    · exact ⟨h2, ph, e.1, h1, h3⟩
    · exact h5.key d hd
theorem Fits.get {k : NK} : ∀ {es : List (PV × PV)} {hs : List Ent}, Fits K ph H es hs → (∀ x, getK es k = some x → ∃ d, getE hs k = some d ∧ RV K ph H x d.2.2) ∧ (getK es k = none → getE hs k = none)
  | [], hs, h => by
    have := h.len
    rw [List.length_eq_zero_iff.mp this]
    exact ⟨fun _ z => (by cases z), fun _ => rfl⟩
  | e :: es, hs, h => by
    obtain ⟨d, ds, rfl, h1, h2, h3, h4, h5⟩ := h.inv
    unfold getK getE
    by_cases hk : d.1 = k
    · rw [if_pos hk, if_pos (by rw [h1, hk])]
      exact ⟨fun x z => (by cases z; exact ⟨d, rfl, h4⟩), fun z => (by cases z)⟩
    · rw [if_neg hk, if_neg (fun z => hk (by rw [h1] at z; exact Option.some.inj z))]
      exact h5.get
theorem Fits.put {k : NK} {b : Addr} {y z : PV} {w : V} (hy : keyOf y = some k) (hk : k.depth ≤ 8) (ry : RV K ph H y (.ref b)) (rz : RV K ph H z w) : ∀ {es : List (PV × PV)} {hs : List Ent}, Fits K ph H es hs → Fits K ph H (putK es y k z) (putE hs k b w)
  | [], hs, h => by
    have := h.len
    rw [List.length_eq_zero_iff.mp this]
    exact Fits.cons hy hk ry rz .nil
  | e :: es, hs, h => by
    obtain ⟨d, ds, rfl, h1, h2, h3, h4, h5⟩ := h.inv
    unfold putK putE
    by_cases hk' : d.1 = k
    · rw [if_pos hk', if_pos (by rw [h1, hk'])]
      exact Fits.cons h1 h2 h3 rz h5
    · rw [if_neg hk', if_neg (fun z => hk' (by rw [h1] at z; exact Option.some.inj z))]
      exact Fits.cons h1 h2 h3 h4 (h5.put hy hk ry rz)
theorem putK_new {y z : PV} {k : NK} : ∀ {es : List (PV × PV)}, getK es k = none → putK es y k z = es ++ [(y, z)]
  | [], _ => rfl
  | e :: es, h => by
    unfold getK at h
    unfold putK
    by_cases hk : keyOf e.1 = some k
    · rw [if_pos hk] at h; cases h
    · rw [if_neg hk] at h ⊢
      rw [putK_new h]; rfl
theorem RelS.dctAt (r : RelS K ct ph H S) {n : Nat} {es : List (PV × PV)} {g : Obj} (h : S[n]? = some (.dct es g)) : ∃ a hs, ph.ad[n]? = some a ∧ H a = some (DctO ct.hw a g hs) ∧ Fits K ph H es hs := by
  obtain ⟨a, h1, hs, h2, h3, h4, h5, h6⟩ := r.obj n _ h
  exact ⟨a, hs, h1, h2, h3, h4, h5, h6⟩
theorem dct_ref (rel : Rel K ct ph H sg p) {x : PV} {v : V} {n : Nat} {es : List (PV × PV)} {g : Obj} (rx : RV K ph H x v) (e : x = .ref n) (h : p.st[n]? = some (.dct es g)) : ∃ a hs, v = .ref a ∧ ph.ad[n]? = some a ∧ H a = some (DctO ct.hw a g hs) ∧ Fits K ph H es hs := by
  subst e
  obtain ⟨a, hs, h1, h2, h3⟩ := rel.s.dctAt h
  unfold RV at rx
  obtain ⟨a', e, h4⟩ := rx
  rw [h1] at h4; cases h4
  exact ⟨a, hs, e, h1, h2, h3⟩
theorem dKey_at (rel : Rel K ct ph H sg p) {x y : PV} {v u : V} {R : Nat → List (PV × PV) → NK → Prop} (rx : RV K ph H x v) (ry : RV K ph H y u) (h : dKey p x y R) :
    ∃ n es g k a hs b, p.st[n]? = some (.dct es g) ∧ R n es k ∧ v = .ref a ∧ u = .ref b ∧ ph.ad[n]? = some a ∧ H a = some (DctO ct.hw a g hs) ∧ Fits K ph H es hs ∧ keyOf y = some k ∧ k.depth ≤ 8 ∧ RV K ph H y (.ref b) ∧ KeyAt K H k b := by
  obtain ⟨n, es, g, k, hx, hn, ⟨ks, rfl⟩, hk, hd, q⟩ := h
  obtain ⟨a, hs, h1, h2, h3, h4⟩ := dct_ref rel rx hx hn
  have ry' := ry
  obtain ⟨b, vs, rfl, _, _⟩ := ry'.tup_inv
  exact ⟨n, es, g, k, a, hs, b, hn, q, h1, rfl, h2, h3, h4, hk, hd, ry, hd, ph, _, hk, ry⟩
/-- a new dict of the store -/
theorem RelS.newD (r : RelS K ct ph H S) {x : Addr} {g : Obj} (hx : H x = none) :
    RelS K ct (ph.push x) (upd H x (DctO ct.hw x g [])) (S ++ [.dct [] g]) ∧ Ext ph H (ph.push x) (upd H x (DctO ct.hw x g [])) := by
  have e2 : Ext ph H (ph.push x) (upd H x (DctO ct.hw x g [])) := Ext.new hx
  refine ⟨(r.lay (o := DctO ct.hw x g []) hx).adoptO (r.fresh hx) ⟨[], upd_same, rfl, fun _ h => (by cases h), RVs.nil, RVs.nil⟩ fun i q b hi hb => ?_, e2⟩
  obtain ⟨b', h1, h2⟩ := r.obj i q hi
  rw [hb] at h1; cases h1
  refine h2.mono e2 r.apart (fun u e => ?_) fun dy e => ?_
  · rw [upd_ne (ne_of_none e hx)]; exact e
  · rw [upd_ne (ne_of_none e hx)]; exact e
/-- a dict of the store is written -/
theorem RelS.setD (r : RelS K ct ph H S) {n : Nat} {a : Addr} {es : List (PV × PV)} {hs hs0 : List Ent} {g g0 : Obj} (hn : n < S.length) (ha : ph.ad[n]? = some a) (h0 : H a = some (DctO ct.hw a g0 hs0)) (hf : Fits K ph H es hs) :
    RelS K ct ph (upd H a (DctO ct.hw a g hs)) (S.set n (.dct es g)) := by
  have hm : a ∈ ph.ad := List.mem_iff_getElem?.mpr ⟨n, ha⟩
  have ex : Ext ph H ph (upd H a (DctO ct.hw a g hs)) := Ext.write hm
  refine ⟨by simp [r.len], r.nd, fun b hb => ?_, fun i o hi => ?_⟩
  · obtain ⟨h1, us, h2⟩ := r.hid b hb
    exact ⟨h1, us, ex.keep _ _ h2 h1⟩
  by_cases hin : i = n
  · subst hin
    rw [List.getElem?_set_self hn] at hi
    cases hi
    have hf' := hf.mono ex r.apart
    exact ⟨a, ha, hs, upd_same, hf'.ks, hf'.dp, hf'.kp, hf'.vs⟩
  · rw [List.getElem?_set_ne (fun z => hin z.symm)] at hi
    obtain ⟨b, h1, h2⟩ := r.obj i o hi
    have hb : b ≠ a := fun z => by
      subst z
      obtain ⟨l1, e1⟩ := List.getElem?_eq_some_iff.mp h1
      obtain ⟨l2, e2⟩ := List.getElem?_eq_some_iff.mp ha
      exact hin ((List.getElem_inj r.nd).mp (e1.trans e2.symm))
    refine ⟨b, h1, h2.mono ex r.apart (fun u e => by rw [upd_ne hb]; exact e) fun dy q => ?_⟩
    rw [upd_ne (fun z => by rw [z, h0] at q; cases q)]; exact q
theorem RVs.maps {α : Type} {f : α → PV} {g : α → V} : ∀ {l : List α}, (∀ i ∈ l, RV K ph H (f i) (g i)) → RVs K ph H (l.map f) (l.map g)
  | [], _ => RVs.nil
  | i :: l, h => RVs.cons (h i List.mem_cons_self) (RVs.maps fun j hj => h j (List.mem_cons_of_mem _ hj))
theorem rv_rng {lo hi : Int} : RVs K ph H (rngL lo (hi - lo).toNat) (L2.rgV lo hi) := RVs.maps fun i _ => RV.of_int
end
section
variable {g : GD} {ct : CTab} {F : FT} {k : Nat} {X : Cx} {c : CC} {W : WX} {wa wb wd : WA PV} {a b d e : Expr} {es : List Expr} {pos p1 p2 p3 : Pos}
/-! ### ranges made at once -/
theorem rngV_ok {t m : Bool} {lo hi : Int} {sg : L2.St} {ph : Phi} {H : Hp} {p : PSt} {Q : VK} {Q0 : QV} (rel : Rel X.K ct ph H sg p) (h : rngV t m lo hi p Q0) (hQ : ∀ a p' ph' b H', Q0 a p' → Ext ph H ph' H' → Rel X.K ct ph' H' sg p' → RV X.K ph' H' a b → Q b H') :
    L2.RgOk lo hi ∧ ∀ q, H q = none → Q (.ref q) (upd H q (if t = true then .tup (L2.rgV lo hi) else .lst (L2.rgV lo hi))) := by
  obtain ⟨⟨h1, h2, h3, h4⟩, h5, h6⟩ := h
  refine ⟨⟨h1, h2, h3, h4, h5⟩, fun q hq => ?_⟩
  cases t with
  | true => exact outT rel h6 hQ rv_rng hq
  | false => exact (mkL_ok rel rv_rng h6 hQ).2 q hq
theorem se_rng {t : Bool} {f : Str} {z : Expr} {te : L2.St → Hp → (Int → Int → Hp → Prop) → Prop} {w : WA PV} (x : XOk g ct F k X c W) (h1 : (if t then bltB g c f "tuple" else bltB g c f "list") = true) (hz : notStar z = true) (he : PRg X z te)
    (hw : ∀ sg H Q, tE X.K ct W w sg H Q → te sg H fun lo hi H1 => L2.RgOk lo hi ∧ ∀ q, H1 q = none → Q (.ref q) (upd H1 q (if t = true then .tup (L2.rgV lo hi) else .lst (L2.rgV lo hi)))) :
    PE X (.Call (.Name f p1) [z] [] pos) (tE X.K ct W w) := by
  cases t with
  | true =>
    obtain ⟨rfl, hg, hm, hd⟩ := bltB_of x h1
    exact PE.weak (pe_tupRg x.calm hg hm he (star_of hz _)) fun sg H Q h => hw sg H Q h
  | false =>
    obtain ⟨rfl, hg, hm, hd⟩ := bltB_of x h1
    exact PE.weak (pe_listRg x.calm hg hm he (star_of hz _)) fun sg H Q h => hw sg H Q h
theorem se_trg1 (x : XOk g ct F k X c W) {t m : Bool} {f r : Str} (h1 : (if t then bltB g c f "tuple" else bltB g c f "list") = true) (h2 : bltB g c r "range" = true) (hn : notStar a = true) (ha : PE X a (tE X.K ct W wa)) :
    PE X (.Call (.Name f p1) [.Call (.Name r p2) [a] [] p3] [] pos) (tE X.K ct W fun p Q E => wa p (fun x p1 => ∃ n, x = .int n ∧ rngV t m 0 n p1 Q) E) := by
  obtain ⟨rfl, hg, hm, hd⟩ := bltB_of x h2
  refine se_rng x h1 rfl (prg_1 hg hm ha (star_of hn _)) fun sg H Q ⟨ph, p, rel, h⟩ => ?_
  refine ⟨ph, p, rel, (Frm.bind (R1 := RV X.K) (w2 := fun x p1 (Q : QV) _ => ∃ n, x = .int n ∧ rngV t m 0 n p1 Q) h).mono fun v H1 ⟨y, ph1, q1, rel1, e1, rx, h1⟩ => ?_⟩
  obtain ⟨Q0, ⟨n, rfl, hq⟩, hQ⟩ := h1.done
  exact ⟨n, rx.int_inv, rngV_ok rel1 hq hQ⟩
theorem se_trg2 (x : XOk g ct F k X c W) {t m : Bool} {f r : Str} (h1 : (if t then bltB g c f "tuple" else bltB g c f "list") = true) (h2 : bltB g c r "range" = true) (hn : notStar a = true) (hn2 : notStar b = true) (ha : PE X a (tE X.K ct W wa)) (hb : PE X b (tE X.K ct W wb)) :
    PE X (.Call (.Name f p1) [.Call (.Name r p2) [a, b] [] p3] [] pos) (tE X.K ct W fun p Q E => wa p (fun x p1 => wb p1 (fun y p2 => ∃ lo hi, x = .int lo ∧ y = .int hi ∧ rngV t m lo hi p2 Q) E) E) := by
  obtain ⟨rfl, hg, hm, hd⟩ := bltB_of x h2
  have hb2 : (backTo p3 (starEach [b] X.env)).any (·.1) = false := stars_of (by rw [List.all_cons, hn2]; rfl)
  refine se_rng x h1 rfl (prg_2 hg hm ha hb (star_of hn _) (star_of hn2 _) hb2) fun sg H Q ⟨ph, p, rel, h⟩ => ?_
  refine ⟨ph, p, rel, (Frm.bind (R1 := RV X.K) (w2 := fun x p1 (Q : QV) E => wb p1 (fun y p2 => ∃ lo hi, x = .int lo ∧ y = .int hi ∧ rngV t m lo hi p2 Q) E) h).mono fun v H1 ⟨y, ph1, q1, rel1, e1, rx, h1⟩ => ?_⟩
  refine ⟨ph1, q1, rel1, (Frm.bind (R1 := RV X.K) (w2 := fun z p1 (Q : QV) _ => ∃ lo hi, y = .int lo ∧ z = .int hi ∧ rngV t m lo hi p1 Q) h1).mono fun u H2 ⟨z, ph2, q2, rel2, e2, ry, h2⟩ => ?_⟩
  obtain ⟨Q0, ⟨lo, hi, rfl, rfl, hq⟩, hQ⟩ := h2.done
  exact ⟨lo, hi, rx.int_inv, ry.int_inv, rngV_ok rel2 hq hQ⟩
/-! ### dicts -/
theorem se_dnew : PE X (.Dict [] [] pos) (tE X.K ct W fun p Q _ => ∀ g, Q (.ref p.st.length) { p with st := p.st ++ [.dct [] g] }) := by
  refine PE.weak (pe_dnewD (hw := ct.hw)) fun sg H Q ⟨ph, p, rel, h⟩ q gg hq => ?_
  obtain ⟨Q0, q0, hQ⟩ := h.done
  obtain ⟨rs, ex⟩ := rel.s.newD (g := gg) hq
  refine hQ _ _ _ _ _ (q0 gg) ex ⟨rel.e.mono ex rel.s.apart, rs⟩ ?_
  unfold RV
  refine ⟨q, rfl, ?_⟩
  show (ph.ad ++ [q])[p.st.length]? = _
  rw [← rel.s.len]
  simp
theorem op_ixD {n : Bool} : OpS X.K ct W (rDIx X.K ct.hw) (fun x y p (Q : QV) => dKey p x y fun _ es k => ∃ v, getK es k = some v ∧ Q v p) := by
  intro sg ph H p x y v u Q rel rx ry h
  obtain ⟨Q0, hq, hQ⟩ := h.done
  obtain ⟨n, es, g, k, a, hs, b, hn, ⟨z, hz, q⟩, rfl, rfl, ha, hH, hf, hy, hd, ry', hk⟩ := dKey_at rel rx ry hq
  obtain ⟨d, h1, h2⟩ := hf.get.1 z hz
  exact ⟨a, g, hs, k, b, rfl, rfl, hH, hf.key, hk, d, h1, out rel q hQ h2⟩
theorem se_ixd (x : XOk g ct F k X c W) (hp : plainIxB b = true) (ha : PE X a (tE X.K ct W wa)) (hb : PE X b (tE X.K ct W wb)) :
    PE X (.Subscript a b pos) (tE X.K ct W fun p Q E => wa p (fun x p1 => wb p1 (fun y p2 => dKey p2 x y fun _ es k => ∃ v, getK es k = some v ∧ Q v p2) E) E) :=
  PE.weak (pe_ix (ix_dct x.units x.hw) ha hb (plainIx_of hp)) fun sg H Q h => tE_op (op_ixD (n := true)) h
theorem get_some {K : PySem.W.Frag} {ph : Phi} {H : Hp} {k : NK} {es : List (PV × PV)} {hs : List Ent} (h : Fits K ph H es hs) : (getE hs k).isSome = (getK es k).isSome := by
  cases hg : getK es k with
  | none => rw [h.get.2 hg]; rfl
  | some x =>
    obtain ⟨d, h1, _⟩ := h.get.1 x hg
    rw [h1]; rfl
theorem op_inS {n : Bool} : OpS X.K ct W (rDIn X.K ct.hw n) (fun x y p (Q : QV) => dKey p y x fun _ es k => Q (.bl (if n then !(getK es k).isSome else (getK es k).isSome)) p) := by
  intro sg ph H p x y v u Q rel rx ry h
  obtain ⟨Q0, hq, hQ⟩ := h.done
  obtain ⟨m, es, g, k, a, hs, b, hn, q, rfl, rfl, ha, hH, hf, hy, hd, ry', hk⟩ := dKey_at rel ry rx hq
  refine ⟨a, g, hs, k, b, rfl, rfl, hH, hf.key, hk, ?_⟩
  show Q (.bl (if n = true then !(getE hs k).isSome else (getE hs k).isSome)) H
  rw [get_some hf]
  exact out rel q hQ RV.of_bl
abbrev wInd (n : Bool) (wa wb : WA PV) : WA PV := fun p Q E => wa p (fun x p1 => wb p1 (fun y p2 => dKey p2 y x fun _ es k => Q (.bl (if n then !(getK es k).isSome else (getK es k).isSome)) p2) E) E
theorem op_ind (x : XOk g ct F k X c W) (n : Bool) : OpR X (compareOp (if n then .NotIn else .In)) (rDIn X.K ct.hw n) := by
  cases n with
  | true => exact op_notInD x.units x.hw
  | false => exact op_inD x.units x.hw
theorem se_ind (x : XOk g ct F k X c W) {n : Bool} {op : CmpOp} (ho : op = (if n then .NotIn else .In)) (hm : behindInMarks op b = false) (ha : PE X a (tE X.K ct W wa)) (hb : PE X b (tE X.K ct W wb)) :
    PE X (.Compare a [op] [b] pos) (tE X.K ct W (wInd n wa wb)) := by
  subst ho
  exact PE.weak (pe_cmpR (op_ind x n) ha hb hm) fun sg H Q h => tE_op op_inS h
theorem st_ind (x : XOk g ct F k X c W) {n : Bool} {op : CmpOp} (ho : op = (if n then .NotIn else .In)) (hm : behindInMarks op b = false) (ha : PE X a (tE X.K ct W wa)) (hb : PE X b (tE X.K ct W wb)) :
    PT X (.Compare a [op] [b] pos) (tB X.K ct W (wInd n wa wb)) := by
  subst ho
  exact PT.weak (pt_cmpR (op_ind x n) ha hb hm) fun sg H Q h => tE_op op_inS (tB_of h)
/-! ### get, setdefault -/
theorem dm_args {f : PV → PV → PV → PSt → QV → Prop} {r : V → List V → Hp → VK → Prop} {sg : L2.St} {H : Hp} {Q : VK}
    (hf : ∀ sg ph H p x y z v u w Q Q0, Rel X.K ct ph H sg p → RV X.K ph H x v → RV X.K ph H y u → RV X.K ph H z w → f x y z p Q0 → (∀ a p' ph' b H', Q0 a p' → Ext ph H ph' H' → Rel X.K ct ph' H' sg p' → RV X.K ph' H' a b → Q b H') → r v [u, w] H Q)
    (h : tE X.K ct W (fun p Q E => wa p (fun x p1 => isDct p1 x ∧ wb p1 (fun y p2 => wd p2 (fun z p3 => f x y z p3 Q) E) E) E) sg H Q) :
    tDM ct.hw r (tE X.K ct W wa) (tA X.K ct W (wCons wb (wCons wd fun p Q _ => Q [] p))) sg H Q := by
  obtain ⟨ph, p, rel, h⟩ := h
  refine ⟨ph, p, rel, (Frm.bind (R1 := RV X.K) (w2 := fun x p1 (Q : QV) E => isDct p1 x ∧ wb p1 (fun y p2 => wd p2 (fun z p3 => f x y z p3 Q) E) E) h).mono fun v H1 ⟨x, ph1, q1, rel1, e1, rx, h1⟩ => ?_⟩
  obtain ⟨Q0, X0, ⟨⟨n, es, gg, hx, hn⟩, h1⟩, hQ, hX⟩ := h1
  obtain ⟨a', hs, rfl, ha, hH, hF⟩ := dct_ref rel1 rx hx hn
  refine ⟨⟨a', gg, hs, rfl, hH⟩, ph1, q1, rel1, fun vs q2 => ∃ y z, vs = [y, z] ∧ f x y z q2 Q0, X0, ?_, fun vs p' ph' us H' ⟨y, z, e, hq⟩ ex rel' rv => ?_, hX⟩
  · have em : ∀ (w : WA PV) p (Q1 Q2 : QV), w p Q1 X0 → (Q1 = Q2) → w p Q2 X0 := fun w p Q1 Q2 h e => e ▸ h
    refine em wb _ _ _ h1 ?_
    funext y p2
    have : (fun z p3 => f x y z p3 Q0) = fun z p3 => ∃ y' z', [y, z] = [y', z'] ∧ f x y' z' p3 Q0 := by
      funext z p3
      exact propext ⟨fun h => ⟨y, z, rfl, h⟩, fun ⟨_, _, e, h⟩ => by cases e; exact h⟩
    rw [this]
  · subst e
    obtain ⟨u, w, rfl, r1, r2⟩ := rv.inv2
    exact hf _ _ _ _ _ _ _ _ _ _ Q Q0 rel' (RV.mono ex rel1.s.apart _ _ rx) r1 r2 hq fun a p' ph' b H' hq e' r' rv' => hQ _ _ _ _ _ hq (ex.trans e') r' rv'
theorem dm_few {cp : Pos} (hb : notStar b = true) (hd : notStar d = true) : ((backTo cp (starEach [b, d] X.env)).all (fun x => !x.1) && (backToKw cp (keywordEach [] X.env)).all (fun x => x.1.isSome)
      && decide (([b, d] : List Expr).length + ([] : List Keyword).length + (if ([] : List Keyword).isEmpty then 0 else 1) < 30)) = true := by
  have hst : ([b, d] : List Expr).all notStar = true := by rw [List.all_cons, List.all_cons, hb, hd]; rfl
  rw [stars_few hst]
  rfl
theorem se_dget (x : XOk g ct F k X c W) {nm : Str} {ap cp : Pos} (h1 : nm = "get") (h2 : plainBaseB a = true) (h3 : (ap.endLine == cp.line) = true) (hnb : notStar b = true) (hnd : notStar d = true) (ha : PE X a (tE X.K ct W wa)) (hb : PE X b (tE X.K ct W wb)) (hd : PE X d (tE X.K ct W wd)) :
    PE X (.Call (.Attribute a nm ap) [b, d] [] cp) (tE X.K ct W fun p Q E => wa p (fun x p1 => isDct p1 x ∧ wb p1 (fun y p2 => wd p2 (fun z p3 => dKey p3 x y fun _ es k => Q ((getK es k).getD z) p3) E) E) E) := by
  subst h1
  have hpl : (backTo cp (starEach [d] X.env)).any (·.1) = false := stars_of (by rw [List.all_cons, hnd]; rfl)
  refine PE.weak (pe_dm (hw := ct.hw) PySem.F.slot_dict_get PySem.F.type_dict_get (mt_dget x.units x.hw) ha (sa_cons hnb hb (sa_cons hnd hd sa_nil)) (plainBase_of h2 _) (dm_few hnb hnd) h3 (star_of hnb _) hpl) fun sg H Q h => dm_args ?_ h
  intro sg ph H p x y z v u w Q Q0 rel rx ry rz hq hQ
  obtain ⟨n, es, gg, kk, a', hs, b', hn, q, rfl, rfl, ha', hH, hf, hy, hdp, ry', hk⟩ := dKey_at rel rx ry hq
  refine ⟨.ref b', w, rfl, a', gg, hs, kk, b', rfl, rfl, hH, hf.key, hk, ?_⟩
  cases hg : getK es kk with
  | none =>
    rw [hg] at q
    rw [hf.get.2 hg]
    exact out rel q hQ rz
  | some t =>
    rw [hg] at q
    obtain ⟨d', e1, e2⟩ := hf.get.1 t hg
    rw [e1]
    exact out rel q hQ e2
theorem se_dset (x : XOk g ct F k X c W) {nm : Str} {ap cp : Pos} (h1 : nm = "setdefault") (h2 : plainBaseB a = true) (h3 : (ap.endLine == cp.line) = true) (hnb : notStar b = true) (hnd : notStar d = true) (ha : PE X a (tE X.K ct W wa)) (hb : PE X b (tE X.K ct W wb)) (hd : PE X d (tE X.K ct W wd)) :
    PE X (.Call (.Attribute a nm ap) [b, d] [] cp) (tE X.K ct W fun p Q E => wa p (fun x p1 => isDct p1 x ∧ wb p1 (fun y p2 => wd p2 (fun z p3 => dKey p3 x y fun n es k => dSet p3 y z n es k Q) E) E) E) := by
  subst h1
  have hpl : (backTo cp (starEach [d] X.env)).any (·.1) = false := stars_of (by rw [List.all_cons, hnd]; rfl)
  refine PE.weak (pe_dm (hw := ct.hw) PySem.F.slot_dict_setdefault PySem.F.type_dict_setdefault (mt_dset x.units x.hw) ha (sa_cons hnb hb (sa_cons hnd hd sa_nil)) (plainBase_of h2 _) (dm_few hnb hnd) h3 (star_of hnb _) hpl) fun sg H Q h => dm_args ?_ h
  intro sg ph H p x y z v u w Q Q0 rel rx ry rz hq hQ
  obtain ⟨n, es, gg, kk, a', hs, b', hn, q, rfl, rfl, ha', hH, hf, hy, hdp, ry', hk⟩ := dKey_at rel rx ry hq
  refine ⟨.ref b', w, rfl, a', gg, hs, kk, b', rfl, rfl, hH, hf.key, hk, fun d' hd' => ?_, fun hno => ?_⟩
  · unfold dSet at q
    cases hg : getK es kk with
    | none => rw [hf.get.2 hg] at hd'; cases hd'
    | some t =>
      rw [hg] at q
      obtain ⟨d2, e1, e2⟩ := hf.get.1 t hg
      rw [e1] at hd'; cases hd'
      exact out rel q hQ e2
  · have hg : getK es kk = none := by
      cases hg : getK es kk with
      | none => rfl
      | some t =>
        obtain ⟨d2, e1, e2⟩ := hf.get.1 t hg
        rw [hno] at e1; cases e1
    unfold dSet at q
    rw [hg] at q
    refine ⟨by rw [hf.len, sizeLine_eq]; exact q.1, fun g' => ?_⟩
    have hl : n < p.st.length := (List.getElem?_eq_some_iff.mp hn).1
    have ew : Ext ph H ph (upd H a' (DctO ct.hw a' g' (putE hs kk b' w))) := Ext.write (List.mem_iff_getElem?.mpr ⟨n, ha'⟩)
    refine hQ _ _ ph _ _ (q.2 g') ew ⟨rel.e.mono ew rel.s.apart, ?_⟩ (RV.mono ew rel.s.apart _ _ rz)
    have hf2 := hf.put hy hdp ry' rz
    rw [putK_new hg] at hf2
    exact rel.s.setD hl ha' hH hf2
/-! ### its keys walked -/
theorem si_dct {tg l : Expr} (ha : PE X l (tE X.K ct W wa)) : PI X tg l (tI X.K ct W fun p Q E => wa p (fun x p1 => ∃ n es g, x = .ref n ∧ p1.st[n]? = some (.dct es g) ∧ Q (es.map (·.1)) (fun p => p.st[n]? = some (.dct es g)) p1) E) := by
  refine PI.weak (pi_dct (hw := ct.hw) ha) fun sg H R ⟨ph, p, Q0, X0, rel, hw, hQ, hX⟩ => ?_
  refine ⟨ph, p, rel, _, X0, hw, fun x p1 ph1 v H1 ⟨n, es, gg, hx, hn, q⟩ e1 rel1 rx => ?_, hX⟩
  obtain ⟨a', hs, rfl, ha', hH, hf⟩ := dct_ref rel1 rx hx hn
  refine ⟨a', gg, hs, rfl, hH, hQ _ _ _ _ _ _ q e1 rel1 ⟨fun H => ∃ ds, H a' = some (DctO ct.hw a' gg ds) ∧ ds.length = hs.length, fun i H v H' => H' = H ∧ ∀ ds, H a' = some (DctO ct.hw a' gg ds) → ∃ d, ds[i]? = some d ∧ v = .ref d.2.1, ⟨fun i H hi ⟨ds, e, hl⟩ => ?_, fun H ⟨ds, e, hl⟩ => ?_, fun i H v H' hi _ y => y⟩, fun ph' H' p' ex rs st => ?_, fun i H1 v H2 ph2 p2 hi ex rs st ⟨e, y⟩ => ?_⟩⟩
  · exact ⟨ds, e, hl, by rw [List.length_map] at hi; rw [hf.len]; exact hi⟩
  · refine ⟨ds, e, hl, ?_⟩
    rw [List.length_map, hf.len]
    exact Nat.le_refl _
  · obtain ⟨b, ds, h1, h2, h3⟩ := rs.dctAt st
    rw [ex.mem ha'] at h1; cases h1
    exact ⟨ds, h2, by rw [h3.len, hf.len]⟩
  · subst e
    obtain ⟨b, ds', h1, h2, h3⟩ := rs.dctAt st
    rw [ex.mem ha'] at h1; cases h1
    obtain ⟨d, hd, rfl⟩ := y ds' h2
    refine ⟨Ext.refl, rs, ?_⟩
    have hl : i < es.length := by rw [List.length_map] at hi; exact hi
    obtain ⟨u, hu, ru⟩ := h3.kp.get (i := i) (x := es[i].1) (by rw [List.getElem?_map, List.getElem?_eq_getElem hl]; rfl)
    rw [List.getElem?_map, hd] at hu
    cases hu
    exact ⟨es[i].1, by rw [List.getElem?_map, List.getElem?_eq_getElem hl]; rfl, ru⟩
end
end Den

/-! D3f: every expression that is checked. -/
namespace Den
open PySem PySem.Spec PyProof.Rows L2
section
variable {g : GD} {ct : CTab} {F : FT} {k : Nat}
theorem ge_var {i : Nat} : GE g ct F k (.var i) := by
  intro X c W a x h
  cases a <;> first | (simp [cE] at h; done) | skip
  simp only [cE, Bool.and_eq_true, decide_eq_true_eq] at h
  exact gp_of (se_var x h.1.1 h.1.2 h.2) (by intro; rfl)
theorem ge_int {i : Int} : GE g ct F k (.int i) := by
  intro X c W a x h
  cases a <;> first | (simp [cE] at h; done) | skip
  rename_i v _ _
  cases v <;> first | (simp [cE] at h; done) | skip
  simp only [cE, decide_eq_true_eq] at h
  subst h
  exact gp_of se_int (by intro; rfl)
theorem ge_bl {i : Bool} : GE g ct F k (.bl i) := by
  intro X c W a x h
  cases a <;> first | (simp [cE] at h; done) | skip
  rename_i v _ _
  cases v <;> first | (simp [cE] at h; done) | skip
  simp only [cE, beq_iff_eq] at h
  subst h
  exact gp_of se_bl (by intro; rfl)
theorem ge_non : GE g ct F k .non := by
  intro X c W a x h
  cases a <;> first | (simp [cE] at h; done) | skip
  rename_i v _ _
  cases v <;> first | (simp [cE] at h; done) | skip
  exact gp_of se_non (by intro; rfl)
theorem ge_str {i : Str} : GE g ct F k (.str i) := by
  intro X c W a x h
  cases a <;> first | (simp [cE] at h; done) | skip
  rename_i v _ _
  cases v <;> first | (simp [cE] at h; done) | skip
  obtain rfl := of_decide_eq_true (show decide (i = _) = true by simpa [cE, isNm] using h)
  exact gp_of se_str (by intro; rfl)
theorem ge_gint {n : Str} {i : Int} : GE g ct F k (.gint n i) := by
  intro X c W a x h
  cases a <;> first | (simp [cE] at h; done) | skip
  simp only [cE, Bool.and_eq_true, decide_eq_true_eq] at h
  exact gp_of (se_gint x h.1.1.2 h.1.2 h.2) (by intro; rfl)
theorem ge_gstr {n : Str} {i : Str} : GE g ct F k (.gstr n i) := by
  intro X c W a x h
  cases a <;> first | (simp [cE] at h; done) | skip
  simp only [cE, Bool.and_eq_true, decide_eq_true_eq] at h
  exact gp_of (se_gstr x h.1.1.2 h.1.2 h.2) (by intro; rfl)
theorem ge_never : GE g ct F k .never := fun X c W a x h => ⟨se_never, st_never⟩
theorem ge_trg1 {t m : Bool} {a : E} (ha : GE g ct F k a) : GE g ct F k (.trg1 t m a) := by
  intro X c W s x h
  unfold cE at h
  split at h
  all_goals first | (cases h; done) | (rename_i e5; cases e5; done) | skip
  rename_i e5
  obtain ⟨rfl, rfl, rfl⟩ := E.trg1.inj e5
  rw [Bool.and_eq_true, Bool.and_eq_true] at h
  obtain ⟨⟨h1, h2⟩, h3⟩ := h
  refine gp_of ?_ (by intro; rfl)
  refine PE.weak (se_trg1 (m := m) x h1 h2 (cE_star h3) (ha X _ W _ x h3).1) fun sg H Q h => ?_
  simpa only [wE] using h
theorem ge_trg2 {t m : Bool} {a b : E} (ha : GE g ct F k a) (hb : GE g ct F k b) : GE g ct F k (.trg2 t m a b) := by
  intro X c W s x h
  unfold cE at h
  split at h
  all_goals first | (cases h; done) | (rename_i e5; cases e5; done) | skip
  rename_i e5
  obtain ⟨rfl, rfl, rfl, rfl⟩ := E.trg2.inj e5
  rw [Bool.and_eq_true, Bool.and_eq_true, Bool.and_eq_true] at h
  obtain ⟨⟨⟨h1, h2⟩, h3⟩, h4⟩ := h
  refine gp_of ?_ (by intro; rfl)
  refine PE.weak (se_trg2 (m := m) x h1 h2 (cE_star h3) (cE_star h4) (ha X _ W _ x h3).1 (hb X _ W _ x h4).1) fun sg H Q h => ?_
  simpa only [wE] using h
theorem ge_dnew : GE g ct F k .dnew := by
  intro X c W a x h
  cases a <;> first | (simp [cE] at h; done) | skip
  rename_i ks vs _
  cases ks <;> cases vs <;> first | (simp [cE] at h; done) | skip
  refine gp_of (PE.weak (se_dnew (ct := ct) (W := W)) fun sg H Q h => ?_) (by intro; rfl)
  simpa only [wE] using h
theorem ge_ixd {a b : E} (ha : GE g ct F k a) (hb : GE g ct F k b) : GE g ct F k (.ixd a b) := by
  intro X c W s x h
  unfold cE at h
  split at h
  all_goals first | (cases h; done) | (rename_i e5; cases e5; done) | skip
  rename_i e5
  obtain ⟨rfl, rfl⟩ := E.ixd.inj e5
  simp only [Bool.and_eq_true] at h
  obtain ⟨⟨h1, h2⟩, h3⟩ := h
  refine gp_of ?_ (by intro; rfl)
  refine PE.weak (se_ixd x h1 (ha X _ W _ x h2).1 (hb X _ W _ x h3).1) fun sg H Q h => ?_
  simpa only [wE] using h
theorem ge_ind {n : Bool} {a b : E} (ha : GE g ct F k a) (hb : GE g ct F k b) : GE g ct F k (.ind n a b) := by
  intro X c W s x h
  unfold cE at h
  split at h
  all_goals first | (cases h; done) | (rename_i e5; cases e5; done) | skip
  rename_i e5
  obtain ⟨rfl, rfl, rfl⟩ := E.ind.inj e5
  simp only [Bool.and_eq_true, decide_eq_true_eq, Bool.not_eq_true'] at h
  obtain ⟨⟨⟨h1, h2⟩, h3⟩, h4⟩ := h
  have e : wInd n (wE F a) (wE F b) = wE F (.ind n a b) := by
    funext p Q E
    simp only [wE]
  rw [← e]
  exact ⟨se_ind x h1 h2 (ha X _ W _ x h3).1 (hb X _ W _ x h4).1, st_ind x h1 h2 (ha X _ W _ x h3).1 (hb X _ W _ x h4).1⟩
theorem ge_dget {a b d : E} (ha : GE g ct F k a) (hb : GE g ct F k b) (hd : GE g ct F k d) : GE g ct F k (.dget a b d) := by
  intro X c W s x h
  unfold cE at h
  split at h
  all_goals first | (cases h; done) | (rename_i e5; cases e5; done) | skip
  rename_i e5
  obtain ⟨rfl, rfl, rfl⟩ := E.dget.inj e5
  simp only [Bool.and_eq_true] at h
  obtain ⟨⟨⟨⟨⟨h1, h2⟩, h3⟩, h4⟩, h5⟩, h6⟩ := h
  have h1 := of_decide_eq_true h1
  refine gp_of ?_ (by intro; rfl)
  refine PE.weak (se_dget x h1 h2 h3 (cE_star h5) (cE_star h6) (ha X _ W _ x h4).1 (hb X _ W _ x h5).1 (hd X _ W _ x h6).1) fun sg H Q h => ?_
  simpa only [wE] using h
theorem ge_dset {a b d : E} (ha : GE g ct F k a) (hb : GE g ct F k b) (hd : GE g ct F k d) : GE g ct F k (.dset a b d) := by
  intro X c W s x h
  unfold cE at h
  split at h
  all_goals first | (cases h; done) | (rename_i e5; cases e5; done) | skip
  rename_i e5
  obtain ⟨rfl, rfl, rfl⟩ := E.dset.inj e5
  simp only [Bool.and_eq_true] at h
  obtain ⟨⟨⟨⟨⟨h1, h2⟩, h3⟩, h4⟩, h5⟩, h6⟩ := h
  have h1 := of_decide_eq_true h1
  refine gp_of ?_ (by intro; rfl)
  refine PE.weak (se_dset x h1 h2 h3 (cE_star h5) (cE_star h6) (ha X _ W _ x h4).1 (hb X _ W _ x h5).1 (hd X _ W _ x h6).1) fun sg H Q h => ?_
  simpa only [wE] using h
theorem ge_attr {a : E} {f : Str} {cs : List Str} (ha : GE g ct F k a) : GE g ct F k (.attr a f cs) := by
  intro X c W s x h
  cases s <;> first | (simp [cE] at h; done) | skip
  simp only [cE, Bool.and_eq_true, List.all_eq_true] at h
  obtain ⟨⟨⟨h1, h2⟩, h3⟩, h4⟩ := h
  have h1 := of_decide_eq_true h1
  subst h1
  exact gp_of (se_attr x h2 h3 (ha X c W _ x h4).1) (by intro; rfl)
theorem ge_mcall {a : E} {m q : Str} {i : Nat} {es : E} (ha : GE g ct F k a) (hl : GL' g ct F k es) : GE g ct F k (.mcall a m q i es) := by
  intro X c W s x h
  unfold cE at h
  split at h
  all_goals first | (cases h; done) | (rename_i e5; cases e5; done) | skip
  rename_i e5
  obtain ⟨rfl, rfl, rfl, rfl, rfl⟩ := E.mcall.inj e5
  simp only [Bool.and_eq_true, decide_eq_true_eq] at h
  obtain ⟨⟨⟨⟨⟨⟨h1, h2⟩, h3⟩, h4⟩, h5⟩, h6⟩, h7⟩ := h
  have h1 := of_decide_eq_true h1
  subst h1
  have hx := (ha X _ W _ x h6).1
  have hst := cL_star h7
  have hl' := hl X _ W _ x h7
  refine gp_of ?_ (by intro; rfl)
  rename_i xs _
  cases xs with
  | nil =>
    cases es <;> first | (simp [cL] at h7; done) | skip
    have := se_mcall0 x h2 h3 h5 hx
    refine PE.weak this fun sg H Q h => ?_
    simpa only [wE, wL] using h
  | cons e0 es0 =>
    have := se_mcall x h2 h3 h4 h5 hst hx hl'
    refine PE.weak this fun sg H Q h => ?_
    simpa only [wE] using h
theorem ge_new {q : Str} {i : Nat} {es : E} (hl : GL' g ct F k es) : GE g ct F k (.new q i es) := by
  intro X c W s x h
  unfold cE at h
  split at h
  all_goals first | (cases h; done) | (rename_i e5; cases e5; done) | skip
  rename_i e5
  obtain ⟨rfl, rfl, rfl⟩ := E.new.inj e5
  simp only [Bool.and_eq_true] at h
  obtain ⟨⟨⟨⟨h1, h2⟩, h3⟩, h4⟩, h5⟩ := h
  have h1 := of_decide_eq_true h1
  refine gp_of ?_ (by intro; rfl)
  refine PE.weak (se_new x h1 h2 h3 h4 (cL_star h5) (hl X _ W _ x h5)) fun sg H Q h => ?_
  simpa only [wE] using h
theorem ge_isc {a : E} {q : Str} (ha : GE g ct F k a) : GE g ct F k (.isc a q) := by
  intro X c W s x h
  unfold cE at h
  split at h
  all_goals first | (cases h; done) | (rename_i e5; cases e5; done) | skip
  rename_i e5
  obtain ⟨rfl, rfl⟩ := E.isc.inj e5
  simp only [Bool.and_eq_true] at h
  obtain ⟨⟨⟨⟨⟨h1, h2⟩, h3⟩, h4⟩, h5⟩, h6⟩ := h
  have h2 := of_decide_eq_true h2
  refine gp_of ?_ (by intro; rfl)
  refine PE.weak (se_isc x h1 h2 h3 h4 h5 (cE_star h6) (ha X _ W _ x h6).1) fun sg H Q h => ?_
  simpa only [wE] using h
theorem ge_dct0 : GE g ct F k .dct0 := by
  intro X c W a x h
  cases a <;> first | (simp [cE] at h; done) | skip
  rename_i ks vs _
  cases ks <;> cases vs <;> first | (simp [cE] at h; done) | skip
  exact gp_of se_dct0 (by intro; rfl)
theorem ge_dct1 {j : Int} {i : Nat} : GE g ct F k (.dct1 j i) := by
  intro X c W a x h
  unfold cE at h
  split at h
  all_goals first | (cases h; done) | (rename_i e5; cases e5; done) | skip
  rename_i e5
  obtain ⟨rfl, rfl⟩ := E.dct1.inj e5
  simp only [Bool.and_eq_true, decide_eq_true_eq] at h
  obtain ⟨⟨⟨rfl, h1⟩, h2⟩, h3⟩ := h
  exact gp_of (se_dct1 x h1 h2 h3) (by intro; rfl)
theorem ge_bin {op : Operator} {m : Bool} {a b : E} (ha : GE g ct F k a) (hb : GE g ct F k b) : GE g ct F k (.bin op m a b) := by
  intro X c W s x h
  cases s <;> first | (simp [cE] at h; done) | skip
  simp only [cE, Bool.and_eq_true, decide_eq_true_eq] at h
  obtain ⟨⟨rfl, h1⟩, h2⟩ := h
  exact gp_of (se_bin op m (ha X c W _ x h1).1 (hb X c W _ x h2).1) (by intro; rfl)
theorem ge_neg {a : E} (ha : GE g ct F k a) : GE g ct F k (.neg a) := by
  intro X c W s x h
  cases s <;> first | (simp [cE] at h; done) | skip
  rename_i op _ _
  cases op <;> first | (simp [cE] at h; done) | skip
  simp only [cE] at h
  exact gp_of (se_neg (ha X c W _ x h).1) (by intro; rfl)
theorem ge_cmp {op : CmpOp} {a b : E} (ha : GE g ct F k a) (hb : GE g ct F k b) : GE g ct F k (.cmp op a b) := by
  intro X c W s x h
  cases s <;> first | (simp [cE] at h; done) | skip
  rename_i y ops ys pos
  match ops, ys, h with
  | [op'], [z], h =>
    simp only [cE, Bool.and_eq_true, decide_eq_true_eq, Bool.not_eq_true'] at h
    obtain ⟨⟨⟨rfl, h1⟩, h2⟩, h3⟩ := h
    exact ⟨se_cmp x op h1 (ha X c W _ x h2).1 (hb X c W _ x h3).1, st_cmp x op h1 (ha X c W _ x h2).1 (hb X c W _ x h3).1⟩
  | [], _, h => simp [cE] at h
  | _ :: _ :: _, _, h => simp [cE] at h
  | [_], [], h => simp [cE] at h
  | [_], _ :: _ :: _, h => simp [cE] at h
theorem ge_chain {op op2 : CmpOp} {a b d : E} (ha : GE g ct F k a) (hb : GE g ct F k b) (hd : GE g ct F k d) : GE g ct F k (.chain op op2 a b d) := by
  intro X c W s x h
  cases s <;> first | (simp [cE] at h; done) | skip
  rename_i y ops ys pos
  match ops, ys, h with
  | [p1, p2], [z, w], h =>
    simp only [cE, Bool.and_eq_true, decide_eq_true_eq, Bool.not_eq_true'] at h
    obtain ⟨⟨⟨⟨⟨rfl, rfl⟩, h1⟩, h2⟩, h3⟩, h4⟩ := h
    exact ⟨se_chain x op op2 h1 (ha X c W _ x h2).1 (hb X c W _ x h3).1 (hd X c W _ x h4).1, st_chain x op op2 h1 (ha X c W _ x h2).1 (hb X c W _ x h3).1 (hd X c W _ x h4).1⟩
  | [], _, h => simp [cE] at h
  | [_], _, h => simp [cE] at h
  | _ :: _ :: _ :: _, _, h => simp [cE] at h
  | [_, _], [], h => simp [cE] at h
  | [_, _], [_], h => simp [cE] at h
  | [_, _], _ :: _ :: _ :: _, h => simp [cE] at h
theorem ge_and {a b : E} (ha : GE g ct F k a) (hb : GAnd g ct F k b) : GE g ct F k (.and a b) := by
  intro X c W s x h
  cases s <;> first | (simp [cE] at h; done) | skip
  rename_i op ys pos
  match op, ys, h with
  | .And, y :: z :: r, h =>
    simp only [cE, Bool.and_eq_true] at h
    exact ⟨se_and (ha X c W _ x h.1).1 (hb X c W _ pos x h.2).1, (sw_and (ha X c W _ x h.1).2 (hb X c W _ pos x h.2).2).pt⟩
  | .Or, _, h => simp [cE] at h
  | .And, [], h => simp [cE] at h
  | .And, [_], h => simp [cE] at h
theorem ge_or {a b : E} (ha : GE g ct F k a) (hb : GOr g ct F k b) : GE g ct F k (.or a b) := by
  intro X c W s x h
  cases s <;> first | (simp [cE] at h; done) | skip
  rename_i op ys pos
  match op, ys, h with
  | .Or, y :: z :: r, h =>
    simp only [cE, Bool.and_eq_true] at h
    exact ⟨se_or (ha X c W _ x h.1).1 (hb X c W _ pos x h.2).1, (sw_or (ha X c W _ x h.1).2 (hb X c W _ pos x h.2).2).pt⟩
  | .And, _, h => simp [cE] at h
  | .Or, [], h => simp [cE] at h
  | .Or, [_], h => simp [cE] at h
theorem gand_one {e : E} (he : GE g ct F k e) {X : Cx} {c : CC} {W : WX} {a : Expr} {pos : Pos} (x : XOk g ct F k X c W) (h : cE g c e a = true) : PE X (.BoolOp .And [a] pos) (tE X.K ct W (wE F e)) ∧ PW X (.BoolOp .And [a] pos) (tB X.K ct W (wE F e)) :=
  ⟨pe_one (he X c W _ x h).1, pw_and1 (he X c W _ x h).2⟩
theorem gor_one {e : E} (he : GE g ct F k e) {X : Cx} {c : CC} {W : WX} {a : Expr} {pos : Pos} (x : XOk g ct F k X c W) (h : cE g c e a = true) : PE X (.BoolOp .Or [a] pos) (tE X.K ct W (wE F e)) ∧ PW X (.BoolOp .Or [a] pos) (tB X.K ct W (wE F e)) :=
  ⟨pe_one (he X c W _ x h).1, pw_or1 (he X c W _ x h).2⟩
theorem gand_and {a b : E} (he : GE g ct F k (.and a b)) (ha : GE g ct F k a) (hb : GAnd g ct F k b) : GAnd g ct F k (.and a b) := by
  intro X c W as pos x h
  match as, h with
  | [a], h => exact gand_one he x (by simpa only [cAnd] using h)
  | y :: z :: r, h =>
    simp only [cAnd, Bool.and_eq_true] at h
    exact ⟨se_and (ha X c W _ x h.1).1 (hb X c W _ pos x h.2).1, sw_and (ha X c W _ x h.1).2 (hb X c W _ pos x h.2).2⟩
  | [], h => simp [cAnd] at h
theorem gor_or {a b : E} (he : GE g ct F k (.or a b)) (ha : GE g ct F k a) (hb : GOr g ct F k b) : GOr g ct F k (.or a b) := by
  intro X c W as pos x h
  match as, h with
  | [a], h => exact gor_one he x (by simpa only [cOr] using h)
  | y :: z :: r, h =>
    simp only [cOr, Bool.and_eq_true] at h
    exact ⟨se_or (ha X c W _ x h.1).1 (hb X c W _ pos x h.2).1, sw_or (ha X c W _ x h.1).2 (hb X c W _ pos x h.2).2⟩
  | [], h => simp [cOr] at h
/-- all other forms: a single part -/
theorem gand_of {e : E} (he : GE g ct F k e) (hn : ∀ c x y r, cAnd g c e (x :: y :: r) = false) (h0 : ∀ c, cAnd g c e [] = false) (h1 : ∀ c x, cAnd g c e [x] = cE g c e x) : GAnd g ct F k e := by
  intro X c W as pos x h
  match as, h with
  | [a], h => exact gand_one he x (by rw [h1] at h; exact h)
  | y :: z :: r, h => rw [hn] at h; cases h
  | [], h => rw [h0] at h; cases h
theorem gor_of {e : E} (he : GE g ct F k e) (hn : ∀ c x y r, cOr g c e (x :: y :: r) = false) (h0 : ∀ c, cOr g c e [] = false) (h1 : ∀ c x, cOr g c e [x] = cE g c e x) : GOr g ct F k e := by
  intro X c W as pos x h
  match as, h with
  | [a], h => exact gor_one he x (by rw [h1] at h; exact h)
  | y :: z :: r, h => rw [hn] at h; cases h
  | [], h => rw [h0] at h; cases h
theorem ge_not {a : E} (ha : GE g ct F k a) : GE g ct F k (.not a) := by
  intro X c W s x h
  cases s <;> first | (simp [cE] at h; done) | skip
  rename_i op _ _
  cases op <;> first | (simp [cE] at h; done) | skip
  simp only [cE] at h
  exact ⟨se_not (ha X c W _ x h).1, st_not (ha X c W _ x h).2⟩
theorem ge_ite {t a b : E} (ht : GE g ct F k t) (ha : GE g ct F k a) (hb : GE g ct F k b) : GE g ct F k (.ite t a b) := by
  intro X c W s x h
  cases s <;> first | (simp [cE] at h; done) | skip
  simp only [cE, Bool.and_eq_true] at h
  obtain ⟨⟨h1, h2⟩, h3⟩ := h
  exact ⟨se_ite (ht X c W _ x h1).2 (ha X c W _ x h2).1 (hb X c W _ x h3).1, st_ite (ht X c W _ x h1).2 (ha X c W _ x h2).2 (hb X c W _ x h3).2⟩
theorem ge_tup {es : E} (he : GL' g ct F k es) : GE g ct F k (.tup es) := by
  intro X c W s x h
  cases s <;> first | (simp [cE] at h; done) | skip
  simp only [cE] at h
  exact gp_of (se_tup (he X c W _ x h)) (by intro; rfl)
theorem ge_lst {m : Bool} {es : E} (he : GL' g ct F k es) : GE g ct F k (.lst m es) := by
  intro X c W s x h
  cases s <;> first | (simp [cE] at h; done) | skip
  simp only [cE] at h
  exact gp_of (se_lst m (he X c W _ x h)) (by intro; rfl)
theorem ge_ix {a b : E} (ha : GE g ct F k a) (hb : GE g ct F k b) : GE g ct F k (.ix a b) := by
  intro X c W s x h
  cases s <;> first | (simp [cE] at h; done) | skip
  simp only [cE, Bool.and_eq_true] at h
  obtain ⟨⟨h1, h2⟩, h3⟩ := h
  exact gp_of (se_ix h1 (ha X c W _ x h2).1 (hb X c W _ x h3).1) (by intro; rfl)
theorem ge_slc {m : Bool} {a lo hi : E} (ha : GE g ct F k a) (hl : GE g ct F k lo) (hh : GE g ct F k hi) : GE g ct F k (.slc m a lo hi) := by
  intro X c W s x h
  cases s <;> first | (simp [cE] at h; done) | skip
  rename_i y sl pos
  cases sl <;> first | (simp [cE] at h; done) | skip
  rename_i l u st p2
  cases st with
  | some _ => simp [cE] at h
  | none =>
    simp only [cE, Bool.and_eq_true] at h
    obtain ⟨⟨h1, h2⟩, h3⟩ := h
    exact gp_of (se_slc m (ha X c W _ x h1).1 (gP hl x h2) (gP hh x h3)) (by intro; rfl)
theorem ge_call {f : Nat} {es : E} (he : GL' g ct F k es) : GE g ct F k (.call f es) := by
  intro X c W s x h
  cases s <;> first | (simp [cE] at h; done) | skip
  rename_i fn as kw pos
  cases fn <;> first | (simp [cE] at h; done) | skip
  match as, kw, h with
  | a :: as, [], h =>
    simp only [cE, Bool.and_eq_true, decide_eq_true_eq] at h
    obtain ⟨⟨⟨h1, h2⟩, h3⟩, h4⟩ := h
    exact gp_of (se_call x h1 h2 h3 (cL_star h4) (he X c W _ x h4)) (by intro; rfl)
  | [], _, h => simp [cE] at h
  | _ :: _, _ :: _, h => simp [cE] at h
theorem ge_blt {f : Blt} {m : Bool} {es : E} (he : GL' g ct F k es) : GE g ct F k (.blt f m es) := by
  intro X c W s x h
  cases s <;> first | (simp [cE] at h; done) | skip
  rename_i fn as kw pos
  cases fn <;> first | (simp [cE] at h; done) | skip
  match as, kw, h with
  | a :: as, [], h =>
    simp only [cE, Bool.and_eq_true] at h
    exact gp_of (se_blt x f m h.1 (cL_star h.2) (he X c W _ x h.2)) (by intro; rfl)
  | [], _, h => simp [cE] at h
  | _ :: _, _ :: _, h => simp [cE] at h
theorem ge_isi {a : E} {ns : List (Str × String)} {t : Bool} (ha : GE g ct F k a) : GE g ct F k (.isi a ns t) := by
  intro X c W s x h
  cases s <;> first | (simp [cE] at h; done) | skip
  rename_i fn as kw pos
  cases fn <;> first | (simp [cE] at h; done) | skip
  match as, kw, h with
  | [y, z], [], h =>
    cases t with
    | true =>
      cases z <;> first | (simp [cE] at h; done) | skip
      simp only [cE, Bool.and_eq_true, decide_eq_true_eq] at h
      obtain ⟨⟨⟨⟨h1, h2⟩, h3⟩, h4⟩, h5⟩ := h
      exact gp_of (se_isiT x h1 h3 h4 h5 (cE_star h2) (ha X c W _ x h2).1) (by intro; rfl)
    | false =>
      cases z <;> first | (simp [cE] at h; done) | skip
      simp only [cE, Bool.and_eq_true, decide_eq_true_eq] at h
      obtain ⟨⟨⟨⟨h1, h2⟩, h3⟩, h4⟩, h5⟩ := h
      match ns, h3 with
      | [(n, ty)], _ =>
        simp only [tyNames, Bool.and_eq_true] at h4
        obtain rfl := of_decide_eq_true h4.1.1
        exact gp_of (se_isi1 x h1 h5 (cE_star h2) (ha X c W _ x h2).1) (by intro; rfl)
  | [], _, h => cases t <;> simp [cE] at h
  | [_], _, h => cases t <;> simp [cE] at h
  | _ :: _ :: _ :: _, _, h => cases t <;> simp [cE] at h
  | [_, z], _ :: _, h => cases t <;> cases z <;> simp [cE] at h
theorem ge_meth {f : Mth} {a es : E} (ha : GE g ct F k a) (he : GL' g ct F k es) : GE g ct F k (.meth f a es) := by
  intro X c W s x h
  cases s <;> first | (simp [cE] at h; done) | skip
  rename_i fn as kw pos
  cases fn <;> first | (simp [cE] at h; done) | skip
  match as, kw, h with
  | y :: ys, [], h =>
    simp only [cE, Bool.and_eq_true, decide_eq_true_eq] at h
    obtain ⟨⟨⟨⟨⟨h1, h2⟩, h3⟩, h4⟩, h5⟩, h6⟩ := h
    exact gp_of (se_meth f (of_decide_eq_true h1) h2 h3 h4 (cL_star h6) (ha X c W _ x h5).1 (he X c W _ x h6)) (by intro; rfl)
  | [], _, h => simp [cE] at h
  | _ :: _, _ :: _, h => simp [cE] at h
/-- what the parts of a comprehension give -/
theorem lc_parts {own : List (Str × Nat)} {tg : T} {it cond elt : E} (hi : GI g ct F k it) (hc : GE g ct F k cond) (he : GE g ct F k elt) {X : Cx} {c : CC} {W : WX} {e t i : Expr} {ifs : List Expr} {scope : Scope} (x : XOk g ct F k X c W)
    (h : (blkC c.N c.sc scope own && notSetB i && cI g c it (isTupT tg) i && cT (blk c scope) tg t && (slotsT tg).all (fun s => (own.map (·.2)).contains s) && cC g (blk c scope) cond ifs && cE g (blk c scope) elt e) = true) :
    BlkOk X.N X.env.scope scope own ∧ (∀ i ∈ slotsT tg, i ∈ own.map (·.2)) ∧ notSetB i = true ∧ PI X t i (tI X.K ct W (wI F it)) ∧ (∀ (s : Shared) (H : Hp) (C : Addr) (cl : List (Str × Addr)) (fp : List Addr), PG (X.blk s H scope (compEnvC scope cl C X.env) fp) t (tT X.K ct tg)) ∧
    (∀ (s : Shared) (H : Hp) (C : Addr) (cl : List (Str × Addr)) (fp : List Addr), PTs (X.blk s H scope (compEnvC scope cl C X.env) fp) ifs (tB X.K ct W0 (wE F cond))) ∧
    ∀ (s : Shared) (H : Hp) (C : Addr) (cl : List (Str × Addr)) (fp : List Addr), PE (X.blk s H scope (compEnvC scope cl C X.env) fp) e (tE X.K ct W0 (wE F elt)) := by
  simp only [Bool.and_eq_true, List.all_eq_true] at h
  obtain ⟨⟨⟨⟨⟨⟨h1, h2⟩, h3⟩, h4⟩, h5⟩, h6⟩, h7⟩ := h
  refine ⟨by rw [x.N, x.sc]; exact blkOk_by h1, fun i hi => by simpa using h5 i hi, h2, hi X c W _ t i x h3 fun hb => ?_, fun s H C cl fp => sT (x.blk s H scope C cl fp) tg t h4, fun s H C cl fp => gC hc (x.blk s H scope C cl fp) h6, fun s H C cl fp => (he _ _ _ _ (x.blk s H scope C cl fp) h7).1⟩
  cases tg <;> first | cases hb | skip
  cases t <;> first | (simp [cT] at h4; done) | exact ⟨_, _, _, rfl⟩
theorem ge_lc {m : Bool} {own : List (Str × Nat)} {tg : T} {it cond elt : E} (hi : GI g ct F k it) (hc : GE g ct F k cond) (he : GE g ct F k elt) : GE g ct F k (.lc m own tg it cond elt) := by
  intro X c W s x h
  cases s <;> first | (simp [cE] at h; done) | skip
  rename_i e gs scope pos
  match gs, h with
  | [⟨t, i, ifs, z⟩], h =>
    simp only [cE] at h
    rw [Bool.and_eq_true, decide_eq_true_eq] at h
    obtain ⟨rfl, h⟩ := h
    obtain ⟨h1, h2, h3, h4, h5, h6, h7⟩ := lc_parts hi hc he x h
    exact gp_of (se_lc m x.calm x.nd h1 h2 h3 h4 h5 h6 h7) (by intro; rfl)
  | [], h => simp [cE] at h
  | _ :: _ :: _, h => simp [cE] at h
theorem ge_lc2 {m : Bool} {own : List (Str × Nat)} {vs1 : List Nat} {tg tg1 : T} {it it1 cond elt : E} (hi : GI g ct F k it) (hi1 : GI g ct F k it1) (hc : GE g ct F k cond) (he : GE g ct F k elt) : GE g ct F k (.lc2 m own vs1 tg it tg1 it1 cond elt) := by
  intro X c W s x h
  cases s <;> first | (simp [cE] at h; done) | skip
  rename_i e gs scope pos
  match gs, h with
  | [⟨t, i, ifs, z⟩, ⟨t1, i1, ifs1, z1⟩], h =>
    simp only [cE] at h
    rw [Bool.and_eq_true, Bool.and_eq_true, Bool.and_eq_true, decide_eq_true_eq, decide_eq_true_eq] at h
    obtain ⟨⟨⟨rfl, rfl⟩, h0⟩, h⟩ := h
    obtain rfl : ifs = [] := by cases ifs with | nil => rfl | cons _ _ => cases h0
    simp only [Bool.and_eq_true, List.all_eq_true] at h
    obtain ⟨⟨⟨⟨⟨⟨⟨⟨⟨⟨⟨h1, h2⟩, h3⟩, h4⟩, h5⟩, h6⟩, h7⟩, h8⟩, h9⟩, h10⟩, h11⟩, h12⟩ := h
    have tup : ∀ {tg : T} {t : Expr} {c : CC}, cT c tg t = true → isTupT tg = true → ∃ el kk pos, t = .Tuple el kk pos := fun {tg t c} h hb => by
      cases tg <;> first | cases hb | skip
      cases t <;> first | (simp [cT] at h; done) | exact ⟨_, _, _, rfl⟩
    refine gp_of (se_lc2 m x.calm x.nd (by rw [x.N, x.sc]; exact blkOk_by h1) (fun j hj => by simpa using h6 j hj) (fun j hj => by simpa using h9 j hj) (fun j hj => by simpa using h10 j hj) h2 h3 (hi X c W _ t i x h4 (tup h5))
      (fun s H C cl fp => sT (x.blk s H scope C cl fp) tg t h5) (fun s H C cl fp => hi1 _ _ _ _ t1 i1 (x.blk s H scope C cl fp) h7 (tup h8)) (fun s H C cl fp => sT (x.blk s H scope C cl fp) tg1 t1 h8)
      (fun s H C cl fp => gC hc (x.blk s H scope C cl fp) h11) (fun s H C cl fp => (he _ _ _ _ (x.blk s H scope C cl fp) h12).1)) (by intro; rfl)
  | [], h => simp [cE] at h
  | [_], h => simp [cE] at h
  | _ :: _ :: _ :: _, h => simp [cE] at h
theorem gl_nil : GL' g ct F k .nil := by
  intro X c W as x h
  cases as with
  | nil => exact sa_nil
  | cons _ _ => simp [cL] at h
theorem gl_cons {a es : E} (ha : GE g ct F k a) (he : GL' g ct F k es) : GL' g ct F k (.cons a es) := by
  intro X c W as x h
  cases as with
  | nil => simp [cL] at h
  | cons b bs =>
    simp only [cL, Bool.and_eq_true] at h
    exact sa_cons (cE_star h.1) (ha X c W _ x h.1).1 (he X c W _ x h.2)
theorem gi_seq {e : E} (he : GE g ct F k e) : GI g ct F k (.seq e) := by
  intro X c W b tg a x h ht
  exact si_seq (he X c W _ x (by cases b <;> simpa [cI] using h)).1
theorem gi_seqd {e : E} (he : GE g ct F k e) : GI g ct F k (.seqd e) := by
  intro X c W b tg a x h ht
  refine PI.weak (si_dct (he X c W _ x (by cases b <;> simpa [cI] using h)).1) fun sg H R h => ?_
  simpa only [wI] using h
theorem gi_rng1 {a : E} (ha : GE g ct F k a) : GI g ct F k (.rng1 a) := by
  intro X c W b tg s x h ht
  cases s <;> first | (simp [cI] at h; done) | skip
  rename_i fn as kw pos
  cases fn <;> first | (simp [cI] at h; done) | skip
  match as, kw, h with
  | [y], [], h =>
    simp only [cI, Bool.and_eq_true] at h
    exact si_rng1 x h.1 (cE_star h.2) (ha X c W _ x h.2).1
  | [], _, h => simp [cI] at h
  | _ :: _ :: _, _, h => simp [cI] at h
  | [_], _ :: _, h => simp [cI] at h
theorem gi_rng2 {a d : E} (ha : GE g ct F k a) (hd : GE g ct F k d) : GI g ct F k (.rng2 a d) := by
  intro X c W b tg s x h ht
  cases s <;> first | (simp [cI] at h; done) | skip
  rename_i fn as kw pos
  cases fn <;> first | (simp [cI] at h; done) | skip
  match as, kw, h with
  | [y, z], [], h =>
    simp only [cI, Bool.and_eq_true] at h
    exact si_rng2 x h.1.1 (cE_star h.1.2) (cE_star h.2) (ha X c W _ x h.1.2).1 (hd X c W _ x h.2).1
  | [], _, h => simp [cI] at h
  | [_], _, h => simp [cI] at h
  | _ :: _ :: _ :: _, _, h => simp [cI] at h
  | [_, _], _ :: _, h => simp [cI] at h
theorem gi_enum {a : E} (ha : GE g ct F k a) : GI g ct F k (.enum a) := by
  intro X c W b tg s x h ht
  cases b with
  | false => simp [cI] at h
  | true =>
    obtain ⟨el, kk, tp, rfl⟩ := ht rfl
    cases s <;> first | (simp [cI] at h; done) | skip
    rename_i fn as kw pos
    cases fn <;> first | (simp [cI] at h; done) | skip
    match as, kw, h with
    | [y], [], h =>
      simp only [cI, Bool.and_eq_true] at h
      exact si_enum x h.1 (cE_star h.2) (ha X c W _ x h.2).1
    | [], _, h => simp [cI] at h
    | _ :: _ :: _, _, h => simp [cI] at h
    | [_], _ :: _, h => simp [cI] at h
theorem gi_zip {a d : E} (ha : GE g ct F k a) (hd : GE g ct F k d) : GI g ct F k (.zip a d) := by
  intro X c W b tg s x h ht
  cases b with
  | false => simp [cI] at h
  | true =>
    obtain ⟨el, kk, tp, rfl⟩ := ht rfl
    cases s <;> first | (simp [cI] at h; done) | skip
    rename_i fn as kw pos
    cases fn <;> first | (simp [cI] at h; done) | skip
    match as, kw, h with
    | [y, z], [], h =>
      simp only [cI, Bool.and_eq_true] at h
      exact si_zip x h.1.1 (cE_star h.1.2) (cE_star h.2) (ha X c W _ x h.1.2).1 (hd X c W _ x h.2).1
    | [], _, h => simp [cI] at h
    | [_], _, h => simp [cI] at h
    | _ :: _ :: _ :: _, _, h => simp [cI] at h
    | [_, _], _ :: _, h => simp [cI] at h
/-- a term with all that is known of it -/
structure All (g : GD) (ct : CTab) (F : FT) (k : Nat) (t : E) : Prop where
  e : GE g ct F k t
  a : GAnd g ct F k t
  o : GOr g ct F k t
  l : GL' g ct F k t
  i : GI g ct F k t
theorem gl_no {e : E} (h : ∀ c as, cL g c e as = false) : GL' g ct F k e := fun X c W as x q => by rw [h] at q; cases q
theorem gi_no {e : E} (h : ∀ c b a, cI g c e b a = false) : GI g ct F k e := fun X c W b tg a x q => by rw [h] at q; cases q
theorem ge_no {e : E} (h : ∀ c a, cE g c e a = false) : GE g ct F k e := fun X c W a x q => by rw [h] at q; cases q
theorem all_e {e : E} (h : GE g ct F k e) (hn : ∀ c x y r, cAnd g c e (x :: y :: r) = false) (h0 : ∀ c, cAnd g c e [] = false) (h1 : ∀ c x, cAnd g c e [x] = cE g c e x)
    (on : ∀ c x y r, cOr g c e (x :: y :: r) = false) (o0 : ∀ c, cOr g c e [] = false) (o1 : ∀ c x, cOr g c e [x] = cE g c e x) (hl : ∀ c as, cL g c e as = false) (hi : ∀ c b a, cI g c e b a = false) : All g ct F k e :=
  ⟨h, gand_of h hn h0 h1, gor_of h on o0 o1, gl_no hl, gi_no hi⟩
theorem sAll : ∀ e : E, All g ct F k e := by
  intro e
  induction e with
  | var i => exact all_e ge_var (by simp [cAnd]) (by simp [cAnd]) (by simp [cAnd]) (by simp [cOr]) (by simp [cOr]) (by simp [cOr]) (by simp [cL]) (by simp [cI])
  | int i => exact all_e ge_int (by simp [cAnd]) (by simp [cAnd]) (by simp [cAnd]) (by simp [cOr]) (by simp [cOr]) (by simp [cOr]) (by simp [cL]) (by simp [cI])
  | bl b => exact all_e ge_bl (by simp [cAnd]) (by simp [cAnd]) (by simp [cAnd]) (by simp [cOr]) (by simp [cOr]) (by simp [cOr]) (by simp [cL]) (by simp [cI])
  | non => exact all_e ge_non (by simp [cAnd]) (by simp [cAnd]) (by simp [cAnd]) (by simp [cOr]) (by simp [cOr]) (by simp [cOr]) (by simp [cL]) (by simp [cI])
  | str x => exact all_e ge_str (by simp [cAnd]) (by simp [cAnd]) (by simp [cAnd]) (by simp [cOr]) (by simp [cOr]) (by simp [cOr]) (by simp [cL]) (by simp [cI])
  | gint x i => exact all_e ge_gint (by simp [cAnd]) (by simp [cAnd]) (by simp [cAnd]) (by simp [cOr]) (by simp [cOr]) (by simp [cOr]) (by simp [cL]) (by simp [cI])
  | gstr x i => exact all_e ge_gstr (by simp [cAnd]) (by simp [cAnd]) (by simp [cAnd]) (by simp [cOr]) (by simp [cOr]) (by simp [cOr]) (by simp [cL]) (by simp [cI])
  | never => exact all_e ge_never (by simp [cAnd]) (by simp [cAnd]) (by simp [cAnd]) (by simp [cOr]) (by simp [cOr]) (by simp [cOr]) (by simp [cL]) (by simp [cI])
  | trg1 t m a ha => exact all_e (ge_trg1 ha.e) (by simp [cAnd]) (by simp [cAnd]) (by simp [cAnd]) (by simp [cOr]) (by simp [cOr]) (by simp [cOr]) (by simp [cL]) (by simp [cI])
  | trg2 t m a b ha hb => exact all_e (ge_trg2 ha.e hb.e) (by simp [cAnd]) (by simp [cAnd]) (by simp [cAnd]) (by simp [cOr]) (by simp [cOr]) (by simp [cOr]) (by simp [cL]) (by simp [cI])
  | dnew => exact all_e ge_dnew (by simp [cAnd]) (by simp [cAnd]) (by simp [cAnd]) (by simp [cOr]) (by simp [cOr]) (by simp [cOr]) (by simp [cL]) (by simp [cI])
  | ixd a b ha hb => exact all_e (ge_ixd ha.e hb.e) (by simp [cAnd]) (by simp [cAnd]) (by simp [cAnd]) (by simp [cOr]) (by simp [cOr]) (by simp [cOr]) (by simp [cL]) (by simp [cI])
  | ind n a b ha hb => exact all_e (ge_ind ha.e hb.e) (by simp [cAnd]) (by simp [cAnd]) (by simp [cAnd]) (by simp [cOr]) (by simp [cOr]) (by simp [cOr]) (by simp [cL]) (by simp [cI])
  | dget a b d ha hb hd => exact all_e (ge_dget ha.e hb.e hd.e) (by simp [cAnd]) (by simp [cAnd]) (by simp [cAnd]) (by simp [cOr]) (by simp [cOr]) (by simp [cOr]) (by simp [cL]) (by simp [cI])
  | dset a b d ha hb hd => exact all_e (ge_dset ha.e hb.e hd.e) (by simp [cAnd]) (by simp [cAnd]) (by simp [cAnd]) (by simp [cOr]) (by simp [cOr]) (by simp [cOr]) (by simp [cL]) (by simp [cI])
  | attr a f cs ha => exact all_e (ge_attr ha.e) (by simp [cAnd]) (by simp [cAnd]) (by simp [cAnd]) (by simp [cOr]) (by simp [cOr]) (by simp [cOr]) (by simp [cL]) (by simp [cI])
  | mcall a m q i es ha he => exact all_e (ge_mcall ha.e he.l) (by simp [cAnd]) (by simp [cAnd]) (by simp [cAnd]) (by simp [cOr]) (by simp [cOr]) (by simp [cOr]) (by simp [cL]) (by simp [cI])
  | new q i es he => exact all_e (ge_new he.l) (by simp [cAnd]) (by simp [cAnd]) (by simp [cAnd]) (by simp [cOr]) (by simp [cOr]) (by simp [cOr]) (by simp [cL]) (by simp [cI])
  | isc a q ha => exact all_e (ge_isc ha.e) (by simp [cAnd]) (by simp [cAnd]) (by simp [cAnd]) (by simp [cOr]) (by simp [cOr]) (by simp [cOr]) (by simp [cL]) (by simp [cI])
  | dct0 => exact all_e ge_dct0 (by simp [cAnd]) (by simp [cAnd]) (by simp [cAnd]) (by simp [cOr]) (by simp [cOr]) (by simp [cOr]) (by simp [cL]) (by simp [cI])
  | dct1 j i => exact all_e ge_dct1 (by simp [cAnd]) (by simp [cAnd]) (by simp [cAnd]) (by simp [cOr]) (by simp [cOr]) (by simp [cOr]) (by simp [cL]) (by simp [cI])
  | gty x n => exact all_e (ge_no (by simp [cE])) (by simp [cAnd]) (by simp [cAnd]) (by simp [cAnd]) (by simp [cOr]) (by simp [cOr]) (by simp [cOr]) (by simp [cL]) (by simp [cI])
  | bin op m a b ha hb => exact all_e (ge_bin ha.e hb.e) (by simp [cAnd]) (by simp [cAnd]) (by simp [cAnd]) (by simp [cOr]) (by simp [cOr]) (by simp [cOr]) (by simp [cL]) (by simp [cI])
  | neg a ha => exact all_e (ge_neg ha.e) (by simp [cAnd]) (by simp [cAnd]) (by simp [cAnd]) (by simp [cOr]) (by simp [cOr]) (by simp [cOr]) (by simp [cL]) (by simp [cI])
  | cmp op a b ha hb => exact all_e (ge_cmp ha.e hb.e) (by simp [cAnd]) (by simp [cAnd]) (by simp [cAnd]) (by simp [cOr]) (by simp [cOr]) (by simp [cOr]) (by simp [cL]) (by simp [cI])
  | chain op op2 a b c ha hb hc => exact all_e (ge_chain ha.e hb.e hc.e) (by simp [cAnd]) (by simp [cAnd]) (by simp [cAnd]) (by simp [cOr]) (by simp [cOr]) (by simp [cOr]) (by simp [cL]) (by simp [cI])
  | and a b ha hb =>
    have h := ge_and ha.e hb.a
    exact ⟨h, gand_and h ha.e hb.a, gor_of h (by simp [cOr]) (by simp [cOr]) (by simp [cOr]), gl_no (by simp [cL]), gi_no (by simp [cI])⟩
  | or a b ha hb =>
    have h := ge_or ha.e hb.o
    exact ⟨h, gand_of h (by simp [cAnd]) (by simp [cAnd]) (by simp [cAnd]), gor_or h ha.e hb.o, gl_no (by simp [cL]), gi_no (by simp [cI])⟩
  | not a ha => exact all_e (ge_not ha.e) (by simp [cAnd]) (by simp [cAnd]) (by simp [cAnd]) (by simp [cOr]) (by simp [cOr]) (by simp [cOr]) (by simp [cL]) (by simp [cI])
  | ite c a b hc ha hb => exact all_e (ge_ite hc.e ha.e hb.e) (by simp [cAnd]) (by simp [cAnd]) (by simp [cAnd]) (by simp [cOr]) (by simp [cOr]) (by simp [cOr]) (by simp [cL]) (by simp [cI])
  | tup es he => exact all_e (ge_tup he.l) (by simp [cAnd]) (by simp [cAnd]) (by simp [cAnd]) (by simp [cOr]) (by simp [cOr]) (by simp [cOr]) (by simp [cL]) (by simp [cI])
  | lst m es he => exact all_e (ge_lst he.l) (by simp [cAnd]) (by simp [cAnd]) (by simp [cAnd]) (by simp [cOr]) (by simp [cOr]) (by simp [cOr]) (by simp [cL]) (by simp [cI])
  | ix a b ha hb => exact all_e (ge_ix ha.e hb.e) (by simp [cAnd]) (by simp [cAnd]) (by simp [cAnd]) (by simp [cOr]) (by simp [cOr]) (by simp [cOr]) (by simp [cL]) (by simp [cI])
  | slc m a lo hi ha hl hh => exact all_e (ge_slc ha.e hl.e hh.e) (by simp [cAnd]) (by simp [cAnd]) (by simp [cAnd]) (by simp [cOr]) (by simp [cOr]) (by simp [cOr]) (by simp [cL]) (by simp [cI])
  | call f es he => exact all_e (ge_call he.l) (by simp [cAnd]) (by simp [cAnd]) (by simp [cAnd]) (by simp [cOr]) (by simp [cOr]) (by simp [cOr]) (by simp [cL]) (by simp [cI])
  | blt f m es he => exact all_e (ge_blt he.l) (by simp [cAnd]) (by simp [cAnd]) (by simp [cAnd]) (by simp [cOr]) (by simp [cOr]) (by simp [cOr]) (by simp [cL]) (by simp [cI])
  | isi a ns t ha => exact all_e (ge_isi ha.e) (by simp [cAnd]) (by simp [cAnd]) (by simp [cAnd]) (by simp [cOr]) (by simp [cOr]) (by simp [cOr]) (by simp [cL]) (by simp [cI])
  | meth f a es ha he => exact all_e (ge_meth ha.e he.l) (by simp [cAnd]) (by simp [cAnd]) (by simp [cAnd]) (by simp [cOr]) (by simp [cOr]) (by simp [cOr]) (by simp [cL]) (by simp [cI])
  | lc m own tg it cond elt hi hc he => exact all_e (ge_lc hi.i hc.e he.e) (by simp [cAnd]) (by simp [cAnd]) (by simp [cAnd]) (by simp [cOr]) (by simp [cOr]) (by simp [cOr]) (by simp [cL]) (by simp [cI])
  | lc2 m own vs1 tg it tg1 it1 cond elt hi hi1 hc he => exact all_e (ge_lc2 hi.i hi1.i hc.e he.e) (by simp [cAnd]) (by simp [cAnd]) (by simp [cAnd]) (by simp [cOr]) (by simp [cOr]) (by simp [cOr]) (by simp [cL]) (by simp [cI])
  | seq e he =>
    have h : GE g ct F k (.seq e) := ge_no (by simp [cE])
    exact ⟨h, gand_of h (by simp [cAnd]) (by simp [cAnd]) (by simp [cAnd]), gor_of h (by simp [cOr]) (by simp [cOr]) (by simp [cOr]), gl_no (by simp [cL]), gi_seq he.e⟩
  | seqd e he =>
    have h : GE g ct F k (.seqd e) := ge_no (by simp [cE])
    exact ⟨h, gand_of h (by simp [cAnd]) (by simp [cAnd]) (by simp [cAnd]), gor_of h (by simp [cOr]) (by simp [cOr]) (by simp [cOr]), gl_no (by simp [cL]), gi_seqd he.e⟩
  | rng1 e he =>
    have h : GE g ct F k (.rng1 e) := ge_no (by simp [cE])
    exact ⟨h, gand_of h (by simp [cAnd]) (by simp [cAnd]) (by simp [cAnd]), gor_of h (by simp [cOr]) (by simp [cOr]) (by simp [cOr]), gl_no (by simp [cL]), gi_rng1 he.e⟩
  | rng2 a b ha hb =>
    have h : GE g ct F k (.rng2 a b) := ge_no (by simp [cE])
    exact ⟨h, gand_of h (by simp [cAnd]) (by simp [cAnd]) (by simp [cAnd]), gor_of h (by simp [cOr]) (by simp [cOr]) (by simp [cOr]), gl_no (by simp [cL]), gi_rng2 ha.e hb.e⟩
  | enum e he =>
    have h : GE g ct F k (.enum e) := ge_no (by simp [cE])
    exact ⟨h, gand_of h (by simp [cAnd]) (by simp [cAnd]) (by simp [cAnd]), gor_of h (by simp [cOr]) (by simp [cOr]) (by simp [cOr]), gl_no (by simp [cL]), gi_enum he.e⟩
  | zip a b ha hb =>
    have h : GE g ct F k (.zip a b) := ge_no (by simp [cE])
    exact ⟨h, gand_of h (by simp [cAnd]) (by simp [cAnd]) (by simp [cAnd]), gor_of h (by simp [cOr]) (by simp [cOr]) (by simp [cOr]), gl_no (by simp [cL]), gi_zip ha.e hb.e⟩
  | nil =>
    have h : GE g ct F k .nil := ge_no (by simp [cE])
    exact ⟨h, gand_of h (by simp [cAnd]) (by simp [cAnd]) (by simp [cAnd]), gor_of h (by simp [cOr]) (by simp [cOr]) (by simp [cOr]), gl_nil, gi_no (by simp [cI])⟩
  | cons a es ha he =>
    have h : GE g ct F k (.cons a es) := ge_no (by simp [cE])
    exact ⟨h, gand_of h (by simp [cAnd]) (by simp [cAnd]) (by simp [cAnd]), gor_of h (by simp [cOr]) (by simp [cOr]) (by simp [cOr]), gl_cons ha.e he.l, gi_no (by simp [cI])⟩
end
end Den

/-! D3g: statements. -/
namespace Den
open PySem PySem.Spec PyProof.Rows L2
/-- what is known behind a statement serves what is wanted -/
structure PostOk (K : PySem.W.Frag) (ct : CTab) (W : WX) (ph : Phi) (H : Hp) (P : Post) (D : Ends) : Prop where
  nx : ∀ p' ph' sg' H', P.nx p' → Ext ph H ph' H' → Rel K ct ph' H' sg' p' → D.nx sg' H'
  rt : ∀ v p' ph' u sg' H', P.rt v p' → Ext ph H ph' H' → Rel K ct ph' H' sg' p' → RV K ph' H' v u → D.rt u H'
  bk : ∀ p' ph' sg' H', P.bk p' → Ext ph H ph' H' → Rel K ct ph' H' sg' p' → D.bk sg' H'
  cn : ∀ p' ph' sg' H', P.ct p' → Ext ph H ph' H' → Rel K ct ph' H' sg' p' → D.ct sg' H'
  ex : ∀ x p' ph' cls d sg' H', P.ex x p' → Ext ph H ph' H' → Rel K ct ph' H' sg' p' → RX K ct ph' H' x cls d → W cls d sg' H'
def tS (K : PySem.W.Frag) (ct : CTab) (W : WX) (w : PSt → Post → Prop) : TS := fun D sg H => ∃ ph p P, Rel K ct ph H sg p ∧ w p P ∧ PostOk K ct W ph H P D
section
variable {g : GD} {ct : CTab} {F : FT} {k : Nat} {X : Cx} {c : CC} {W : WX} {K : PySem.W.Frag} {ph ph' : Phi} {H H' : Hp} {P : Post} {D : Ends} {sg : L2.St} {p : PSt}
theorem PostOk.ext (h : PostOk K ct W ph H P D) (e : Ext ph H ph' H') : PostOk K ct W ph' H' P D :=
  ⟨fun p' _ sg' _ q e' r => h.nx p' _ sg' _ q (e.trans e') r, fun v p' _ u sg' _ q e' r rv => h.rt v p' _ u sg' _ q (e.trans e') r rv, fun p' _ sg' _ q e' r => h.bk p' _ sg' _ q (e.trans e') r,
    fun p' _ sg' _ q e' r => h.cn p' _ sg' _ q (e.trans e') r, fun x p' _ cls d sg' _ q e' r rx => h.ex x p' _ cls d sg' _ q (e.trans e') r rx⟩
/-- an expression, then more -/
theorem tE_then {w : WA PV} {Q0 : QV} {Q : VK} (rel : Rel K ct ph H sg p) (hw : w p Q0 P.ex) (ok : PostOk K ct W ph H P D) (hQ : ∀ x p' ph' v H', Q0 x p' → Ext ph H ph' H' → Rel K ct ph' H' sg p' → RV K ph' H' x v → Q v H') : tE K ct W w sg H Q :=
  ⟨ph, p, rel, Q0, P.ex, hw, hQ, fun x p' ph' cls d sg' H' q e r rx => ok.ex x p' ph' cls d sg' H' q e r rx⟩
theorem tB_then {w : WA PV} {Q0 : Bool → PSt → Prop} {Q : Bool → Hp → Prop} (rel : Rel K ct ph H sg p) (hw : w p (fun x p1 => ∃ k, x = .bl k ∧ Q0 k p1) P.ex) (ok : PostOk K ct W ph H P D) (hQ : ∀ k p' ph' H', Q0 k p' → Ext ph H ph' H' → Rel K ct ph' H' sg p' → Q k H') : tB K ct W w sg H Q :=
  ⟨ph, p, rel, Q0, P.ex, hw, fun k p' ph' b H' q e r hb => by subst hb; exact hQ k p' ph' H' q e r, fun x p' ph' cls d sg' H' q e r rx => ok.ex x p' ph' cls d sg' H' q e r rx⟩
theorem noLc_none {a : Expr} {l : Nat} {env : Env} (h : noLcB a = true) : swapsWith a none l env = pure false := by
  cases a <;> first | rfl | cases h
theorem noLc_some {a t : Expr} {l : Nat} {env : Env} (h : noLcB a = true) : swapsWith a (some t) l env = pure false := by
  cases a <;> first | rfl | cases h
theorem noLc_sole {a t : Expr} {l : Nat} {env : Env} (h : noLcB a = true) : swapsWithSole [t] a l env = pure false := noLc_some h
abbrev GS (g : GD) (ct : CTab) (F : FT) (k : Nat) (t : S) : Prop := ∀ (X : Cx) (c : CC) (W : WX) (a : Stmt), X.env.scope.kind = .function → XOk g ct F k X c W → cS g c t a = true → PS X a (tS X.K ct W (wS F t))
abbrev GSs (g : GD) (ct : CTab) (F : FT) (k : Nat) (t : S) : Prop := ∀ (X : Cx) (c : CC) (W : WX) (as : List Stmt), X.env.scope.kind = .function → XOk g ct F k X c W → cSs g c t as = true → PSs X as (tS X.K ct W (wS F t))
theorem gs_expr {e : E} : GS g ct F k (.expr e) := by
  intro X c W a hf x h
  cases a <;> first | (simp [cS] at h; done) | skip
  simp only [cS, Bool.and_eq_true] at h
  refine PS.weak (ps_expr ((sAll e).e X c W _ x h.2).1 (noLc_none h.1)) fun D sg H ⟨ph, p, P, rel, hw, ok⟩ => ?_
  exact tE_then rel hw ok fun _ p' ph' v H' q e r _ => ok.nx p' ph' sg H' q e r
theorem gs_ret {e : E} : GS g ct F k (.ret e) := by
  intro X c W a hf x h
  cases a <;> first | (simp [cS] at h; done) | skip
  rename_i v pos
  cases v <;> first | (simp [cS] at h; done) | skip
  simp only [cS] at h
  refine PS.weak (ps_ret ((sAll e).e X c W _ x h).1) fun D sg H ⟨ph, p, P, rel, hw, ok⟩ => ?_
  exact tE_then rel hw ok fun v p' ph' u H' q e r rv => ok.rt v p' ph' u sg H' q e r rv
theorem gs_retN : GS g ct F k .retN := by
  intro X c W a hf x h
  cases a <;> first | (simp [cS] at h; done) | skip
  rename_i v pos
  cases v <;> first | (simp [cS] at h; done) | skip
  exact PS.weak ps_retN fun D sg H ⟨ph, p, P, rel, hw, ok⟩ => ok.rt _ p ph _ sg H hw Ext.refl rel RV.of_non
/-- behind a target -/
theorem tT_then {t : T} {v : V} {y : PV} (rel : Rel K ct ph H sg p) (rx : RV K ph H y v) (hw : wT t y p P.nx) (ok : PostOk K ct W ph H P D) : tT K ct t v sg H D.nx :=
  ⟨ph, p, y, P.nx, rel, rx, hw, fun p' sg' q r _ => ok.nx p' ph sg' H q Ext.refl r⟩
theorem gName_then {i : Nat} {v : V} {y : PV} (rel : Rel K ct ph H sg p) (rx : RV K ph H y v) (hw : wT (.name i) y p P.nx) (ok : PostOk K ct W ph H P D) : gName i v sg H D.nx := by
  simp only [wT] at hw
  exact ok.nx _ ph _ H hw.2 Ext.refl ⟨rel.e.set hw.1 rx, rel.s⟩
theorem asgB_inv {t : T} {ts : List Expr} {v : Expr} (h : asgB c t ts v = true) : (∃ i n np, t = .name i ∧ ts = [.Name n np] ∧ nameB c i n np v = true) ∨
    ∃ us es kk tp, t = .tup us ∧ ts = [.Tuple es kk tp] ∧ (noLcB v && cTs c us es && noSwapB c es v) = true := by
  unfold asgB at h
  split at h
  · exact .inl ⟨_, _, _, rfl, rfl, h⟩
  · exact .inr ⟨_, _, _, _, rfl, rfl, h⟩
  · cases h
theorem fm_short {α β : Type} {f : α → Option β} : ∀ {l : List α}, (∃ a ∈ l, f a = none) → (l.filterMap f).length < l.length
  | [], ⟨_, h, _⟩ => by cases h
  | a :: l, h => by
    have le := List.length_filterMap_le f l
    rw [List.filterMap_cons]
    cases e : f a with
    | none => exact Nat.lt_succ_of_le le
    | some b =>
      obtain ⟨x, hx, hn⟩ := h
      rcases List.mem_cons.mp hx with z | z
      · subst z; rw [e] at hn; cases hn
      · have q := fm_short (l := l) ⟨x, z, hn⟩
        exact Nat.succ_lt_succ q
/-- how the walk of a tuple's stores is chosen -/
theorem noSwap_of {es : List Expr} {v : Expr} {kk : Nat} {tp : Pos} (hf : X.env.scope.kind = .function) (hs : X.env.scope = c.sc) (h : noSwapB c es v = true) : swappedStores [.Tuple es kk tp] v X.env = pure none := by
  cases v <;> try rfl
  rename_i vs k2 p2
  unfold noSwapB at h
  simp only [Bool.or_eq_true] at h
  unfold swappedStores
  simp only
  split
  · rfl
  · rename_i h1
    have h2 : es.any (fun | .Name x _ => !lclB c.sc x | _ => true) = true := by
      rcases h with h | h
      · simp only [Bool.or_eq_true, not_or] at h1
        rcases h with h | h
        · exact absurd h h1.1.1
        · exact absurd h h1.1.2
      · exact h
    split
    · rfl
    · have h4 : ∀ f : Expr → Option Str, (∀ e x, f e = some x → ∃ q, e = .Name x q ∧ X.env.kindOf x = some .local) → (es.filterMap f).length < es.length := fun f hf => by
        refine fm_short ?_
        obtain ⟨a, ha, hb⟩ := List.any_eq_true.mp h2
        refine ⟨a, ha, ?_⟩
        cases e : f a with
        | none => rfl
        | some x =>
          obtain ⟨q, rfl, hk⟩ := hf a x e
          have z' : X.env.scope.names.lookup x = some .local := hk
          rw [hs] at z'
          simp [lclB, z'] at hb
      split
      · rfl
      · rename_i h6
        exfalso
        apply h6
        rw [Bool.or_eq_true]
        refine .inl ?_
        rw [bne_iff_ne]
        refine Nat.ne_of_lt (h4 _ fun e x q => ?_)
        cases e <;> first | (cases q; done) | skip
        rename_i id pos
        simp only at q
        split at q
        · rename_i hq
          cases q
          rw [Bool.and_eq_true] at hq
          exact ⟨_, rfl, by simpa using hq.1⟩
        · cases q
theorem cellB_of {sc : Scope} {x : Str} (h : cellB sc x = true) : sc.names.lookup x = some .cell := by
  unfold cellB at h
  split at h
  · assumption
  · cases h
theorem gs_asg {t : T} {e : E} : GS g ct F k (.asg t e) := by
  intro X c W a hf x h
  cases a <;> first | (simp [cS] at h; done) | skip
  rename_i ts v sp
  simp only [cS, Bool.and_eq_true] at h
  obtain ⟨hv, h⟩ := h
  rcases asgB_inv h with ⟨i, n, np, rfl, rfl, hb⟩ | ⟨us, es, kk, tp, rfl, rfl, hb⟩
  · unfold nameB at hb
    simp only [Bool.and_eq_true, decide_eq_true_eq, Bool.or_eq_true] at hb
    obtain ⟨⟨⟨h1, h2⟩, h3⟩, h4⟩ := hb
    have hff : X.fn n = true ∨ X.env.scope.names.lookup n = some .local := by
      rw [x.fn, x.sc]
      exact h3.imp id lclB_of
    by_cases hlc : noLcB v = true
    · refine PS.weak (ps_set x.nd (i := i) (by rw [x.N]; exact h1) (by rw [x.sc]; exact locB_of h2) ((sAll e).e X c W _ x hv).1 (noLc_some hlc) hff) fun D sg H ⟨ph, p, P, rel, hw, ok⟩ => ?_
      simp only [wS] at hw
      exact tE_then rel hw ok fun y p' ph' u H' q e r rv => gName_then r rv q (ok.ext e)
    · cases v <;> first | exact absurd rfl hlc | skip
      · rename_i el gs scope pos
        rw [Bool.or_eq_true] at h4
        rcases h4 with h4 | h4
        · have hk : X.env.scope.names.lookup n = some .cell := by
            rw [x.sc]
            exact cellB_of h4
          have hsw : swapsWith (.ListComp el gs scope pos) (some (.Name n np)) sp.line X.env = pure false := by
            show (pure (X.env.blockKind == .function && X.env.kindOf n == some .local && np.line == pos.line && !(scope.names.any fun (m, k) => m == n && (k == .local || k == .cell))) : Sem Bool) = _
            have : X.env.kindOf n = some .cell := hk
            have e0 : (NameKind.cell == NameKind.local) = false := by decide
            have e1 : (some NameKind.cell == some NameKind.local) = false := by decide
            rw [this, e1, Bool.and_false, Bool.false_and, Bool.false_and]
          refine PS.weak (ps_set x.nd (i := i) (by rw [x.N]; exact h1) (by rw [x.sc]; exact locB_of h2) ((sAll e).e X c W _ x hv).1 hsw hff) fun D sg H ⟨ph, p, P, rel, hw, ok⟩ => ?_
          simp only [wS] at hw
          exact tE_then rel hw ok fun y p' ph' u H' q e r rv => gName_then r rv q (ok.ext e)
        simp only [Bool.and_eq_true, Bool.not_eq_true', decide_eq_true_eq] at h4
        obtain ⟨⟨⟨h0, h5⟩, h6⟩, h7⟩ := h4
        match gs, hv with
        | [⟨t, it, ifs, z⟩], hv =>
          cases e <;> first | (simp [cE, nvB] at hv; done) | skip
          rename_i m own tg ie cond elt _
          simp only [cE] at hv
          rw [Bool.and_eq_true, decide_eq_true_eq] at hv
          obtain ⟨rfl, hv⟩ := hv
          obtain ⟨k1, k2, k3, k4, k5, k6, k7⟩ := lc_parts (sAll ie).i (sAll cond).e (sAll elt).e x hv
          refine PS.weak (ss_lc m (j := i) x.calm x.nd (by rw [x.N]; exact h1) (by rw [x.sc]; exact lclB_of h5) hf h6 h7 k1 k2 k3 k4 k5 k6 k7) fun D sg H ⟨ph, p, P, rel, hw, ok⟩ => ?_
          simp only [wS] at hw
          exact tE_then (w := wE F (.lc m own tg ie cond elt)) rel hw ok fun y p' ph' u H' q e r rv => gName_then r rv q (ok.ext e)
        | [], hv => simp at h0
        | _ :: _ :: _, hv => simp at h0
      · cases h4
      · cases h4
  · simp only [Bool.and_eq_true] at hb
    obtain ⟨⟨h1, h2⟩, h3⟩ := hb
    refine PS.weak (ps_asg ((sAll e).e X c W _ x hv).1 (sT x (.tup us) _ (by simpa [cT] using h2)) (noLc_sole h1) (noSwap_of hf x.sc h3) (by rfl)) fun D sg H ⟨ph, p, P, rel, hw, ok⟩ => ?_
    simp only [wS] at hw
    exact tE_then rel hw ok fun y p' ph' u H' q e r rv => tT_then r rv q (ok.ext e)
end
end Den

/-! D3h: the other statements; all statements. -/
namespace Den
open PySem PySem.Spec PyProof.Rows L2
section
variable {g : GD} {ct : CTab} {F : FT} {k : Nat} {X : Cx} {c : CC} {W : WX} {K : PySem.W.Frag} {ph ph' : Phi} {H H' : Hp} {P : Post} {D : Ends} {sg : L2.St} {p : PSt}
/-! ### x, y = a, b -/
theorem parB_swapped {x y : Str} {px py pt p2 : Pos} {kt k2 : Nat} {u v : Expr} (hf : X.env.scope.kind = .function) (hs : X.env.scope = c.sc) (h : parB c x y px py u v = true) :
    swappedStores [.Tuple [.Name x px, .Name y py] kt pt] (.Tuple [u, v] k2 p2) X.env = pure (some [x, y]) := by
  unfold parB at h
  simp only [Bool.and_eq_true, Bool.not_eq_true'] at h
  obtain ⟨⟨⟨⟨⟨⟨⟨h1, h2⟩, h3⟩, h4⟩, h5⟩, h6⟩, h7⟩, h8⟩ := h
  have l1 : (X.env.kindOf x == some .local) = true := by
    have := lclB_of h1
    show (X.env.scope.names.lookup x == some .local) = true
    rw [hs, this]; rfl
  have l2 : (X.env.kindOf y == some .local) = true := by
    have := lclB_of h2
    show (X.env.scope.names.lookup y == some .local) = true
    rw [hs, this]; rfl
  have l3 : (py.line == px.line) = true := by
    have : px.line = py.line := by simpa using h3
    simp [this]
  have hne : x ≠ y := by simpa [isNm] using h4
  have hk : X.env.blockKind = .function := by unfold Env.blockKind; rw [hf]; rfl
  have s1 : ∀ e : Expr, parB.notStarB e = true → (match e with | .Starred .. => true | _ => false) = false := fun e h => by
    cases e <;> first | rfl | cases h
  have k1 : X.env.kindOf x = some .local := by simpa using l1
  have k2 : X.env.kindOf y = some .local := by simpa using l2
  have m1 : px.line = (Expr.Name x px).pos.line := rfl
  have m2 : py.line = (Expr.Name x px).pos.line := by
    have q : py.line = px.line := by simpa using l3
    exact q
  have ed : [x, y].eraseDups = [x, y] := by
    have q : (y == x) = false := by simpa using fun z => hne z.symm
    simp [List.eraseDups, List.eraseDupsBy, List.eraseDupsBy.loop, q]
  unfold swappedStores
  simp [hk, h7, h8, List.filterMap_cons, k1, k2, m1, m2, ed]
  rintro (z | z)
  · exact absurd ((s1 u h5).symm.trans z) Bool.false_ne_true
  · exact absurd ((s1 v h6).symm.trans z) Bool.false_ne_true
theorem parV_inv {ts : List Expr} {v : Expr} {r} (h : parV ts v = some r) : ∃ x px y py kt pt a b k2 p2, ts = [.Tuple [.Name x px, .Name y py] kt pt] ∧ v = .Tuple [a, b] k2 p2 ∧ r = (x, px, y, py, a, b) := by
  unfold parV at h
  split at h
  · cases h; exact ⟨_, _, _, _, _, _, _, _, _, _, rfl, rfl, rfl⟩
  · cases h
theorem gs_par {i j : Nat} {a b : E} : GS g ct F k (.par i j a b) := by
  intro X c W st hf x h
  cases st <;> first | (simp [cS] at h; done) | skip
  rename_i ts v sp
  simp only [cS] at h
  cases hp : parV ts v with
  | none => rw [hp] at h; cases h
  | some r =>
    obtain ⟨n, px, m, py, kt, pt, u, v', k2, p2, rfl, rfl, rfl⟩ := parV_inv hp
    rw [hp] at h
    simp only [Bool.and_eq_true, decide_eq_true_eq] at h
    obtain ⟨⟨⟨⟨⟨h1, h2⟩, h3⟩, h4⟩, h5⟩, h6⟩ := h
    have h4' := h4
    unfold parB at h4'
    simp only [Bool.and_eq_true, Bool.not_eq_true'] at h4'
    have hl : PA X [u, v'] (tA X.K ct W (wL F (.cons a (.cons b .nil)))) := gl_cons (sAll a).e (gl_cons (sAll b).e gl_nil) X c W _ x (by simp [cL, h5, h6])
    refine PS.weak (ps_par x.calm x.nd (by rw [x.N]; exact h1) (by rw [x.N]; exact h2) h3 (by rw [x.sc]; exact lclB_of h4'.1.1.1.1.1.1.1) (by rw [x.sc]; exact lclB_of h4'.1.1.1.1.1.1.2) hl (parB_swapped hf x.sc h4)) fun D sg H ⟨ph, p, P, rel, hw, ok⟩ => ?_
    simp only [wS] at hw
    refine ⟨ph, p, rel, fun xs p2 => match xs with
      | [v, u] => i < p2.env.length ∧ j < p2.env.length ∧ P.nx { p2 with env := (p2.env.set i (some v)).set j (some u) }
      | _ => False, P.ex, ?_, fun xs p' ph' vs H' q e r rv => ?_, fun x p' ph' cls d sg' H' q e r rx => ok.ex x p' ph' cls d sg' H' q e r rx⟩
    · simp only [wL]
      exact hw
    · match xs, q, rv with
      | [v, u], ⟨q1, q2, q3⟩, rv =>
      obtain ⟨w1, w2, rfl, r1, r2⟩ := rv.inv2
      exact ⟨w1, w2, rfl, ok.nx _ ph' _ H' q3 e ⟨(r.e.set q1 r1).set (by rw [List.length_set]; exact q2) r2, r.s⟩⟩
/-! ### o[i] = .. -/
theorem subV_inv {ts : List Expr} {r} (h : subV ts = some r) : ∃ x y p, ts = [.Subscript x y p] ∧ r = (x, y) := by
  unfold subV at h
  split at h
  · cases h; exact ⟨_, _, _, rfl, rfl⟩
  · cases h
theorem gs_setix {o i e : E} : GS g ct F k (.setix o i e) := by
  intro X c W st hf x h
  cases st <;> first | (simp [cS] at h; done) | skip
  rename_i ts v sp
  simp only [cS] at h
  cases hp : subV ts with
  | none => rw [hp] at h; cases h
  | some r =>
      obtain ⟨ex, ey, ep, rfl, rfl⟩ := subV_inv hp
      rw [hp] at h
      simp only [Bool.and_eq_true] at h
      obtain ⟨⟨⟨⟨h1, h2⟩, h3⟩, h4⟩, h5⟩ := h
      have hsub : ∀ u, assign (.Subscript ex ey ep) X.env u = (do
          let ov ← holding [u] (eval ex X.env)
          let iv ← holding [u, ov] (eval ey X.env)
          standAt ep
          holding [u, ov, iv] (setItem ov iv u)
          release [u, ov, iv] []) := by
        intro u
        cases ey <;> first | rfl | cases h1
      refine PS.weak (ps_asg ((sAll e).e X c W _ x h3).1 (pg_sub ((sAll o).e X c W _ x h4).1 ((sAll i).e X c W _ x h5).1 set_list hsub) (noLc_sole h2) (by cases v <;> rfl) (by rfl)) fun D sg H ⟨ph, p, P, rel, hw, ok⟩ => ?_
      simp only [wS] at hw
      refine tE_then rel hw ok fun z p1 ph1 u H1 q1 e1 r1 rz => ?_
      refine tE_then r1 q1 (ok.ext e1) fun ov p2 ph2 w H2 q2 e2 r2 ro => ?_
      refine tE_then r2 q2 (ok.ext (e1.trans e2)) fun iv p3 ph3 t H3 q3 e3 r3 ri => ?_
      obtain ⟨n, xs, kk, j, rfl, rfl, hn, hj, q⟩ := q3
      obtain ⟨a, vs, ha, hH, rv⟩ := r3.s.atL hn
      have ro3 := RV.mono e3 r2.s.apart _ _ ro
      have rz3 := RV.mono (e2.trans e3) r1.s.apart _ _ rz
      have hw' : w = .ref a := by
        unfold RV at ro3
        obtain ⟨a', h', e'⟩ := ro3
        rw [ha] at e'
        cases e'
        exact h'
      refine ⟨a, vs, kk, j, hw', ri.int_inv, hH, by rw [rv.length]; exact hj, ?_⟩
      have hl : n < p3.st.length := (List.getElem?_eq_some_iff.mp hn).1
      have hs' := r3.s.setL hl ha hH (rv.set j rz3)
      have ew : Ext ph3 H3 ph3 (upd H3 a (.lst (vs.set j u))) := Ext.write (List.mem_iff_getElem?.mpr ⟨n, ha⟩)
      exact ok.nx _ ph3 _ _ q (e1.trans (e2.trans (e3.trans ew))) ⟨r3.e.mono ew r3.s.apart, hs'⟩
theorem gs_setd {o i e : E} : GS g ct F k (.setd o i e) := by
  intro X c W st hf x h
  cases st <;> first | (simp [cS] at h; done) | skip
  rename_i ts v sp
  simp only [cS] at h
  cases hp : subV ts with
  | none => rw [hp] at h; cases h
  | some r =>
      obtain ⟨ex, ey, ep, rfl, rfl⟩ := subV_inv hp
      rw [hp] at h
      simp only [Bool.and_eq_true] at h
      obtain ⟨⟨⟨⟨h1, h2⟩, h3⟩, h4⟩, h5⟩ := h
      have hsub : ∀ u, assign (.Subscript ex ey ep) X.env u = (do
          let ov ← holding [u] (eval ex X.env)
          let iv ← holding [u, ov] (eval ey X.env)
          standAt ep
          holding [u, ov, iv] (setItem ov iv u)
          release [u, ov, iv] []) := by
        intro u
        cases ey <;> first | rfl | cases h1
      refine PS.weak (ps_asg ((sAll e).e X c W _ x h3).1 (pg_sub ((sAll o).e X c W _ x h4).1 ((sAll i).e X c W _ x h5).1 (set_dct x.units x.hw) hsub) (noLc_sole h2) (by cases v <;> rfl) (by rfl)) fun D sg H ⟨ph, p, P, rel, hw, ok⟩ => ?_
      simp only [wS] at hw
      refine tE_then rel hw ok fun z p1 ph1 u H1 q1 e1 r1 rz => ?_
      refine tE_then r1 q1 (ok.ext e1) fun ov p2 ph2 w H2 q2 e2 r2 ro => ?_
      refine tE_then r2 q2 (ok.ext (e1.trans e2)) fun iv p3 ph3 t H3 q3 e3 r3 ri => ?_
      obtain ⟨n, es, gg, kk, a', hs, b', hn, ⟨hl0, q⟩, hw', hu, ha, hH, hf, hy, hdp, ry', hk⟩ := dKey_at r3 (RV.mono e3 r2.s.apart _ _ ro) ri q3
      have rz3 := RV.mono (e2.trans e3) r1.s.apart _ _ rz
      refine ⟨a', gg, hs, kk, b', hw', hu, hH, hf.key, hk, by rw [hf.len, sizeLine_eq]; exact hl0, fun g' => ?_⟩
      have hl : n < p3.st.length := (List.getElem?_eq_some_iff.mp hn).1
      have ew : Ext ph3 H3 ph3 (upd H3 a' (DctO ct.hw a' g' (putE hs kk b' u))) := Ext.write (List.mem_iff_getElem?.mpr ⟨n, ha⟩)
      exact ok.nx _ ph3 _ _ (q g') (e1.trans (e2.trans (e3.trans ew))) ⟨r3.e.mono ew r3.s.apart, r3.s.setD hl ha hH (hf.put hy hdp ry' rz3)⟩
/-! ### o.f = .. -/
theorem atV_inv {ts : List Expr} {r} (h : atV ts = some r) : ∃ x n p, ts = [.Attribute x n p] ∧ r = (x, n) := by
  unfold atV at h
  split at h
  · cases h; exact ⟨_, _, _, rfl, rfl⟩
  · cases h
theorem gs_setat {o : E} {f : Str} {cs : List Str} {e : E} : GS g ct F k (.setat o f cs e) := by
  intro X c W st hf x h
  cases st <;> first | (simp [cS] at h; done) | skip
  rename_i ts v sp
  simp only [cS] at h
  cases hp : atV ts with
  | none => rw [hp] at h; cases h
  | some r =>
    obtain ⟨ex, nm, ep, rfl, rfl⟩ := atV_inv hp
    rw [hp] at h
    simp only [Bool.and_eq_true, List.all_eq_true] at h
    obtain ⟨⟨⟨⟨h1, h2⟩, h3⟩, h4⟩, h5⟩ := h
    have h1 := of_decide_eq_true h1
    subst h1
    refine PS.weak (ps_fld ((sAll o).e X c W _ x h5).1 ((sAll e).e X c W _ x h4).1 (noLc_some h2)) fun D sg H ⟨ph, p, P, rel, hw, ok⟩ => ?_
    simp only [wS] at hw
    refine tE_then rel hw ok fun z p1 ph1 u H1 q1 e1 r1 rz => ?_
    refine tE_then r1 q1 (ok.ext e1) fun ov p2 ph2 w H2 q2 e2 r2 ro => ?_
    obtain ⟨n, q, fs, rfl, hn, hc, hlen, hq⟩ := q2
    obtain ⟨a, C, dx, hs, rfl, ha, hct, hH, hd, hk, hv⟩ := insOf_at r2 ro hn
    have rz2 := RV.mono e2 r1.s.apart _ _ rz
    obtain ⟨k1, k2⟩ := put_at (f := nm) rz2 hk hv
    have hl : hs.length < 1000 := by
      have := congrArg List.length hk
      simp at this
      omega
    refine ⟨a, C, dx, hs, rfl, hH, x.gok.kin _ _ hct, x.gok.att _ _ (pairIn_mem (h3 q hc)) C hct, hl, ?_⟩
    have ew : Ext ph2 H2 ph2 (upd H2 a (.ins C dx (putF nm u hs))) := Ext.write (List.mem_iff_getElem?.mpr ⟨n, ha⟩)
    exact ok.nx _ ph2 _ _ hq (e1.trans (e2.trans ew)) ⟨r2.e.mono ew r2.s.apart, r2.s.setI (fs0 := fs) (List.getElem?_eq_some_iff.mp hn).1 ha hct hH hd k1 k2⟩
/-! ### x, y, z = a, b, c -/
theorem par3V_inv {ts : List Expr} {v : Expr} {r} (h : par3V ts v = some r) : ∃ x px y py z pz kt pt a b d k2 p2, ts = [.Tuple [.Name x px, .Name y py, .Name z pz] kt pt] ∧ v = .Tuple [a, b, d] k2 p2 ∧ r = (x, px, y, py, z, pz, a, b, d) := by
  unfold par3V at h
  split at h
  · cases h; exact ⟨_, _, _, _, _, _, _, _, _, _, _, _, _, rfl, rfl, rfl⟩
  · cases h
theorem par3B_swapped {x y z : Str} {px py pz pt p2 : Pos} {kt k2 : Nat} {u v w : Expr} (hf : X.env.scope.kind = .function) (hs : X.env.scope = c.sc) (h : par3B c x y z px py pz u v w = true) :
    swappedStores [.Tuple [.Name x px, .Name y py, .Name z pz] kt pt] (.Tuple [u, v, w] k2 p2) X.env = pure (some [x, y, z]) := by
  unfold par3B at h
  simp only [Bool.and_eq_true, Bool.not_eq_true'] at h
  obtain ⟨⟨⟨⟨⟨⟨⟨⟨⟨⟨⟨⟨h1, h2⟩, h3⟩, h4⟩, h5⟩, h6⟩, h7⟩, h8⟩, n1⟩, n2⟩, n3⟩, h9⟩, h10⟩ := h
  have kl : ∀ {s : Str}, lclB c.sc s = true → X.env.kindOf s = some .local := fun {s} h => by
    show X.env.scope.names.lookup s = some .local
    rw [hs]; exact lclB_of h
  have k1 := kl h1
  have k2' := kl h2
  have k3 := kl h3
  have l1 : px.line = py.line := by simpa using h4
  have l2 : px.line = pz.line := by simpa using h5
  have hxy : x ≠ y := by simpa [isNm] using h6
  have hxz : x ≠ z := by simpa [isNm] using h7
  have hyz : y ≠ z := by simpa [isNm] using h8
  have hk : X.env.blockKind = .function := by unfold Env.blockKind; rw [hf]; rfl
  have s1 : ∀ e : Expr, nsB e = true → (match e with | .Starred .. => true | _ => false) = false := fun e h => by
    cases e <;> first | rfl | cases h
  have m1 : px.line = (Expr.Name x px).pos.line := rfl
  have m2 : py.line = (Expr.Name x px).pos.line := l1.symm
  have m3 : pz.line = (Expr.Name x px).pos.line := l2.symm
  have ed : [x, y, z].eraseDups = [x, y, z] := by
    have q1 : (y == x) = false := by simpa using fun e => hxy e.symm
    have q2 : (z == x) = false := by simpa using fun e => hxz e.symm
    have q3 : (z == y) = false := by simpa using fun e => hyz e.symm
    simp [List.eraseDups, List.eraseDupsBy, List.eraseDupsBy.loop, q1, q2, q3]
  unfold swappedStores
  simp [hk, h9, h10, List.filterMap_cons, k1, k2', k3, m1, m2, m3, ed]
  rintro (z | z | z)
  · exact absurd ((s1 u n1).symm.trans z) Bool.false_ne_true
  · exact absurd ((s1 v n2).symm.trans z) Bool.false_ne_true
  · exact absurd ((s1 w n3).symm.trans z) Bool.false_ne_true
theorem gs_par3 {i j l : Nat} {a b d : E} : GS g ct F k (.par3 i j l a b d) := by
  intro X c W st hf x h
  cases st <;> first | (simp [cS] at h; done) | skip
  rename_i ts v sp
  simp only [cS] at h
  cases hp : par3V ts v with
  | none => rw [hp] at h; cases h
  | some r =>
    obtain ⟨n, px, m, py, o, pz, kt, pt, u, v', w', k2, p2, rfl, rfl, rfl⟩ := par3V_inv hp
    rw [hp] at h
    simp only [Bool.and_eq_true, decide_eq_true_eq] at h
    obtain ⟨⟨⟨⟨⟨⟨⟨⟨⟨h1, h2⟩, h3⟩, h4⟩, h5⟩, h6⟩, h7⟩, h8⟩, h9⟩, h10⟩ := h
    have h7' := h7
    unfold par3B at h7'
    simp only [Bool.and_eq_true, Bool.not_eq_true'] at h7'
    obtain ⟨⟨⟨⟨⟨⟨⟨⟨⟨⟨⟨⟨y1, y2⟩, y3⟩, _⟩, _⟩, _⟩, _⟩, _⟩, _⟩, _⟩, _⟩, _⟩, _⟩ := h7'
    have hl : PA X [u, v', w'] (tA X.K ct W (wL F (.cons a (.cons b (.cons d .nil))))) := gl_cons (sAll a).e (gl_cons (sAll b).e (gl_cons (sAll d).e gl_nil)) X c W _ x (by simp [cL, h8, h9, h10])
    refine PS.weak (ps_par3 x.calm x.nd (by rw [x.N]; exact h1) (by rw [x.N]; exact h2) (by rw [x.N]; exact h3) h4 h5 h6 (by rw [x.sc]; exact lclB_of y1) (by rw [x.sc]; exact lclB_of y2) (by rw [x.sc]; exact lclB_of y3) hl (par3B_swapped hf x.sc h7)) fun D sg H ⟨ph, p, P, rel, hw, ok⟩ => ?_
    simp only [wS] at hw
    refine ⟨ph, p, rel, fun xs p2 => match xs with
      | [v, u, w] => i < p2.env.length ∧ j < p2.env.length ∧ l < p2.env.length ∧ P.nx { p2 with env := ((p2.env.set i (some v)).set j (some u)).set l (some w) }
      | _ => False, P.ex, ?_, fun xs p' ph' vs H' q e r rv => ?_, fun x p' ph' cls d sg' H' q e r rx => ok.ex x p' ph' cls d sg' H' q e r rx⟩
    · simp only [wL]
      exact hw
    · match xs, q, rv with
      | [v, u, w], ⟨q1, q2, q3, q4⟩, rv =>
      obtain ⟨w1, us, rfl, r1, rv⟩ := rv.cons_inv
      obtain ⟨w2, w3, rfl, r2, r3⟩ := rv.inv2
      exact ⟨w1, w2, w3, rfl, ok.nx _ ph' _ H' q4 e ⟨((r.e.set q1 r1).set (by rw [List.length_set]; exact q2) r2).set (by rw [List.length_set, List.length_set]; exact q3) r3, r.s⟩⟩
/-! ### name op= e -/
def rIp : Operator → TIp
  | .Add => fun x y H Q => ipI (fun i j => i + j) x y H Q ∨ ∃ i j, x = .str i ∧ y = .str j ∧ i.length + j.length ≤ sizeLine ∧ Q (.str (i ++ j)) H
  | .Sub => ipI fun i j => i - j
  | _ => fun _ _ _ _ => False
theorem ip_all (op : Operator) : PIp X op (rIp op) := by
  cases op <;> first
    | exact ip_sub
    | (intro pins s sg H x y v u Q I r1 r2 h
       rcases h with h | h
       · exact ip_add pins s sg H x y v u Q I r1 r2 h
       · exact iop_add_str pins s sg H x y v u Q I r1 r2 h)
    | (intro pins s sg H x y v u Q I r1 r2 h; exact h.elim)
theorem gs_aug {i : Nat} {op : Operator} {e : E} : GS g ct F k (.aug i op e) := by
  intro X c W st hf x h
  cases st <;> first | (simp [cS] at h; done) | skip
  rename_i tg op' v sp
  cases tg <;> first | (simp [cS] at h; done) | skip
  rename_i n np
  simp only [cS, Bool.and_eq_true, decide_eq_true_eq, Bool.or_eq_true] at h
  obtain ⟨⟨⟨⟨rfl, h1⟩, h2⟩, h3⟩, h4⟩ := h
  have hff : X.fn n = true ∨ X.env.scope.names.lookup n = some .local := by
    rw [x.fn, x.sc]
    exact h3.imp id lclB_of
  refine PS.weak (ps_aug x.nd (i := i) (by rw [x.N]; exact h1) (by rw [x.sc]; exact locB_of h2) ((sAll e).e X c W _ x h4).1 (ip_all op) hff) fun D sg H ⟨ph, p, P, rel, hw, ok⟩ => ?_
  simp only [wS] at hw
  obtain ⟨y, hy, hw⟩ := hw
  obtain ⟨u, hu, ru⟩ := rel.e.val i y hy
  refine ⟨u, hu, tE_then rel hw ok fun z p1 ph1 w H1 q e1 r1 rz => ?_⟩
  have ru1 := RV.mono e1 rel.s.apart _ _ ru
  have hi : i < p1.env.length := by
    rw [r1.e.len, ← rel.e.len]
    exact (List.getElem?_eq_some_iff.mp hy).1
  have go : ∀ (t : PV) (tv : V), RV X.K ph1 H1 t tv → P.nx { p1 with env := p1.env.set i (some t) } → D.nx (sg.set i (some tv)) H1 := fun t tv rt q => ok.nx _ ph1 _ H1 q e1 ⟨r1.e.set hi rt, r1.s⟩
  unfold augV at q
  split at q
  · rw [ru1.int_inv, rz.int_inv]
    rcases q with ⟨rfl, q⟩ | ⟨rfl, q⟩
    · exact .inl ⟨_, _, rfl, rfl, go _ _ RV.of_int q⟩
    · exact ⟨_, _, rfl, rfl, go _ _ RV.of_int q⟩
  · obtain ⟨rfl, hz, q⟩ := q
    rw [ru1.str_inv, rz.str_inv]
    exact .inr ⟨_, _, rfl, rfl, szOk_line hz, go _ _ RV.of_str q⟩
  · exact q.elim
/-! ### blocks -/
theorem gs_ite {t : E} {a b : S} (ha : GSs g ct F k a) (hb : GSs g ct F k b) : GS g ct F k (.ite t a b) := by
  intro X c W st hf x h
  cases st <;> first | (simp [cS] at h; done) | skip
  simp only [cS, Bool.and_eq_true] at h
  refine PS.weak (ps_if ((sAll t).e X c W _ x h.1.1).2 (ha X c W _ hf x h.1.2) (hb X c W _ hf x h.2)) fun D sg H ⟨ph, p, P, rel, hw, ok⟩ => ?_
  simp only [wS] at hw
  refine tB_then (Q0 := fun k p1 => if k = true then wS F a p1 P else wS F b p1 P) rel hw ok fun kk p1 ph1 H1 q e1 r1 => ?_
  cases kk with
  | true => exact ⟨ph1, p1, P, r1, q, ok.ext e1⟩
  | false => exact ⟨ph1, p1, P, r1, q, ok.ext e1⟩
theorem gss_nop : GSs g ct F k .nop := by
  intro X c W as hf x h
  cases as with
  | nil => exact PSs.weak pss_nil fun D sg H ⟨ph, p, P, rel, hw, ok⟩ => ok.nx p ph sg H (by simpa only [wS] using hw) Ext.refl rel
  | cons _ _ => simp [cSs] at h
theorem gss_seq {a b : S} (ha : GS g ct F k a) (hb : GSs g ct F k b) : GSs g ct F k (.seq a b) := by
  intro X c W as hf x h
  cases as with
  | nil => simp [cSs] at h
  | cons st as =>
    simp only [cSs, Bool.and_eq_true] at h
    refine PSs.weak (pss_cons (ha X c W _ hf x h.1) (hb X c W _ hf x h.2)) fun D sg H ⟨ph, p, P, rel, hw, ok⟩ => ?_
    simp only [wS] at hw
    exact ⟨ph, p, _, rel, hw, ⟨fun p' ph' sg' H' q e r => ⟨ph', p', P, r, q, ok.ext e⟩, ok.rt, ok.bk, ok.cn, ok.ex⟩⟩
theorem gs_no {s : S} (h : ∀ c a, cS g c s a = false) : GS g ct F k s := fun X c W a hf x q => by rw [h] at q; cases q
theorem gss_no {s : S} (h : ∀ c a, cSs g c s a = false) : GSs g ct F k s := fun X c W a hf x q => by rw [h] at q; cases q
theorem gs_brk : GS g ct F k .brk := by
  intro X c W st hf x h
  cases st <;> first | (simp [cS] at h; done) | skip
  exact PS.weak ps_break fun D sg H ⟨ph, p, P, rel, hw, ok⟩ => ok.bk p ph sg H (by simpa only [wS] using hw) Ext.refl rel
theorem gs_cnt : GS g ct F k .cnt := by
  intro X c W st hf x h
  cases st <;> first | (simp [cS] at h; done) | skip
  exact PS.weak ps_continue fun D sg H ⟨ph, p, P, rel, hw, ok⟩ => ok.cn p ph sg H (by simpa only [wS] using hw) Ext.refl rel
theorem gs_nop : GS g ct F k .nop := by
  intro X c W st hf x h
  cases st <;> first | (simp [cS] at h; done) | skip
  exact PS.weak ps_pass fun D sg H ⟨ph, p, P, rel, hw, ok⟩ => ok.nx p ph sg H (by simpa only [wS] using hw) Ext.refl rel
theorem gs_stuck : GS g ct F k .stuck := fun X c W st hf x h => ⟨fun _ _ _ _ _ _ ⟨_, _, _, _, hw, _⟩ => (by simpa only [wS] using hw : False).elim⟩
theorem gs_while {t : E} {b : S} (hb : GSs g ct F k b) : GS g ct F k (.while t b) := by
  intro X c W st hf x h
  cases st <;> first | (simp [cS] at h; done) | skip
  rename_i cc body els sp
  simp only [cS, Bool.and_eq_true] at h
  obtain ⟨⟨h1, h2⟩, h3⟩ := h
  obtain rfl : els = [] := by cases els with | nil => rfl | cons _ _ => cases h1
  refine PS.weak (ps_while x.po ((sAll t).e X c W _ x h2).2 (hb X c W _ hf x h3)) fun D sg H ⟨ph, p, P, rel, hw, ok⟩ => ?_
  simp only [wS] at hw
  obtain ⟨I, ⟨m0, i0⟩, step⟩ := hw
  refine ⟨fun m sg1 H1 => ∃ ph1 p1, Ext ph H ph1 H1 ∧ Rel X.K ct ph1 H1 sg1 p1 ∧ I m p1, ⟨m0, ph, p, Ext.refl, rel, i0⟩, ?_⟩
  rintro m sg1 H1 ⟨ph1, p1, e1, r1, i1⟩
  refine tB_then (Q0 := fun kk p2 => if kk = true then wS F b p2 { nx := fun p' => ∃ m', m' < m ∧ I m' p', ct := fun p' => ∃ m', m' < m ∧ I m' p', bk := P.nx, rt := P.rt, ex := P.ex } else P.nx p2) r1 (step m p1 i1) (ok.ext e1) fun kk p2 ph2 H2 q e2 r2 => ?_
  have e12 := e1.trans e2
  cases kk with
  | true =>
    refine ⟨fun sg' H' => ∃ m', m' < m ∧ ∃ ph1 p1, Ext ph H ph1 H' ∧ Rel X.K ct ph1 H' sg' p1 ∧ I m' p1, fun _ _ h => h, ph2, p2, _, r2, q, ?_⟩
    have ok2 := ok.ext e12
    exact ⟨fun p' ph' sg' H' ⟨m', l, i'⟩ e r => ⟨m', l, ph', p', e12.trans e, r, i'⟩, ok2.rt, ok2.nx, fun p' ph' sg' H' ⟨m', l, i'⟩ e r => ⟨m', l, ph', p', e12.trans e, r, i'⟩, ok2.ex⟩
  | false => exact ok.nx p2 ph2 sg1 H2 q e12 r2
theorem forLoop_stay {turn : PV → PSt → Post → Prop} {stay : PSt → Prop} {P : Post} : ∀ {xs : List PV} {p : PSt}, forLoop turn stay xs p P → stay p
  | [], _, h => h.1
  | _ :: _, _, h => h.1
theorem gs_for {t : T} {it : E} {b : S} (hb : GSs g ct F k b) : GS g ct F k (.for t it b) := by
  intro X c W st hf x h
  cases st <;> first | (simp [cS] at h; done) | skip
  rename_i tg i body els sp
  simp only [cS, Bool.and_eq_true] at h
  obtain ⟨⟨⟨⟨h1, h2⟩, h3⟩, h4⟩, h5⟩ := h
  obtain rfl : els = [] := by cases els with | nil => rfl | cons _ _ => cases h1
  have htup : isTupT t = true → ∃ el kk pos, tg = .Tuple el kk pos := fun z => by
    cases t <;> first | cases z | skip
    cases tg <;> first | (simp [cT] at h3; done) | exact ⟨_, _, _, rfl⟩
  refine PS.weak (ps_for x.po x.calm ((sAll it).i X c W _ tg _ x h4 htup) (sT x t tg h3) (hb X c W _ hf x h5) (by intro z; cases i <;> first | rfl | cases h2)) fun D sg H ⟨ph, p, P, rel, hw, ok⟩ => ?_
  simp only [wS] at hw
  refine ⟨ph, p, _, _, rel, hw, fun xs stay p1 ph1 J H1 q ext rel1 wok => ?_, fun x p' ph' cls d sg' H' q e r rx => ok.ex x p' ph' cls d sg' H' q e r rx⟩
  obtain ⟨G, Y, wk, good, item⟩ := wok.walk
  refine for_it wk (fun i sg2 H2 => ∃ ph2 p2, Ext ph1 H1 ph2 H2 ∧ Rel X.K ct ph2 H2 sg2 p2 ∧ forLoop (fun x p2 D' => wT t x p2 fun p3 => wS F b p3 D') stay (xs.drop i) p2 P) ⟨ph1, p1, Ext.refl, rel1, by rw [List.drop_zero]; exact q⟩ ?_ ?_ ?_
  · rintro i sg2 H2 hi ⟨ph2, p2, e2, r2, hl⟩
    exact good ph2 H2 p2 e2.toW r2.s (forLoop_stay hl)
  · rintro i v sg2 H2 H3 hi ⟨ph2, p2, e2, r2, hl⟩ y
    have hdr : xs.drop i = xs[i] :: xs.drop (i + 1) := List.drop_eq_getElem_cons hi
    rw [hdr] at hl
    obtain ⟨hs, hl⟩ := hl
    obtain ⟨e3, r3, z, hz, rz⟩ := item i H2 v H3 ph2 p2 hi e2.toW r2.s hs y
    obtain rfl : xs[i] = z := by
      rw [List.getElem?_eq_getElem hi] at hz
      exact Option.some.inj hz
    have rel3 : Rel X.K ct ph2 H3 sg2 p2 := ⟨r2.e.mono e3 r2.s.apart, r3⟩
    have e13 := e2.trans e3
    refine ⟨ph2, p2, _, _, rel3, rz, hl, fun p3 sg3 hl rel4 wp => ⟨ph2, p3, _, rel4, hl, ?_⟩⟩
    have ok2 := ok.ext (ext.trans e13)
    exact ⟨fun p' ph' sg' H' q e r => ⟨ph', p', e13.trans e, r, q⟩, ok2.rt, ok2.nx, fun p' ph' sg' H' q e r => ⟨ph', p', e13.trans e, r, q⟩, ok2.ex⟩
  · rintro sg2 H2 ⟨ph2, p2, e2, r2, hl⟩
    rw [List.drop_length] at hl
    exact ok.nx p2 ph2 sg2 H2 hl.2 (ext.trans e2) r2
theorem sAllS : ∀ s : S, GS g ct F k s ∧ GSs g ct F k s := by
  intro s
  induction s with
  | nop => exact ⟨gs_nop, gss_nop⟩
  | seq a b ha hb => exact ⟨gs_no (by simp [cS]), gss_seq ha.1 hb.2⟩
  | expr e => exact ⟨gs_expr, gss_no (by simp [cSs])⟩
  | ret e => exact ⟨gs_ret, gss_no (by simp [cSs])⟩
  | retN => exact ⟨gs_retN, gss_no (by simp [cSs])⟩
  | asg t e => exact ⟨gs_asg, gss_no (by simp [cSs])⟩
  | par i j a b => exact ⟨gs_par, gss_no (by simp [cSs])⟩
  | setix o i e => exact ⟨gs_setix, gss_no (by simp [cSs])⟩
  | setd o i e => exact ⟨gs_setd, gss_no (by simp [cSs])⟩
  | setat o f cs e => exact ⟨gs_setat, gss_no (by simp [cSs])⟩
  | par3 i j l a b d => exact ⟨gs_par3, gss_no (by simp [cSs])⟩
  | aug i op e => exact ⟨gs_aug, gss_no (by simp [cSs])⟩
  | ite t a b ha hb => exact ⟨gs_ite ha.2 hb.2, gss_no (by simp [cSs])⟩
  | «for» t it b hb => exact ⟨gs_for hb.2, gss_no (by simp [cSs])⟩
  | «while» t b hb => exact ⟨gs_while hb.2, gss_no (by simp [cSs])⟩
  | brk => exact ⟨gs_brk, gss_no (by simp [cSs])⟩
  | cnt => exact ⟨gs_cnt, gss_no (by simp [cSs])⟩
  | stuck => exact ⟨gs_stuck, gss_no (by simp [cSs])⟩
end
end Den

/-! D4: defs, the table, the law's end. -/
namespace Den
open PySem PySem.Spec PyProof.Rows L2
mutual
def refsLt (n : Nat) : PV → Prop
  | .ref k => k < n
  | .tup xs => refsLts n xs
  | .lst xs => refsLts n xs
  | .lck xs => refsLts n xs
  | .non => True
  | .bl _ => True
  | .int _ => True
  | .str _ => True
  | .ty _ => True
  | .dct => True
def refsLts (n : Nat) : List PV → Prop
  | [] => True
  | x :: xs => refsLt n x ∧ refsLts n xs
end
section
variable {g : GD} {ct : CTab} {F : FT} {k : Nat} {K : PySem.W.Frag} {ph ph' : Phi} {H H' : Hp} {S S' : Store}
mutual
theorem RV.lt : ∀ (x : PV) (v : V), RV K ph H x v → refsLt ph.ad.length x
  | .non, _, _ => by simp [refsLt]
  | .bl _, _, _ => by simp [refsLt]
  | .int _, _, _ => by simp [refsLt]
  | .str _, _, _ => by simp [refsLt]
  | .ty _, _, _ => by simp [refsLt]
  | .dct, _, _ => by simp [refsLt]
  | .tup xs, v, h => by
    unfold RV at h
    obtain ⟨a, vs, e1, h1, h2⟩ := h
    simpa only [refsLt] using RVs.lt xs vs h2
  | .lst xs, v, h => by
    unfold RV at h
    obtain ⟨a, vs, e1, h1, h3, h2⟩ := h
    simpa only [refsLt] using RVs.lt xs vs h2
  | .lck xs, v, h => by
    unfold RV at h
    obtain ⟨a, vs, e1, h1, h2⟩ := h
    simpa only [refsLt] using RVs.lt xs vs h2
  | .ref n, v, h => by
    unfold RV at h
    obtain ⟨a, e, h⟩ := h
    simpa only [refsLt] using (List.getElem?_eq_some_iff.mp h).1
theorem RVs.lt : ∀ (xs : List PV) (vs : List V), RVs K ph H xs vs → refsLts ph.ad.length xs
  | [], _, _ => by simp [refsLts]
  | x :: xs, vs, h => by
    obtain ⟨v, r, e, h1, h2⟩ := h.cons_inv
    simp only [refsLts]
    exact ⟨RV.lt x v h1, RVs.lt xs r h2⟩
end
mutual
theorem RV.back (e : Ext ph H ph' H') : ∀ (x : PV) (v : V), refsLt ph.ad.length x → RV K ph' H' x v → RV K ph H' x v
  | .non, _, _, h => by simpa [RV] using h
  | .bl _, _, _, h => by simpa [RV] using h
  | .int _, _, _, h => by simpa [RV] using h
  | .str _, _, _, h => by simpa [RV] using h
  | .ty _, _, _, h => by simpa [RV] using h
  | .dct, v, l, h => by
    unfold RV at h ⊢
    obtain ⟨a, kvs, e1, h1, h3⟩ := h
    exact ⟨a, kvs, e1, h1, offBack e h3⟩
  | .tup xs, v, l, h => by
    simp only [refsLt] at l
    unfold RV at h ⊢
    obtain ⟨a, vs, e1, h1, h2⟩ := h
    exact ⟨a, vs, e1, h1, RVs.back e xs vs l h2⟩
  | .lst xs, v, l, h => by
    simp only [refsLt] at l
    unfold RV at h ⊢
    obtain ⟨a, vs, e1, h1, h3, h2⟩ := h
    exact ⟨a, vs, e1, h1, offBack e h3, RVs.back e xs vs l h2⟩
  | .lck xs, v, l, h => by
    simp only [refsLt] at l
    unfold RV at h ⊢
    obtain ⟨a, vs, e1, h1, h2⟩ := h
    refine ⟨a, vs, e1, ?_, RVs.back e xs vs l h2⟩
    rcases h1 with ⟨h1, h3⟩ | h1
    · exact .inl ⟨h1, offBack e h3⟩
    · exact .inr h1
  | .ref n, v, l, h => by
    simp only [refsLt] at l
    unfold RV at h ⊢
    obtain ⟨a, e1, h1⟩ := h
    refine ⟨a, e1, ?_⟩
    obtain ⟨m, e2, _⟩ := e.more
    rw [e2, List.getElem?_append_left l] at h1
    exact h1
theorem RVs.back (e : Ext ph H ph' H') : ∀ (xs : List PV) (vs : List V), refsLts ph.ad.length xs → RVs K ph' H' xs vs → RVs K ph H' xs vs
  | [], _, _, h => by
    rw [h.nil_inv]
    exact RVs.nil
  | x :: xs, vs, l, h => by
    simp only [refsLts] at l
    obtain ⟨v, r, e1, h1, h2⟩ := h.cons_inv
    rw [e1]
    exact RVs.cons (RV.back e x v l.1 h1) (RVs.back e xs r l.2 h2)
theorem offBack (e : Ext ph H ph' H') {a : Addr} (h : ph'.off a) : ph.off a := by
  obtain ⟨m, e1, _⟩ := e.more
  obtain ⟨m', e2, _⟩ := e.hid
  exact ⟨fun z => h.1 (by rw [e1]; exact List.mem_append_left _ z), fun z => h.2 (by rw [e2]; exact List.mem_append_right _ z)⟩
end
theorem refsLts_iff {n : Nat} : ∀ {xs : List PV}, refsLts n xs ↔ ∀ x ∈ xs, refsLt n x
  | [] => by simp [refsLts]
  | x :: xs => by simp [refsLts, refsLts_iff (n := n) (xs := xs)]
theorem Pure.lt {n : Nat} {x : PV} (h : Pure x) : refsLt n x := by
  induction h with
  | non => simp [refsLt]
  | bl => simp [refsLt]
  | int => simp [refsLt]
  | str => simp [refsLt]
  | ty => simp [refsLt]
  | dct => simp [refsLt]
  | tup _ ih => simp only [refsLt]; exact refsLts_iff.mpr ih
  | lst _ ih => simp only [refsLt]; exact refsLts_iff.mpr ih
  | lck _ ih => simp only [refsLt]; exact refsLts_iff.mpr ih
/-- an object's values know only the first n objects -/
def soLt (n : Nat) : SO → Prop
  | .lst xs => refsLts n xs
  | .ins _ fs => refsLts n (fs.map (·.2))
  | .dct es _ => refsLts n (es.map (·.1)) ∧ refsLts n (es.map (·.2))
theorem PureO.lt {n : Nat} {o : SO} (h : PureO o) : soLt n o := by
  cases h with
  | lst h => exact refsLts_iff.mpr fun x hx => (h x hx).lt
  | ins h =>
    refine refsLts_iff.mpr fun x hx => ?_
    obtain ⟨p, hp, rfl⟩ := List.mem_map.mp hx
    exact (h p hp).lt
  | dct h =>
    refine ⟨refsLts_iff.mpr fun x hx => ?_, refsLts_iff.mpr fun x hx => ?_⟩
    · obtain ⟨p, hp, rfl⟩ := List.mem_map.mp hx
      exact (h p hp).1.lt
    · obtain ⟨p, hp, rfl⟩ := List.mem_map.mp hx
      exact (h p hp).2.lt
theorem RO.lt {o : SO} {a : Addr} (r : RO K ct ph H o a) : soLt ph.ad.length o := by
  cases o with
  | lst xs =>
    obtain ⟨vs, _, h⟩ := r
    exact RVs.lt _ _ h
  | ins c fs =>
    obtain ⟨C, dx, hs, _, _, _, _, h⟩ := r
    exact RVs.lt _ _ h
  | dct es g =>
    obtain ⟨hs, _, _, _, h1, h2⟩ := r
    exact ⟨RVs.lt _ _ h1, RVs.lt _ _ h2⟩
theorem RO.back (e : Ext ph H ph' H') {o : SO} {a : Addr} (l : soLt ph.ad.length o) (r : RO K ct ph' H' o a) : RO K ct ph H' o a := by
  cases o with
  | lst xs =>
    obtain ⟨vs, h1, h2⟩ := r
    exact ⟨vs, h1, RVs.back e _ _ l h2⟩
  | ins c fs =>
    obtain ⟨C, dx, hs, h0, h1, h3, h4, h2⟩ := r
    exact ⟨C, dx, hs, h0, h1, h3, h4, RVs.back e _ _ l h2⟩
  | dct es g =>
    obtain ⟨hs, h1, h2, h3, h4, h5⟩ := r
    exact ⟨hs, h1, h2, h3, RVs.back e _ _ l.1 h4, RVs.back e _ _ l.2 h5⟩
/-- what a def made is forgotten -/
theorem RelS.forget (r : RelS K ct ph H S) (e : Ext ph H ph' H') (r' : RelS K ct ph' H' S') {S'' ext : Store} (h1 : S' = S'' ++ ext) (h2 : S''.length = S.length) (h3 : ∀ (i : Nat) o, S''[i]? = some o → S[i]? = some o ∨ PureO o) :
    RelS K ct ph H' S'' ∧ Ext ph H ph H' := by
  refine ⟨⟨by rw [r.len, h2], r.nd, fun a ha => ?_, fun i o hi => ?_⟩, ⟨[], by simp, by simp⟩, ⟨[], rfl, by simp⟩, e.keep, e.dom⟩
  · obtain ⟨n1, vs, n2⟩ := r.hid a ha
    exact ⟨n1, vs, e.keep _ _ n2 n1⟩
  · have hl : i < S''.length := (List.getElem?_eq_some_iff.mp hi).1
    have hi' : S'[i]? = some o := by rw [h1, List.getElem?_append_left hl]; exact hi
    obtain ⟨a, q1, q2⟩ := r'.obj i o hi'
    obtain ⟨m, e2, _⟩ := e.more
    have hl2 : i < ph.ad.length := by rw [r.len, ← h2]; exact hl
    refine ⟨a, ?_, q2.back e ?_⟩
    · rw [e2, List.getElem?_append_left hl2] at q1
      exact q1
    · rcases h3 i o hi with z | z
      · obtain ⟨b, _, q4⟩ := r.obj i o z
        exact q4.lt
      · exact z.lt
theorem clean_ok {v : PV} {u : V} {Q0 : PV → Store → Prop} {Q : VK} (r : RelS K ct ph H S) (c : Clean S S' v Q0) (e : Ext ph H ph' H') (r' : RelS K ct ph' H' S') (rv : RV K ph' H' v u)
    (hQ : ∀ v S' ph' u H', Q0 v S' → Ext ph H ph' H' → RelS K ct ph' H' S' → RV K ph' H' v u → Q u H') : Q u H' := by
  rcases c with q | ⟨S'', ext, v', h1, h2, h3, h4, o, q⟩
  · exact hQ _ _ _ _ _ q e r' rv
  · obtain ⟨f1, f2⟩ := r.forget e r' h1 h2 h3
    refine hQ _ _ _ _ _ q f2 f1 ?_
    rcases o with ⟨p, rfl⟩ | ⟨i, xs, rfl, hi, p, rfl⟩
    · exact RV.back e _ _ p.lt rv
    · obtain ⟨a, vs, q1, q2, q3⟩ := r'.atL hi
      unfold RV at rv
      obtain ⟨a', e1, e2⟩ := rv
      rw [q1] at e2; cases e2
      have hge := h4 i rfl
      unfold RV
      refine ⟨a, vs, e1, q2, ⟨fun z => ?_, fun z => ?_⟩, RVs.back e _ _ (refsLts_iff.mpr fun x hx => (p x hx).lt) q3⟩
      · obtain ⟨j, hj⟩ := List.mem_iff_getElem?.mp z
        have hj' := e.mem hj
        obtain ⟨l1, g1⟩ := List.getElem?_eq_some_iff.mp hj'
        obtain ⟨l2, g2⟩ := List.getElem?_eq_some_iff.mp q1
        have : j = i := (List.getElem_inj r'.nd).mp (g1.trans g2.symm)
        have hl := (List.getElem?_eq_some_iff.mp hj).1
        rw [r.len] at hl
        omega
      · obtain ⟨m, e2, _⟩ := e.hid
        exact (r'.hid a (by rw [e2]; exact List.mem_append_right _ z)).1 (List.mem_iff_getElem?.mpr ⟨i, q1⟩)
theorem cleanX_ok {x : PX} {cls : Value} {d : Option Addr} {X0 : PX → Store → Prop} {E : XK} (r : RelS K ct ph H S) (c : CleanX S S' x X0) (e : Ext ph H ph' H') (r' : RelS K ct ph' H' S') (rx : RX K ct ph' H' x cls d)
    (hX : ∀ x S' ph' cls d H', X0 x S' → Ext ph H ph' H' → RelS K ct ph' H' S' → RX K ct ph' H' x cls d → E cls d H') : E cls d H' := by
  rcases c with q | ⟨S'', ext, h1, h2, h3, p, q⟩
  · exact hX _ _ _ _ _ _ q e r' rx
  · obtain ⟨f1, f2⟩ := r.forget e r' h1 h2 h3
    refine hX _ _ _ _ _ _ q f2 f1 ?_
    obtain ⟨C, k1, k2, k3⟩ := rx
    refine ⟨C, k1, k2, ?_⟩
    rcases k3 with k3 | ⟨dd, hs, k3, k4, k5, k6⟩
    · exact .inl k3
    · refine .inr ⟨dd, hs, k3, k4, k5, RVs.back e _ _ (refsLts_iff.mpr fun y hy => ?_) k6⟩
      obtain ⟨z, hz, rfl⟩ := List.mem_map.mp hy
      exact (p z hz).lt
/-- the slots at a def's start -/
theorem start_rel {N : List Str} {xs : List PV} {vs : List V} {n : Nat} (r : RVs K ph H xs vs) (hn : n = N.length) : RelE K ph H (xs.map some ++ List.replicate (n - xs.length) none) (L2.start N vs) := by
  have hl := r.length
  refine ⟨by simp [L2.start, hl, hn], fun i x h => ?_⟩
  by_cases hi : i < xs.length
  · rw [List.getElem?_append_left (by simpa using hi), List.getElem?_map, List.getElem?_eq_getElem hi] at h
    have h' : xs[i] = x := Option.some.inj (Option.some.inj h)
    obtain ⟨v, q1, q2⟩ := r.get (i := i) (x := x) (by rw [List.getElem?_eq_getElem hi, h'])
    refine ⟨v, ?_, q2⟩
    unfold L2.start
    rw [List.getElem?_append_left (by simpa [hl] using hi), List.getElem?_map, q1]
    rfl
  · rw [List.getElem?_append_right (by simpa using hi)] at h
    obtain ⟨_, h'⟩ := List.getElem?_eq_some_iff.mp h
    simp at h'
end
section
variable {P : Program} {w : World} {K : PySem.W.Frag} {mg : Str → Option Value} {base : Heap} {g : GD} {ct : CTab}
/-- the classes' addresses, as the module's globals have them -/
def ctOf (K : PySem.W.Frag) (ns : List Str) (hw : NK → Int) : CTab := ⟨fun c => if c ∈ ns then (match PySem.W.nsIn K mainGlobals c with
  | some (some (.ref C)) => some C
  | _ => none) else none, hw⟩
theorem ctOf_inv {hw : NK → Int} {ns : List Str} {c : Str} {C : Addr} (h : ctOf K ns hw c = some C) : c ∈ ns ∧ PySem.W.nsIn K mainGlobals c = some (some (.ref C)) := by
  unfold ctOf at h
  dsimp only at h
  by_cases hm : c ∈ ns
  · rw [if_pos hm] at h
    refine ⟨hm, ?_⟩
    split at h
    · rename_i e
      cases h
      exact e
    · cases h
  · rw [if_neg hm] at h; cases h
theorem ctOf_of {hw : NK → Int} {ns : List Str} {c : Str} {C : Addr} (hm : c ∈ ns) (h : PySem.W.nsIn K mainGlobals c = some (some (.ref C))) : ctOf K ns hw c = some C := by
  unfold ctOf
  dsimp only
  rw [if_pos hm, h]
/-- one def, one level up -/
theorem fn_up (hwX : ct.hw = fun k => k.hash w) {tbl : List Fn} {d k i n : Nat} {fn : Fn} {x qual : Str} {st : Stmt} {f : Addr} {fd : FuncData} {N ps : List Str} (gok : GOk P w K mg base g ct (wF tbl d) k) (ht : tbl[i]? = some fn) (hN : fn.n = N.length) (hp : ps.length = n)
    (F : Fun K x qual st f fd) (S : FnScope N ps (defScope st)) (hc : cSs g ⟨N, defScope st, fun _ => true⟩ fn.body (defBody st) = true) : FnOk P w K mg base (L2.CX P w) (k + 2) f fd ps (spF K ct (wF tbl (d + 1)) n i) := by
  refine F.okX S (fun vs H Q E h => h.1.trans hp.symm) fun cdv A outer s H vs Q E hr h => ?_
  obtain ⟨h1, ph, S0, xs, Q0, X0, r, rv, hw, hQ, hX⟩ := h
  have xok : XOk g ct (wF tbl d) k (cxOf (L2.CX P w) P w K mg base N qual (defScope st) f cdv A outer s H E) ⟨N, defScope st, fun _ => true⟩ (fun cls d _ H => E cls d H) := ⟨rfl, S.nd, rfl, rfl, rfl, hr, takes_of rfl rfl rfl rfl, passes_of rfl, gok, hwX⟩
  refine ⟨_, (sAllS fn.body).2 _ _ _ _ S.kind xok hc, ?_⟩
  simp only [wF] at hw
  obtain ⟨fn', ht', hl, hl2, hw⟩ := hw
  rw [ht] at ht'; cases ht'
  refine ⟨ph, ⟨xs.map some ++ List.replicate (fn.n - xs.length) none, S0⟩, _, ⟨start_rel rv hN, r⟩, hw, ?_⟩
  exact ⟨fun p' ph' sg' H' q e r' => clean_ok r q e r'.s RV.of_non hQ, fun v p' ph' u sg' H' q e r' rv' => clean_ok r q e r'.s rv' hQ, fun _ _ _ _ q _ _ => q.elim, fun _ _ _ _ q _ _ => q.elim,
    fun x p' ph' cls d sg' H' q e r' rx => cleanX_ok r q e r'.s rx hX⟩
/-- a def of the table -/
structure DefAt (K : PySem.W.Frag) (g : GD) (tbl : List Fn) (i n : Nat) (f : Addr) (fd : FuncData) (ps : List Str) : Prop where
  b : Binds K fd ps []
  l : ps.length = n
  d : ∃ N qual st fn x', Fun K x' qual st f fd ∧ FnScope N ps (defScope st) ∧ tbl[i]? = some fn ∧ fn.n = N.length ∧ fn.np = n ∧ cSs g ⟨N, defScope st, fun _ => true⟩ fn.body (defBody st) = true
/-- the module's defs as the table has them -/
structure Tab (P : Program) (w : World) (K : PySem.W.Frag) (mg : Str → Option Value) (base : Heap) (g : GD) (tbl : List Fn) (ct : CTab) : Prop where
  fn : ∀ (i : Nat) x n, g.fns[i]? = some (x, n) → ∃ f fd ps, mg x = some (.ref f) ∧ PySem.W.keepIn K (.ref f) = true ∧ DefAt K g tbl i n f fd ps
  num : ∀ x i, g.nums.lookup x = some i → ∃ t, mg x = some (.int i t)
  txts : ∀ x i, g.txts.lookup x = some i → ∃ t, mg x = some (.str i t)
  blt : ∀ x ∈ g.blts, mg x = none
  cls : ∀ c i n, (c, i, n) ∈ g.cls → ∃ C f fd ps, ct c = some C ∧ mg c = some (.ref C) ∧ Mk K C f ∧ DefAt K g tbl i (n + 1) f fd ps
  kin : ∀ c C, ct c = some C → Cls K C
  isc : ∀ c C, ct c = some C → IsC K C
  att : ∀ c f, (c, f) ∈ g.attrs → ∀ C, ct c = some C → NoAttr K C f
  mth : ∀ c m i n, (c, m, i, n) ∈ g.mths → ∃ C f fd ps, ct c = some C ∧ Meth K C m f ∧ DefAt K g tbl i (n + 1) f fd ps
theorem fn_zero {k : Nat} {f : Addr} {fd : FuncData} {ps : List Str} {tbl : List Fn} {n i : Nat} (hp : ps.length = n) : FnOk P w K mg base (L2.CX P w) k f fd ps (spF K ct (wF tbl 0) n i) :=
  ⟨fun vs H Q E h => h.1.trans hp.symm, fun A outer s H args us vs Q E _ _ _ _ h => by
    obtain ⟨_, ph, S0, xs, Q0, X0, r, rv, hw, _⟩ := h
    simp only [wF] at hw⟩
theorem DefAt.zero {tbl : List Fn} {i n : Nat} {f : Addr} {fd : FuncData} {ps : List Str} (D : DefAt K g tbl i n f fd ps) : FnOk P w K mg base (L2.CX P w) 0 f fd ps (spF K ct (wF tbl 0) n i) := fn_zero D.l
theorem zero_len {tbl : List Fn} {i n : Nat} : ∀ xs S Q0 X0, wF tbl 0 i xs S Q0 X0 → xs.length = n := fun xs S Q0 X0 q => by simp only [wF] at q
theorem DefAt.up (hw : ct.hw = fun k => k.hash w) {tbl : List Fn} {i n d k : Nat} {f : Addr} {fd : FuncData} {ps : List Str} (gok : GOk P w K mg base g ct (wF tbl d) k) (D : DefAt K g tbl i n f fd ps) : FnOk P w K mg base (L2.CX P w) (k + 2) f fd ps (spF K ct (wF tbl (d + 1)) n i) := by
  obtain ⟨N, qual, st, fn, x', h5, h6, h7, h8, h9, h10⟩ := D.d
  exact fn_up hw gok h7 h8 D.l h5 h6 h10
theorem DefAt.up_len {tbl : List Fn} {i n d : Nat} {f : Addr} {fd : FuncData} {ps : List Str} (D : DefAt K g tbl i n f fd ps) : ∀ xs S Q0 X0, wF tbl (d + 1) i xs S Q0 X0 → xs.length = n := fun xs S Q0 X0 q => by
  obtain ⟨N, qual, st, fn, x', h5, h6, h7, h8, h9, h10⟩ := D.d
  simp only [wF] at q
  obtain ⟨fn', ht', hl, _⟩ := q
  rw [h7] at ht'; cases ht'
  exact hl.trans h9
theorem gok_of (hw : ct.hw = fun k => k.hash w) {tbl : List Fn} (T : Tab P w K mg base g tbl ct) : ∀ d, GOk P w K mg base g ct (wF tbl d) (2 * d)
  | 0 => ⟨fun i x n h => by
      obtain ⟨f, fd, ps, h1, h2, D⟩ := T.fn i x n h
      exact ⟨f, fd, ps, h1, h2, D.b, D.l, D.zero, zero_len⟩, T.num, T.txts, T.blt, fun c i n h => by
      obtain ⟨C, f, fd, ps, h1, h2, h3, D⟩ := T.cls c i n h
      exact ⟨C, f, fd, ps, h1, h2, h3, D.b, D.l, D.zero, zero_len⟩, T.kin, T.isc, T.att, fun c m i n h => by
      obtain ⟨C, f, fd, ps, h1, h2, D⟩ := T.mth c m i n h
      exact ⟨C, f, fd, ps, h1, h2, D.b, D.l, D.zero, zero_len⟩⟩
  | d + 1 => ⟨fun i x n h => by
      obtain ⟨f, fd, ps, h1, h2, D⟩ := T.fn i x n h
      exact ⟨f, fd, ps, h1, h2, D.b, D.l, D.up hw (gok_of hw T d), D.up_len⟩, T.num, T.txts, T.blt, fun c i n h => by
      obtain ⟨C, f, fd, ps, h1, h2, h3, D⟩ := T.cls c i n h
      exact ⟨C, f, fd, ps, h1, h2, h3, D.b, D.l, D.up hw (gok_of hw T d), D.up_len⟩, T.kin, T.isc, T.att, fun c m i n h => by
      obtain ⟨C, f, fd, ps, h1, h2, D⟩ := T.mth c m i n h
      exact ⟨C, f, fd, ps, h1, h2, D.b, D.l, D.up hw (gok_of hw T d), D.up_len⟩⟩
end
/-- the law's end -/
theorem law_end {l : PySem.W.OpenLaw} {n k i : Nat} {q : Program} {loose : List Str} {XP : (Str → Option Value) → Heap → Prop} {YP : World → Heap → Prop} {d : DefRec} {K : Params → PySem.W.Frag} {tbl : List Fn} {g : GD} {ns : List Str}
    (hn : l.most = some n) (hn2 : n ≤ sizeLine) (hdf : d.params.defaults = []) (hr : Room (2 * k + 2) callerA) (hY : ∀ (w : World) (h : Heap), YP w h → (K w.params).In h)
    (T : ∀ (w : World) (mg : Str → Option Value) (fa : Addr) (h : Heap), (K w.params).In h → h.Ns mainGlobals mg → mg d.name = some (.ref fa) →
      ∃ fd : FuncData, (∀ (s : Shared) (u : Value), BindsTo s fd ⟨[u], []⟩ [("script", u)]) ∧ (∃ N qual st fn x', Fun (K w.params) x' qual st fa fd ∧ FnScope N ["script"] (defScope st) ∧ tbl[i]? = some fn ∧ fn.n = N.length ∧ cSs g ⟨N, defScope st, fun _ => true⟩ fn.body (defBody st) = true) ∧
        ∀ base : Heap, Tab l.prog w (K w.params) mg base g tbl (ctOf (K w.params) ns fun k => k.hash w))
    (pure : ∀ ns : List Int, ns.length ≤ n → (∀ z ∈ ns, Builtin.Int.intBits z ≤ 1048576) → wF tbl (k + 1) i [.lck (ns.map .int)] [] (fun v _ => v = .bl true) (fun _ _ => False)) :
    PySem.W.WalkO q loose XP YP l.row.toRowW d [] (fun f vs => PySem.call f vs) := by
  refine L2.walk_ofB (n := n) (k := 2 * k + 2) (x := "script") (CX := fun w => L2.CX l.prog w) (sp := fun w => spF (K w.params) (ctOf (K w.params) ns fun k => k.hash w) (wF tbl (k + 1)) 1 i) hn hn2 hdf hr hY (fun w mg fa h hK hns hm => ?_) (fun w H a ns hl hb ho hS => ?_) ?_
  · obtain ⟨fd, h1, ⟨N, qual, st, fn, x', h2, h3, h4, h5, h6⟩, h7⟩ := T w mg fa h hK hns hm
    exact ⟨fd, h1, fun base _ _ => fn_up rfl (gok_of rfl (h7 base) k) h4 h5 rfl h2 h3 h6⟩
  · refine ⟨rfl, ⟨[], []⟩, [], [.lck (ns.map .int)], _, _, ⟨rfl, List.nodup_nil, fun _ h => (nomatch h), fun _ _ h => by simp at h⟩, RVs.one ?_, pure ns hl hb, fun v S' ph' u H' q _ _ rv => ?_, fun _ _ _ _ _ _ q _ _ _ => q⟩
    · unfold RV
      refine ⟨a, ns.map V.int, rfl, ?_, ?_⟩
      · rcases hS with h | h
        · exact .inl ⟨h, by simp [Phi.off]⟩
        · exact .inr (.inr h)
      · clear hl hb ho hS
        induction ns with
        | nil => exact RVs.nil
        | cons z zs ih => exact RVs.cons RV.of_int ih
    · subst q
      exact rv.bl_inv
  · rintro w H s e s' ⟨_, _, _, _, _, _, _, _, _, _, _, _, z⟩
    exact z
end Den


/-! D5: the pure side: how a def is run; expressions that change nothing, as a function. -/
namespace Den
open PySem (Str PyData CmpOp Operator)
section
variable {F : FT} {p : PSt}
theorem wF_run {tbl : List Fn} {d i : Nat} {xs : List PV} {st : Store} {Q : PV → Store → Prop} {X : PX → Store → Prop} (np n : Nat) (b : S) (h1 : tbl[i]? = some ⟨np, n, b⟩) (h2 : xs.length = np) (h3 : np ≤ n)
    (h : wS (wF tbl d) b ⟨xs.map some ++ List.replicate (n - xs.length) none, st⟩ { nx := fun p => Q .non p.st, rt := fun v p => Q v p.st, ex := fun x p => X x p.st }) : wF tbl (d + 1) i xs st Q X := by
  refine ⟨⟨np, n, b⟩, h1, h2, h3, wS_mono (wF_mono tbl d) _ _ _ _ ?_ h⟩
  exact ⟨fun p z => .inl z, fun v p z => .inl z, fun _ z => z, fun _ z => z, fun x p z => .inl z⟩
/-- a statement ahead of others, by what stands behind it -/
theorem cut {tbl : List Fn} {d : Nat} {a b : S} {D : Post} (K : PSt → Prop) (h : wS (wF tbl d) a p { nx := K, rt := D.rt, bk := D.bk, ct := D.ct, ex := D.ex }) (hk : ∀ p', K p' → wS (wF tbl d) b p' D) : wS (wF tbl d) (.seq a b) p D := by
  simp only [wS]
  refine wS_mono (wF_mono tbl d) a _ _ _ ?_ h
  exact ⟨hk, fun _ _ z => z, fun _ z => z, fun _ z => z, fun _ _ z => z⟩
/-- a for loop by its invariant -/
theorem for_ind {turn : PV → PSt → Post → Prop} {stay : PSt → Prop} {D : Post} (I : List PV → PSt → Prop) (h0 : ∀ p, I [] p → stay p ∧ D.nx p)
    (h1 : ∀ x xs p (K : PSt → Prop), I (x :: xs) p → (∀ p', I xs p' → K p') → stay p ∧ turn x p { nx := K, ct := K, bk := D.nx, rt := D.rt, ex := D.ex }) : ∀ xs p, I xs p → forLoop turn stay xs p D
  | [], p, h => h0 p h
  | x :: xs, p, h => h1 x xs p _ h fun p' h' => for_ind I h0 h1 xs p' h'
/-- a comprehension that changes nothing -/
theorem lc_map {turn : PV → PSt → (Option PV → PSt → Prop) → Prop} {stay : PSt → Prop} {Q : List PV → PSt → Prop} {p : PSt} (f : PV → Option PV) (hs : stay p) : ∀ (xs acc : List PV), acc.length + xs.length ≤ 16777216 → (∀ x ∈ xs, ∀ R : Option PV → PSt → Prop, R (f x) p → turn x p R) → Q (acc ++ xs.filterMap f) p →
    lcLoop turn stay xs acc p Q
  | [], acc, _, _, h => by
    rw [List.filterMap_nil, List.append_nil] at h
    exact ⟨hs, h⟩
  | x :: xs, acc, hl, ht, h => by
    rw [List.length_cons] at hl
    refine ⟨hs, ht x List.mem_cons_self _ ?_⟩
    cases e : f x with
    | none =>
      simp only
      refine lc_map f hs xs acc (by omega) (fun y hy => ht y (List.mem_cons_of_mem _ hy)) ?_
      rw [List.filterMap_cons, e] at h
      exact h
    | some y =>
      simp only
      refine ⟨by omega, lc_map f hs xs (acc ++ [y]) (by simp; omega) (fun y hy => ht y (List.mem_cons_of_mem _ hy)) ?_⟩
      rw [List.filterMap_cons, e] at h
      rw [List.append_assoc]
      exact h
/-- a comprehension by an invariant of what is left and what is made -/
theorem lc_ind {turn : PV → PSt → (Option PV → PSt → Prop) → Prop} {stay : PSt → Prop} {Q : List PV → PSt → Prop} (I : List PV → List PV → PSt → Prop) (h0 : ∀ acc p, I [] acc p → stay p ∧ Q acc p)
    (h1 : ∀ x xs acc p (R : Option PV → PSt → Prop), I (x :: xs) acc p → (∀ p', I xs acc p' → R none p') → (∀ y p', I xs (acc ++ [y]) p' → R (some y) p') → stay p ∧ acc.length < 16777216 ∧ turn x p R) : ∀ xs acc p, I xs acc p → lcLoop turn stay xs acc p Q
  | [], acc, p, h => h0 acc p h
  | x :: xs, acc, p, h => by
    have hl : acc.length < 16777216 := (h1 x xs acc p (fun _ _ => True) h (fun _ _ => trivial) fun _ _ _ => trivial).2.1
    have z := h1 x xs acc p (fun y p' => match y with
      | some y => acc.length < 16777216 ∧ lcLoop turn stay xs (acc ++ [y]) p' Q
      | none => lcLoop turn stay xs acc p' Q) h (fun p' h' => lc_ind I h0 h1 xs acc p' h') fun y p' h' => ⟨hl, lc_ind I h0 h1 xs (acc ++ [y]) p' h'⟩
    exact ⟨z.1, z.2.2⟩
end

/-! ### expressions that change nothing -/
def lisO (p : PSt) : PV → Option (List PV)
  | .lst xs => some xs
  | .ref n => match p.st[n]? with
    | some (.lst xs) => some xs
    | _ => none
  | _ => none
def itemsO (p : PSt) : PV → Option (List PV)
  | .tup xs => some xs
  | x => lisO p x
def binIO : Operator → Int → Int → Option Int
  | .Add, i, j => some (i + j)
  | .Sub, i, j => some (i - j)
  | .Mult, i, j => if i.natAbs.log2 + j.natAbs.log2 < 1000000 then some (i * j) else none
  | .FloorDiv, i, j => if 0 < j ∧ j.natAbs.log2 < 9000 then some (i / j) else none
  | .Mod, i, j => if 0 < j then some (i % j) else none
  | .Pow, i, j => if 0 ≤ j ∧ j ≤ 1000000 ∧ i.natAbs < 2 ^ 64 then some (i ^ j.toNat) else none
  | .LShift, i, j => if 0 ≤ j ∧ j ≤ 1000000 ∧ i.natAbs < 2 ^ 64 then some (i * 2 ^ j.toNat) else none
  | _, _, _ => none
def binO (op : Operator) (x y : PV) (p : PSt) : Option PV :=
  match x, y with
  | .int i, .int j => (binIO op i j).map .int
  | .tup xs, .tup ys => if op = .Add ∧ xs.length + ys.length ≤ 16777216 then some (.tup (xs ++ ys)) else none
  | .tup xs, .int k => if op = .Mult ∧ xs ≠ [] ∧ 1 ≤ k ∧ k ≤ 1000 ∧ xs.length ≤ 1000 then some (.tup (List.replicate k.toNat xs).flatten) else none
  | .lst xs, .lst ys => if op = .Add ∧ xs.length + ys.length ≤ 16777216 then some (.lst (xs ++ ys)) else none
  | _, _ => none
def cmpIO : CmpOp → Int → Int → Option Bool
  | .Lt, i, j => some (decide (i < j))
  | .LtE, i, j => some (decide (i ≤ j))
  | .Gt, i, j => some (decide (j < i))
  | .GtE, i, j => some (decide (j ≤ i))
  | .Eq, i, j => some (decide (i = j))
  | .NotEq, i, j => some (!decide (i = j))
  | _, _, _ => none
def eqO : PV → PV → Option Bool
  | .bl a, .bl b => some (decide (a = b))
  | .non, .non => some true
  | .str a, .str b => if PySem.PyData.strOk a = true ∧ PySem.PyData.strOk b = true then some (decide (a = b)) else none
  | .tup xs, .tup [] => if (allInt xs).isSome then some xs.isEmpty else none
  | _, _ => none
def isB : PV → PV → Option Bool
  | .bl a, .bl b => some (decide (a = b))
  | _, _ => none
def cmpO (op : CmpOp) (x y : PV) (p : PSt) : Option Bool :=
  match op with
  | .Is => if isNon y then some (isNon x) else isB x y
  | .IsNot => if isNon y then some (!isNon x) else (isB x y).map (!·)
  | .In => (itemsO p y).bind fun ys => if flat x = true ∧ ys.all flat = true then some (ys.any fun z => PyData.eqv z.d x.d) else none
  | .NotIn => (itemsO p y).bind fun ys => if flat x = true ∧ ys.all flat = true then some (!(ys.any fun z => PyData.eqv z.d x.d)) else none
  | .Eq => match x, y with
    | .int i, .int j => some (decide (i = j))
    | x, y => eqO x y
  | .NotEq => match x, y with
    | .int i, .int j => some (!decide (i = j))
    | x, y => (eqO x y).map (!·)
  | op => match x, y with
    | .int i, .int j => cmpIO op i j
    | _, _ => none
def ixO (x y : PV) (p : PSt) : Option PV :=
  match y with
  | .int i => (itemsO p x).bind fun xs => (ixN xs.length i).bind fun k => xs[k]?
  | _ => none
def slcO (x : PV) (lo hi : Option Int) (p : PSt) : Option PV :=
  match x with
  | .tup xs => some (.tup (cutP xs lo hi))
  | .lst xs => if (cutP xs lo hi).length ≤ 16777216 then some (.lst (cutP xs lo hi)) else none
  | .lck xs => if (cutP xs lo hi).length ≤ 16777216 then some (.lst (cutP xs lo hi)) else none
  | _ => none
def isiO (x : PV) (ns : List (Str × String)) (p : PSt) : Option Bool :=
  if ns.all (fun b => knownTy b.2) then (tyN p x).map fun a => ns.any fun b => isSub a b.2 else none
def minO (xs ys : List PV) : Option PV := match xs, ys with
  | [.int i, .tup is], [.int j, .tup js] => (allInt is).bind fun a => (allInt js).map fun b => if ltIs (j :: b) (i :: a) then .tup ys else .tup xs
  | _, _ => none
def bltO (f : Blt) (m : Bool) (xs : List PV) (p : PSt) : Option PV :=
  match f, xs with
  | .len, [.tup xs] => some (.int xs.length)
  | .len, [x] => (lisO p x).map fun xs => .int xs.length
  | .abs, [.int i] => some (.int (if i < 0 then -i else i))
  | .int, [.int i] => some (.int i)
  | .int, [.bl b] => some (.int (if b then 1 else 0))
  | .min2, [.int i, .int j] => some (.int (if j < i then j else i))
  | .min2, [.tup xs, .tup ys] => minO xs ys
  | .max2, [.int i, .int j] => some (.int (if j > i then j else i))
  | .all, [x] => (lisO p x).bind fun xs => (allBl xs).map fun bs => .bl (bs.all id)
  | .any, [x] => (lisO p x).bind fun xs => (allBl xs).map fun bs => .bl (bs.any id)
  | .tuple, [.tup xs] => some (.tup xs)
  | .tuple, [x] => (lisO p x).map .tup
  | .list, [.tup xs] => if xs.length ≤ 16777216 ∧ m = false then some (.lst xs) else none
  | .list, [.lst xs] => if xs.length ≤ 16777216 ∧ m = false then some (.lst xs) else none
  | .sum, [x] => (itemsO p x).bind fun xs => (allInt xs).map fun ns => .int ns.sum
  | _, _ => none
def methO (f : Mth) (x : PV) (xs : List PV) (p : PSt) : Option PV :=
  match f, xs with
  | .count, [.int k] => (lisO p x).bind fun ys => (allInt ys).map fun ns => .int (ns.count k : Nat)
  | _, _ => none
mutual
def tO : T → PV → List (Option PV) → Option (List (Option PV))
  | .name i, v, env => if i < env.length then some (env.set i (some v)) else none
  | .tup ts, v, env => match v with
    | .tup xs => tsO ts xs env
    | _ => none
  | .nil, _, _ => none
  | .cons _ _, _, _ => none
def tsO : T → List PV → List (Option PV) → Option (List (Option PV))
  | .nil, xs, env => match xs with
    | [] => some env
    | _ => none
  | .cons t ts, xs, env => match xs with
    | x :: r => (tO t x env).bind (tsO ts r)
    | [] => none
  | .name _, _, _ => none
  | .tup _, _, _ => none
end
def lcO (f : PV → Option (Option PV)) : List PV → Option (List PV)
  | [] => some []
  | x :: xs => (f x).bind fun y => (lcO f xs).map fun r => y.toList ++ r
def isBl : PV → Option Bool
  | .bl b => some b
  | _ => none
def isInt : PV → Option Int
  | .int b => some b
  | _ => none
def rngOkB (lo hi : Int) : Bool := decide (-(2 ^ 62) ≤ lo ∧ lo < 2 ^ 62 ∧ -(2 ^ 62) ≤ hi ∧ hi < 2 ^ 62)
def dctO (p : PSt) : PV → Option (List (PV × PV))
  | .ref n => match p.st[n]? with
    | some (.dct es _) => some es
    | _ => none
  | _ => none
def nkO : PV → Option NK
  | .tup ks => (keyOf (.tup ks)).bind fun k => if k.depth ≤ 8 then some k else none
  | _ => none
def rngO (t m : Bool) (lo hi : Int) : Option PV := if rngOkB lo hi = true ∧ (hi - lo).toNat ≤ 16777216 then (if t = true then some (.tup (rngL lo (hi - lo).toNat)) else if m = true then none else some (.lst (rngL lo (hi - lo).toNat))) else none
abbrev Orc := Nat → List PV → Option PV
mutual
def ev (G : Orc) : E → PSt → Option PV
  | .var i, p => (p.env[i]?).bind id
  | .int i, _ => some (.int i)
  | .bl i, _ => some (.bl i)
  | .non, _ => some .non
  | .str i, _ => some (.str i)
  | .gint _ i, _ => some (.int i)
  | .gstr _ i, _ => some (.str i)
  | .gty _ n, _ => some (.ty n)
  | .dct0, _ => some .dct
  | .trg1 t m a, p => ((ev G a p).bind isInt).bind fun n => rngO t m 0 n
  | .trg2 t m a b, p => ((ev G a p).bind isInt).bind fun lo => ((ev G b p).bind isInt).bind fun hi => rngO t m lo hi
  | .ixd a b, p => (ev G a p).bind fun x => (ev G b p).bind fun y => (dctO p x).bind fun es => (nkO y).bind fun k => getK es k
  | .ind n a b, p => (ev G a p).bind fun x => (ev G b p).bind fun y => (dctO p y).bind fun es => (nkO x).map fun k => .bl (if n then !(getK es k).isSome else (getK es k).isSome)
  | .attr a f cs, p => (ev G a p).bind fun x => match x with
    | .ref n => match p.st[n]? with
      | some (.ins c fs) => if c ∈ cs then fs.lookup f else none
      | _ => none
    | _ => none
  | .isc a k, p => (ev G a p).bind fun x => match x with
    | .ref n => match p.st[n]? with
      | some (.ins c fs) => if c = k then some (.bl true) else none
      | _ => none
    | _ => none
  | .dct1 _ i, p => ((p.env[i]?).bind id).map fun _ => .dct
  | .bin op m a b, p => if m = true then none else (ev G a p).bind fun x => (ev G b p).bind fun y => binO op x y p
  | .neg a, p => ((ev G a p).bind isInt).map fun i => .int (-i)
  | .cmp op a b, p => (ev G a p).bind fun x => (ev G b p).bind fun y => (cmpO op x y p).map .bl
  | .chain o1 o2 a b c, p => (ev G a p).bind fun x => (ev G b p).bind fun y => (cmpO o1 x y p).bind fun k => if k = true then (ev G c p).bind fun z => (cmpO o2 y z p).map .bl else some (.bl false)
  | .and a b, p => ((ev G a p).bind isBl).bind fun k => if k = true then ev G b p else some (.bl false)
  | .or a b, p => ((ev G a p).bind isBl).bind fun k => if k = true then some (.bl true) else ev G b p
  | .not a, p => ((ev G a p).bind isBl).map fun k => .bl (!k)
  | .ite c a b, p => ((ev G c p).bind isBl).bind fun k => if k = true then ev G a p else ev G b p
  | .tup es, p => (evL G es p).bind fun xs => if xs.length ≤ 16777216 then some (.tup xs) else none
  | .lst m es, p => if m = true then none else (evL G es p).bind fun xs => if xs.length ≤ 16777216 then some (.lst xs) else none
  | .ix a b, p => (ev G a p).bind fun x => (ev G b p).bind fun y => ixO x y p
  | .slc m a lo hi, p => if m = true then none else (ev G a p).bind fun x => (if isNonE lo then some none else ((ev G lo p).bind isInt).map some).bind fun l => (if isNonE hi then some none else ((ev G hi p).bind isInt).map some).bind fun h => slcO x l h p
  | .call f es, p => (evL G es p).bind fun xs => G f xs
  | .blt f m es, p => (evL G es p).bind fun xs => bltO f m xs p
  | .isi a ns _, p => (ev G a p).bind fun x => (isiO x ns p).map .bl
  | .meth f a es, p => (ev G a p).bind fun x => (evL G es p).bind fun xs => methO f x xs p
  | .lc m own tg it c e, p => if m = true then none else (evI G it p).bind fun xs => if xs.length ≤ 16777216 then
      (lcO (fun x => (tO tg x (wipeP p.env (own.map (·.2)))).bind fun env => ((ev G c ⟨env, p.st⟩).bind isBl).bind fun k => if k = true then (ev G e ⟨env, p.st⟩).map some else some none) xs).map .lst else none
  | _, _ => none
def evL (G : Orc) : E → PSt → Option (List PV)
  | .nil, _ => some []
  | .cons a es, p => (ev G a p).bind fun x => (evL G es p).map fun xs => x :: xs
  | _, _ => none
def evI (G : Orc) : E → PSt → Option (List PV)
  | .seq e, p => (ev G e p).bind (itemsO p)
  | .seqd e, p => ((ev G e p).bind (dctO p)).map fun es => es.map (·.1)
  | .rng1 e, p => ((ev G e p).bind isInt).bind fun n => if rngOkB 0 n then some (rngL 0 n.toNat) else none
  | .rng2 a b, p => ((ev G a p).bind isInt).bind fun lo => ((ev G b p).bind isInt).bind fun hi => if rngOkB lo hi then some (rngL lo (hi - lo).toNat) else none
  | .enum e, p => ((ev G e p).bind (itemsO p)).map (enumL 0)
  | .zip a b, p => (ev G a p).bind fun x => (ev G b p).bind fun y => if isTup x = isTup y then (itemsO p x).bind fun xs => (itemsO p y).map fun ys => zipL xs ys else none
  | _, _ => none
end
end Den

/-! D5b: ev tells the truth. -/
namespace Den
open PySem (Str PyData CmpOp Operator)
section
variable {F : FT} {p : PSt}
theorem bs {α β : Type} {o : Option α} {f : α → Option β} {b : β} (h : o.bind f = some b) : ∃ a, o = some a ∧ f a = some b := by
  cases o with
  | none => cases h
  | some a => exact ⟨a, rfl, h⟩
theorem ms {α β : Type} {o : Option α} {f : α → β} {b : β} (h : o.map f = some b) : ∃ a, o = some a ∧ f a = b := by
  cases o with
  | none => cases h
  | some a => exact ⟨a, rfl, Option.some.inj h⟩
theorem is {α : Type} {c : Prop} [Decidable c] {a : Option α} {b : α} (h : (if c then a else none) = some b) : c ∧ a = some b := by
  by_cases hc : c
  · rw [if_pos hc] at h; exact ⟨hc, h⟩
  · rw [if_neg hc] at h; cases h
theorem lisO_ok {x : PV} {xs : List PV} {Q : List PV → Prop} (h : lisO p x = some xs) (hq : Q xs) : listOf p x Q := by
  unfold lisO at h
  split at h
  · cases h; exact hq
  · split at h
    · cases h; exact ⟨_, by assumption, hq⟩
    · cases h
  · cases h
theorem itemsO_ok {x : PV} {xs : List PV} {Q : List PV → Prop} (h : itemsO p x = some xs) (hq : Q xs) : itemsOf p x Q := by
  unfold itemsO at h
  split at h
  · cases h; exact hq
  · unfold lisO at h
    split at h
    · cases h; exact hq
    · split at h
      · cases h; exact ⟨_, by assumption, hq⟩
      · cases h
    · cases h
theorem binIO_ok {op : Operator} {i j k : Int} {Q : Int → Prop} (h : binIO op i j = some k) (hq : Q k) : binI op i j Q := by
  cases op <;> simp only [binIO] at h <;> first
    | (cases h; done)
    | (cases h; exact hq)
    | (obtain ⟨c, h⟩ := is h; cases h; exact ⟨c, hq⟩)
theorem binO_ok {op : Operator} {m : Bool} {x y v : PV} {Q : QV} (hm : m = false) (h : binO op x y p = some v) (hq : Q v p) : binV op m x y p Q := by
  subst hm
  unfold binO at h
  split at h
  · obtain ⟨k, e, rfl⟩ := ms h
    exact binIO_ok e hq
  · obtain ⟨c, h⟩ := is h; cases h; exact ⟨c.1, c.2, hq⟩
  · obtain ⟨c, h⟩ := is h; cases h; exact ⟨c, hq⟩
  · obtain ⟨c, h⟩ := is h; cases h; exact ⟨c.1, by rw [szOk, List.length_append]; exact c.2, hq⟩
  · cases h
theorem cmpIO_ok {op : CmpOp} {i j : Int} {k : Bool} {Q : Bool → Prop} (h : cmpIO op i j = some k) (hq : Q k) : cmpI op i j Q := by
  cases op <;> simp only [cmpIO] at h <;> first
    | (cases h; done)
    | (cases h; exact hq)
theorem allInt_some : ∀ {xs : List PV} {ns : List Int}, allInt xs = some ns → xs = ns.map .int
  | [], ns, h => by simp [allInt] at h; subst h; rfl
  | x :: xs, ns, h => by
    cases x <;> simp only [allInt] at h <;> first | (cases h; done) | skip
    obtain ⟨ms', e, rfl⟩ := ms h
    rw [allInt_some e]; rfl
theorem depth_ints' (l : List Int) : PyData.depthAll (l.map .int) ≤ 2 := by
  induction l with
  | nil => simp [PyData.depthAll]
  | cons x xs ih => simp only [List.map_cons, PyData.depthAll, PyData.depth]; omega
theorem eqOk_ints (ns : List Int) : eqOk (.tup (ns.map .int)) := by
  refine ⟨.tup fun x hx => ?_, ?_⟩
  · obtain ⟨z, _, rfl⟩ := List.mem_map.mp hx
    exact .int
  · have e : (PV.tup (ns.map .int)).d = .tuple (ns.map .int) := by
      simp only [PV.d, dL_map, List.map_map]; rfl
    rw [e]
    have := depth_ints' ns
    simp only [PyData.depth]; omega
theorem eqO_ok {x y : PV} {k : Bool} (h : eqO x y = some k) : eqOk x ∧ eqOk y ∧ PyData.eqv x.d y.d = k := by
  unfold eqO at h
  split at h
  · cases h
    rename_i a b
    exact ⟨⟨.bl, by simp [PV.d, PyData.depth]⟩, ⟨.bl, by simp [PV.d, PyData.depth]⟩, by cases a <;> cases b <;> simp [PV.d, PyData.eqv]⟩
  · cases h
    exact ⟨⟨.non, by simp [PV.d, PyData.depth]⟩, ⟨.non, by simp [PV.d, PyData.depth]⟩, by simp [PV.d, PyData.eqv]⟩
  · obtain ⟨c, h⟩ := is h
    cases h
    exact ⟨⟨.str c.1, by simp [PV.d, PyData.depth]⟩, ⟨.str c.2, by simp [PV.d, PyData.depth]⟩, by rw [PV.d, PV.d, PyData.eqv]; rename_i a b; by_cases e : a = b <;> simp [e]⟩
  · obtain ⟨c, h⟩ := is h
    cases h
    rename_i xs
    cases e : allInt xs with
    | none => rw [e] at c; cases c
    | some ns =>
      have e2 := allInt_some e
      subst e2
      refine ⟨eqOk_ints ns, eqOk_ints [], ?_⟩
      cases ns <;> simp [PV.d, dL, PyData.eqv, PyData.eqvAll]
  · cases h
theorem cmpO_ok {op : CmpOp} {x y : PV} {k : Bool} {Q : Bool → Prop} (h : cmpO op x y p = some k) (hq : Q k) : cmpV op x y p Q := by
  have hn : ∀ {y}, isNon y = true → y = .non := fun {y} h => by cases y <;> first | rfl | cases h
  unfold cmpO at h
  unfold cmpV
  split at h
  · split at h
    · rename_i c
      cases h; exact .inl ⟨hn c, hq⟩
    · unfold isB at h
      split at h
      · cases h; exact .inr ⟨_, _, rfl, rfl, hq⟩
      · cases h
  · split at h
    · rename_i c
      cases h; exact .inl ⟨hn c, hq⟩
    · obtain ⟨k', h4, rfl⟩ := ms h
      unfold isB at h4
      split at h4
      · obtain rfl := Option.some.inj h4; exact .inr ⟨_, _, rfl, rfl, hq⟩
      · cases h4
  · obtain ⟨ys, e, h⟩ := bs h
    obtain ⟨c, h⟩ := is h; cases h
    exact itemsO_ok e ⟨c.1, c.2, hq⟩
  · obtain ⟨ys, e, h⟩ := bs h
    obtain ⟨c, h⟩ := is h; cases h
    exact itemsO_ok e ⟨c.1, c.2, hq⟩
  · split at h
    · cases h; exact hq
    · rename_i hne
      obtain ⟨a, b, c⟩ := eqO_ok h
      subst c
      cases x <;> cases y <;> first | exact ⟨a, b, hq⟩ | exact (hne _ _ rfl rfl).elim
  · split at h
    · cases h; exact hq
    · rename_i hne
      obtain ⟨k', h5, rfl⟩ := ms h
      obtain ⟨a, b, c⟩ := eqO_ok h5
      subst c
      cases x <;> cases y <;> first | exact ⟨a, b, hq⟩ | exact (hne _ _ rfl rfl).elim
  · split at h
    · cases op <;> first | contradiction | exact cmpIO_ok h hq
    · cases h
theorem ixO_ok {x y v : PV} {Q : QV} (h : ixO x y p = some v) (hq : Q v p) : ixV x y p Q := by
  unfold ixO at h
  split at h
  · obtain ⟨xs, e, h⟩ := bs h
    obtain ⟨k, e2, h⟩ := bs h
    exact itemsO_ok e ⟨k, v, e2, h, hq⟩
  · cases h
theorem slcO_ok {m : Bool} {x v : PV} {lo hi : Option Int} {Q : QV} (hm : m = false) (h : slcO x lo hi p = some v) (hq : Q v p) : slcV m x lo hi p Q := by
  subst hm
  unfold slcO at h
  split at h
  · cases h; exact hq
  · obtain ⟨c, h⟩ := is h; cases h; exact ⟨c, hq⟩
  · obtain ⟨c, h⟩ := is h; cases h; exact ⟨c, hq⟩
  · cases h
theorem isiO_ok {x : PV} {ns : List (Str × String)} {k : Bool} {Q : Bool → Prop} (h : isiO x ns p = some k) (hq : Q k) : isiV x ns p Q := by
  obtain ⟨c, h⟩ := is h
  obtain ⟨a, e, rfl⟩ := ms h
  exact ⟨fun b hb => List.all_eq_true.mp c b hb, a, e, hq⟩
theorem bltO_ok {f : Blt} {m : Bool} {xs : List PV} {v : PV} {Q : QV} (h : bltO f m xs p = some v) (hq : Q v p) : bltV f m xs p Q := by
  unfold bltO at h
  split at h <;> first
    | (cases h; done)
    | (cases h; exact hq)
    | skip
  · obtain ⟨ys, e, rfl⟩ := ms h
    rename_i x hne
    cases x <;> first | exact (hne _ rfl).elim | (simp [lisO] at e; done) | exact lisO_ok (Q := fun xs => Q (.int xs.length) p) e hq
  · unfold minO at h
    split at h
    · obtain ⟨a, e1, h⟩ := bs h
      obtain ⟨b, e2, rfl⟩ := ms h
      have e1 := allInt_some e1
      have e2 := allInt_some e2
      subst e1
      subst e2
      refine ⟨_, _, _, _, rfl, rfl, ?_⟩
      split at hq
      · rename_i hc
        rw [if_pos hc]; exact hq
      · rename_i hc
        rw [if_neg hc]; exact hq
    · cases h
  · obtain ⟨ys, e, h⟩ := bs h
    obtain ⟨bs', e', rfl⟩ := ms h
    exact lisO_ok e ⟨bs', e', hq⟩
  · obtain ⟨ys, e, h⟩ := bs h
    obtain ⟨bs', e', rfl⟩ := ms h
    exact lisO_ok e ⟨bs', e', hq⟩
  · obtain ⟨ys, e, rfl⟩ := ms h
    rename_i x hne
    cases x <;> first | exact (hne _ rfl).elim | exact lisO_ok (Q := fun xs => Q (.tup xs) p) e hq
  · obtain ⟨c, h⟩ := is h
    cases h
    obtain ⟨c1, rfl⟩ := c
    exact ⟨c1, hq⟩
  · obtain ⟨c, h⟩ := is h
    cases h
    obtain ⟨c1, rfl⟩ := c
    exact ⟨c1, hq⟩
  · obtain ⟨ys, e, h⟩ := bs h
    obtain ⟨bs', e', rfl⟩ := ms h
    exact itemsO_ok e ⟨bs', e', hq⟩
theorem methO_ok {f : Mth} {x : PV} {xs : List PV} {v : PV} {Q : QV} (h : methO f x xs p = some v) (hq : Q v p) : mthPre f x p ∧ methV f x xs p Q := by
  unfold methO at h
  split at h
  · obtain ⟨ys, e, h⟩ := bs h
    obtain ⟨bs', e', rfl⟩ := ms h
    exact ⟨lisO_ok e trivial, lisO_ok e ⟨bs', e', hq⟩⟩
  · cases h
mutual
theorem tO_ok : ∀ (t : T) (x : PV) (p : PSt) (env : List (Option PV)) (Q : PSt → Prop), tO t x p.env = some env → Q { p with env := env } → wT t x p Q
  | .name i, x, p, env, Q, h, hq => by
    simp only [tO] at h
    obtain ⟨c, h⟩ := is h; cases h
    simp only [wT]
    exact ⟨c, hq⟩
  | .tup ts, x, p, env, Q, h, hq => by
    simp only [tO] at h
    split at h
    · simp only [wT]
      exact ⟨_, rfl, tsO_ok ts _ p env Q h hq⟩
    · cases h
  | .nil, x, p, env, Q, h, hq => by simp [tO] at h
  | .cons _ _, x, p, env, Q, h, hq => by simp [tO] at h
theorem tsO_ok : ∀ (t : T) (xs : List PV) (p : PSt) (env : List (Option PV)) (Q : PSt → Prop), tsO t xs p.env = some env → Q { p with env := env } → wTs t xs p Q
  | .nil, xs, p, env, Q, h, hq => by
    simp only [tsO] at h
    split at h
    · cases h
      simp only [wTs]
      exact ⟨trivial, hq⟩
    · cases h
  | .cons t ts, xs, p, env, Q, h, hq => by
    simp only [tsO] at h
    split at h
    · obtain ⟨e1, h1, h2⟩ := bs h
      simp only [wTs]
      exact ⟨_, _, rfl, tO_ok t _ p e1 _ h1 (tsO_ok ts _ { p with env := e1 } env Q h2 hq)⟩
    · cases h
  | .name _, xs, p, env, Q, h, hq => by simp [tsO] at h
  | .tup _, xs, p, env, Q, h, hq => by simp [tsO] at h
end
theorem lcO_ok {f : PV → Option (Option PV)} {turn : PV → PSt → (Option PV → PSt → Prop) → Prop} {stay : PSt → Prop} {Q : List PV → PSt → Prop} (hs : stay p) (ht : ∀ x y, f x = some y → ∀ R : Option PV → PSt → Prop, R y p → turn x p R) : ∀ (xs acc ys : List PV), lcO f xs = some ys → acc.length + xs.length ≤ 16777216 → Q (acc ++ ys) p → lcLoop turn stay xs acc p Q
  | [], acc, ys, h, _, hq => by
    simp [lcO] at h; subst h
    rw [List.append_nil] at hq
    exact ⟨hs, hq⟩
  | x :: xs, acc, ys, h, hl, hq => by
    simp only [lcO] at h
    obtain ⟨y, e, h⟩ := bs h
    obtain ⟨r, e2, rfl⟩ := ms h
    rw [List.length_cons] at hl
    refine ⟨hs, ht x y e _ ?_⟩
    cases y with
    | none => exact lcO_ok hs ht xs acc r e2 (by omega) hq
    | some y => exact ⟨by omega, lcO_ok hs ht xs (acc ++ [y]) r e2 (by simp; omega) (by rw [List.append_assoc]; exact hq)⟩
theorem lcO_len {f : PV → Option (Option PV)} : ∀ {xs ys : List PV}, lcO f xs = some ys → ys.length ≤ xs.length
  | [], ys, h => by simp [lcO] at h; subst h; simp
  | x :: xs, ys, h => by
    simp only [lcO] at h
    obtain ⟨y, e, h⟩ := bs h
    obtain ⟨r, e2, rfl⟩ := ms h
    have := lcO_len e2
    cases y <;> simp <;> omega
theorem isBl_of {x : PV} {k : Bool} (h : isBl x = some k) : x = .bl k := by cases x <;> simp [isBl] at h; rw [h]
theorem isInt_of {x : PV} {k : Int} (h : isInt x = some k) : x = .int k := by cases x <;> simp [isInt] at h; rw [h]
theorem rngOk_of {lo hi : Int} (h : rngOkB lo hi = true) : rngOk lo hi := by
  have h' := of_decide_eq_true (show decide (-(2 ^ 62) ≤ lo ∧ lo < 2 ^ 62 ∧ -(2 ^ 62) ≤ hi ∧ hi < 2 ^ 62) = true from h)
  exact h'
def GOkF (G : Orc) (F : FT) : Prop := ∀ f xs v, G f xs = some v → ∀ (st : Store) (Q : PV → Store → Prop) (X : PX → Store → Prop), Q v st → F f xs st Q X
structure EO (G : Orc) (F : FT) (t : E) : Prop where
  e : ∀ p v, ev G t p = some v → ∀ (Q : QV) (X : QX), Q v p → wE F t p Q X
  l : ∀ p vs, evL G t p = some vs → ∀ (Q : List PV → PSt → Prop) (X : QX), Q vs p → wL F t p Q X
  i : ∀ p xs, evI G t p = some xs → ∀ (Q : List PV → (PSt → Prop) → PSt → Prop) (X : QX), (∀ stay, (∀ q : PSt, q.st = p.st → stay q) → Q xs stay p) → wI F t p Q X
theorem if_same {k : Bool} {a b c : Prop} (h : k = true → c → a) (h' : k = false → c → b) (hc : c) : if k = true then a else b := by
  cases k with
  | true => exact h rfl hc
  | false => exact h' rfl hc
theorem src1_ok {x : PV} {xs : List PV} {Q : List PV → (PSt → Prop) → Prop} (h : itemsO p x = some xs) (hq : ∀ stay : PSt → Prop, (∀ q : PSt, q.st = p.st → stay q) → Q xs stay) : src1 p x Q := by
  refine itemsO_ok h (hq _ fun q hs => ?_)
  cases x with
  | ref n =>
    simp only [itemsO, lisO] at h
    split at h
    · cases h
      show q.st[n]? = _
      rw [hs]; assumption
    · cases h
  | _ => trivial
theorem dct_of {p : PSt} {x : PV} {es : List (PV × PV)} (h : dctO p x = some es) : ∃ n g, x = .ref n ∧ p.st[n]? = some (.dct es g) := by
  unfold dctO at h
  split at h
  · split at h
    · cases h; exact ⟨_, _, rfl, by assumption⟩
    · cases h
  · cases h
theorem nk_of {y : PV} {k : NK} (h : nkO y = some k) : (∃ ks, y = .tup ks) ∧ keyOf y = some k ∧ k.depth ≤ 8 := by
  unfold nkO at h
  split at h
  · obtain ⟨k', h1, h2⟩ := Option.bind_eq_some_iff.mp h
    by_cases hd : k'.depth ≤ 8
    · rw [if_pos hd] at h2; cases h2
      exact ⟨⟨_, rfl⟩, h1, hd⟩
    · rw [if_neg hd] at h2; cases h2
  · cases h
theorem dKey_ok {p : PSt} {x y : PV} {es : List (PV × PV)} {k : NK} {R : Nat → List (PV × PV) → NK → Prop} (h : dctO p x = some es) (h' : nkO y = some k) (hR : ∀ n, R n es k) : dKey p x y R := by
  obtain ⟨n, g, h1, h2⟩ := dct_of h
  obtain ⟨h3, h4, h5⟩ := nk_of h'
  exact ⟨n, es, g, k, h1, h2, h3, h4, h5, hR n⟩
theorem rngO_ok {t m : Bool} {lo hi : Int} {v : PV} {p : PSt} {Q : QV} (h : rngO t m lo hi = some v) (hq : Q v p) : rngV t m lo hi p Q := by
  unfold rngO at h
  by_cases hc : rngOkB lo hi = true ∧ (hi - lo).toNat ≤ 16777216
  · rw [if_pos hc] at h
    refine ⟨rngOk_of hc.1, hc.2, ?_⟩
    cases t with
    | true => rw [if_pos rfl] at h ⊢; cases h; exact hq
    | false =>
      rw [if_neg Bool.false_ne_true] at h ⊢
      cases m with
      | true => rw [if_pos rfl] at h; cases h
      | false =>
        rw [if_neg Bool.false_ne_true] at h
        cases h
        refine ⟨?_, hq⟩
        show (rngL _ _).length ≤ 16777216
        unfold rngL
        rw [List.length_map, List.length_range]
        exact hc.2
  · rw [if_neg hc] at h; cases h
theorem eo_all {G : Orc} (hG : GOkF G F) (t : E) : EO G F t := by
  have noE : ∀ {t : E}, (∀ p, ev G t p = none) → ∀ p v, ev G t p = some v → ∀ (Q : QV) (X : QX), Q v p → wE F t p Q X := fun h p v z => by rw [h] at z; cases z
  have noL : ∀ {t : E}, (∀ p, evL G t p = none) → ∀ p v, evL G t p = some v → ∀ (Q : List PV → PSt → Prop) (X : QX), Q v p → wL F t p Q X := fun h p v z => by rw [h] at z; cases z
  have noI : ∀ {t : E}, (∀ p, evI G t p = none) → ∀ p v, evI G t p = some v → ∀ (Q : List PV → (PSt → Prop) → PSt → Prop) (X : QX), (∀ stay, (∀ q : PSt, q.st = p.st → stay q) → Q v stay p) → wI F t p Q X := fun h p v z => by rw [h] at z; cases z
  induction t with
  | var i =>
    refine ⟨fun p v h Q X hq => ?_, noL (by simp [evL]), noI (by simp [evI])⟩
    simp only [ev] at h; simp only [wE]
    obtain ⟨o, e, h⟩ := bs h
    subst h
    exact ⟨v, e, hq⟩
  | int i => exact ⟨fun p v h Q X hq => by simp only [ev] at h; cases h; simpa only [wE] using hq, noL (by simp [evL]), noI (by simp [evI])⟩
  | bl i => exact ⟨fun p v h Q X hq => by simp only [ev] at h; cases h; simpa only [wE] using hq, noL (by simp [evL]), noI (by simp [evI])⟩
  | non => exact ⟨fun p v h Q X hq => by simp only [ev] at h; cases h; simpa only [wE] using hq, noL (by simp [evL]), noI (by simp [evI])⟩
  | str i => exact ⟨fun p v h Q X hq => by simp only [ev] at h; cases h; simpa only [wE] using hq, noL (by simp [evL]), noI (by simp [evI])⟩
  | gint i j => exact ⟨fun p v h Q X hq => by simp only [ev] at h; cases h; simpa only [wE] using hq, noL (by simp [evL]), noI (by simp [evI])⟩
  | gstr i j => exact ⟨fun p v h Q X hq => by simp only [ev] at h; cases h; simpa only [wE] using hq, noL (by simp [evL]), noI (by simp [evI])⟩
  | never => exact ⟨noE (by simp [ev]), noL (by simp [evL]), noI (by simp [evI])⟩
  | trg1 t m a ha =>
    refine ⟨fun p v h Q X hq => ?_, noL (by simp [evL]), noI (by simp [evI])⟩
    simp only [ev] at h; simp only [wE]
    obtain ⟨n, h1, h⟩ := bs h
    obtain ⟨x, h2, h1⟩ := bs h1
    exact ha.e _ _ h2 _ _ ⟨n, isInt_of h1, rngO_ok h hq⟩
  | trg2 t m a b ha hb =>
    refine ⟨fun p v h Q X hq => ?_, noL (by simp [evL]), noI (by simp [evI])⟩
    simp only [ev] at h; simp only [wE]
    obtain ⟨n, h1, h⟩ := bs h
    obtain ⟨x, h2, h1⟩ := bs h1
    obtain ⟨n', h3, h⟩ := bs h
    obtain ⟨x', h4, h3⟩ := bs h3
    exact ha.e _ _ h2 _ _ (hb.e _ _ h4 _ _ ⟨n, n', isInt_of h1, isInt_of h3, rngO_ok h hq⟩)
  | dnew => exact ⟨noE (by simp [ev]), noL (by simp [evL]), noI (by simp [evI])⟩
  | ixd a b ha hb =>
    refine ⟨fun p v h Q X hq => ?_, noL (by simp [evL]), noI (by simp [evI])⟩
    simp only [ev] at h; simp only [wE]
    obtain ⟨x, h1, h⟩ := bs h
    obtain ⟨y, h2, h⟩ := bs h
    obtain ⟨es, h3, h⟩ := bs h
    obtain ⟨k, h4, h⟩ := bs h
    exact ha.e _ _ h1 _ _ (hb.e _ _ h2 _ _ (dKey_ok h3 h4 fun _ => ⟨v, h, hq⟩))
  | ind n a b ha hb =>
    refine ⟨fun p v h Q X hq => ?_, noL (by simp [evL]), noI (by simp [evI])⟩
    simp only [ev] at h; simp only [wE]
    obtain ⟨x, h1, h⟩ := bs h
    obtain ⟨y, h2, h⟩ := bs h
    obtain ⟨es, h3, h⟩ := bs h
    obtain ⟨k, h4, rfl⟩ := ms h
    exact ha.e _ _ h1 _ _ (hb.e _ _ h2 _ _ (dKey_ok h3 h4 fun _ => hq))
  | dget a b d ha hb hd => exact ⟨noE (by simp [ev]), noL (by simp [evL]), noI (by simp [evI])⟩
  | dset a b d ha hb hd => exact ⟨noE (by simp [ev]), noL (by simp [evL]), noI (by simp [evI])⟩
  | attr a f cs ha =>
    refine ⟨fun p v h Q X hq => ?_, noL (by simp [evL]), noI (by simp [evI])⟩
    simp only [ev] at h; simp only [wE]
    obtain ⟨x, h1, h⟩ := bs h
    refine ha.e _ _ h1 _ _ ?_
    split at h
    · split at h
      · rename_i e
        obtain ⟨hc, h⟩ := is h
        exact ⟨_, _, _, v, rfl, e, hc, h, hq⟩
      · cases h
    · cases h
  | mcall a m c i es ha he => exact ⟨noE (by simp [ev]), noL (by simp [evL]), noI (by simp [evI])⟩
  | new c i es he => exact ⟨noE (by simp [ev]), noL (by simp [evL]), noI (by simp [evI])⟩
  | isc a c ha =>
    refine ⟨fun p v h Q X hq => ?_, noL (by simp [evL]), noI (by simp [evI])⟩
    simp only [ev] at h; simp only [wE]
    obtain ⟨x, h1, h⟩ := bs h
    refine ha.e _ _ h1 _ _ ?_
    split at h
    · split at h
      · rename_i e
        obtain ⟨hc, h⟩ := is h
        cases h
        subst hc
        exact ⟨_, _, rfl, e, hq⟩
      · cases h
    · cases h
  | dct0 => exact ⟨fun p v h Q X hq => by simp only [ev] at h; cases h; simpa only [wE] using hq, noL (by simp [evL]), noI (by simp [evI])⟩
  | dct1 k i =>
    refine ⟨fun p v h Q X hq => ?_, noL (by simp [evL]), noI (by simp [evI])⟩
    simp only [ev] at h; simp only [wE]
    obtain ⟨o, h4, rfl⟩ := ms h
    obtain ⟨o', e, h4⟩ := bs h4
    subst h4
    exact ⟨_, e, hq⟩
  | gty i j => exact ⟨fun p v h Q X hq => by simp only [ev] at h; cases h; simpa only [wE] using hq, noL (by simp [evL]), noI (by simp [evI])⟩
  | bin op m a b ha hb =>
    refine ⟨fun p v h Q X hq => ?_, noL (by simp [evL]), noI (by simp [evI])⟩
    simp only [ev] at h; simp only [wE]
    by_cases hm : m = true
    · rw [if_pos hm] at h; cases h
    · rw [if_neg hm] at h
      obtain ⟨x, h1, h⟩ := bs h
      obtain ⟨y, h2, h⟩ := bs h
      exact ha.e _ _ h1 _ _ (hb.e _ _ h2 _ _ (binO_ok (by simpa using hm) h hq))
  | neg a ha =>
    refine ⟨fun p v h Q X hq => ?_, noL (by simp [evL]), noI (by simp [evI])⟩
    simp only [ev] at h; simp only [wE]
    obtain ⟨i, h5, rfl⟩ := ms h
    obtain ⟨x, h1, h6⟩ := bs h5
    exact ha.e _ _ h1 _ _ ⟨i, isInt_of h6, hq⟩
  | cmp op a b ha hb =>
    refine ⟨fun p v h Q X hq => ?_, noL (by simp [evL]), noI (by simp [evI])⟩
    simp only [ev] at h; simp only [wE]
    obtain ⟨x, h1, h⟩ := bs h
    obtain ⟨y, h2, h⟩ := bs h
    obtain ⟨k, h3, rfl⟩ := ms h
    exact ha.e _ _ h1 _ _ (hb.e _ _ h2 _ _ (cmpO_ok h3 hq))
  | chain op op2 a b c ha hb hc =>
    refine ⟨fun p v h Q X hq => ?_, noL (by simp [evL]), noI (by simp [evI])⟩
    simp only [ev] at h; simp only [wE]
    obtain ⟨x, h1, h⟩ := bs h
    obtain ⟨y, h2, h⟩ := bs h
    obtain ⟨k, h3, h⟩ := bs h
    refine ha.e _ _ h1 _ _ (hb.e _ _ h2 _ _ (cmpO_ok h3 ?_))
    cases k with
    | true =>
      rw [if_pos rfl] at h ⊢
      obtain ⟨z, h4, h⟩ := bs h
      obtain ⟨k, h5, rfl⟩ := ms h
      exact hc.e _ _ h4 _ _ (cmpO_ok h5 hq)
    | false => rw [if_neg Bool.false_ne_true] at h ⊢; cases h; exact hq
  | and a b ha hb =>
    refine ⟨fun p v h Q X hq => ?_, noL (by simp [evL]), noI (by simp [evI])⟩
    simp only [ev] at h; simp only [wE]
    obtain ⟨k, h1, h⟩ := bs h
    obtain ⟨x, h2, h1⟩ := bs h1
    refine ha.e _ _ h2 _ _ ⟨k, isBl_of h1, ?_⟩
    cases k with
    | true => rw [if_pos rfl] at h ⊢; exact hb.e _ _ h _ _ hq
    | false => rw [if_neg Bool.false_ne_true] at h ⊢; cases h; exact hq
  | or a b ha hb =>
    refine ⟨fun p v h Q X hq => ?_, noL (by simp [evL]), noI (by simp [evI])⟩
    simp only [ev] at h; simp only [wE]
    obtain ⟨k, h1, h⟩ := bs h
    obtain ⟨x, h2, h1⟩ := bs h1
    refine ha.e _ _ h2 _ _ ⟨k, isBl_of h1, ?_⟩
    cases k with
    | true => rw [if_pos rfl] at h ⊢; cases h; exact hq
    | false => rw [if_neg Bool.false_ne_true] at h ⊢; exact hb.e _ _ h _ _ hq
  | not a ha =>
    refine ⟨fun p v h Q X hq => ?_, noL (by simp [evL]), noI (by simp [evI])⟩
    simp only [ev] at h; simp only [wE]
    obtain ⟨k, h1, rfl⟩ := ms h
    obtain ⟨x, h2, h1⟩ := bs h1
    exact ha.e _ _ h2 _ _ ⟨k, isBl_of h1, hq⟩
  | ite c a b hc ha hb =>
    refine ⟨fun p v h Q X hq => ?_, noL (by simp [evL]), noI (by simp [evI])⟩
    simp only [ev] at h; simp only [wE]
    obtain ⟨k, h1, h⟩ := bs h
    obtain ⟨x, h2, h1⟩ := bs h1
    refine hc.e _ _ h2 _ _ ⟨k, isBl_of h1, ?_⟩
    cases k with
    | true => rw [if_pos rfl] at h ⊢; exact ha.e _ _ h _ _ hq
    | false => rw [if_neg Bool.false_ne_true] at h ⊢; exact hb.e _ _ h _ _ hq
  | tup es he =>
    refine ⟨fun p v h Q X hq => ?_, noL (by simp [evL]), noI (by simp [evI])⟩
    simp only [ev] at h; simp only [wE]
    obtain ⟨xs, h1, h⟩ := bs h
    obtain ⟨c, h⟩ := is h; cases h
    exact he.l _ _ h1 _ _ ⟨c, hq⟩
  | lst m es he =>
    refine ⟨fun p v h Q X hq => ?_, noL (by simp [evL]), noI (by simp [evI])⟩
    simp only [ev] at h; simp only [wE]
    cases m with
    | true => rw [if_pos rfl] at h; cases h
    | false =>
      rw [if_neg Bool.false_ne_true] at h
      obtain ⟨xs, h1, h⟩ := bs h
      obtain ⟨c, h⟩ := is h; cases h
      exact he.l _ _ h1 _ _ ⟨c, hq⟩
  | ix a b ha hb =>
    refine ⟨fun p v h Q X hq => ?_, noL (by simp [evL]), noI (by simp [evI])⟩
    simp only [ev] at h; simp only [wE]
    obtain ⟨x, h1, h⟩ := bs h
    obtain ⟨y, h2, h⟩ := bs h
    exact ha.e _ _ h1 _ _ (hb.e _ _ h2 _ _ (ixO_ok h hq))
  | slc m a lo hi ha hl hh =>
    refine ⟨fun p v h Q X hq => ?_, noL (by simp [evL]), noI (by simp [evI])⟩
    simp only [ev] at h; simp only [wE]
    cases m with
    | true => rw [if_pos rfl] at h; cases h
    | false =>
      rw [if_neg Bool.false_ne_true] at h
      obtain ⟨x, h1, h⟩ := bs h
      obtain ⟨l, h2, h⟩ := bs h
      obtain ⟨u, h3, h⟩ := bs h
      have part : ∀ {e : E} (he : EO G F e) {o : Option Int}, (if isNonE e = true then some none else ((ev G e p).bind isInt).map some) = some o → ∀ {Q : Option Int → PSt → Prop}, Q o p → partW (isNonE e) (wE F e) p Q X := fun {e} he {o} h {Q} hq => by
        cases hn : isNonE e with
        | true =>
          rw [hn, if_pos rfl] at h; cases h
          exact hq
        | false =>
          rw [hn, if_neg Bool.false_ne_true] at h
          obtain ⟨i, h5, rfl⟩ := ms h
          obtain ⟨x, h4, h6⟩ := bs h5
          exact he.e _ _ h4 _ _ ⟨i, isInt_of h6, hq⟩
      exact ha.e _ _ h1 _ _ (part hl h2 (part hh h3 (slcO_ok rfl h hq)))
  | call f es he =>
    refine ⟨fun p v h Q X hq => ?_, noL (by simp [evL]), noI (by simp [evI])⟩
    simp only [ev] at h; simp only [wE]
    obtain ⟨xs, h1, h⟩ := bs h
    exact he.l _ _ h1 _ _ (hG f xs v h _ _ _ hq)
  | blt f m es he =>
    refine ⟨fun p v h Q X hq => ?_, noL (by simp [evL]), noI (by simp [evI])⟩
    simp only [ev] at h; simp only [wE]
    obtain ⟨xs, h1, h⟩ := bs h
    exact he.l _ _ h1 _ _ (bltO_ok h hq)
  | isi a ns t ha =>
    refine ⟨fun p v h Q X hq => ?_, noL (by simp [evL]), noI (by simp [evI])⟩
    simp only [ev] at h; simp only [wE]
    obtain ⟨x, h1, h⟩ := bs h
    obtain ⟨k, h3, rfl⟩ := ms h
    exact ha.e _ _ h1 _ _ (isiO_ok h3 hq)
  | meth f a es ha he =>
    refine ⟨fun p v h Q X hq => ?_, noL (by simp [evL]), noI (by simp [evI])⟩
    simp only [ev] at h; simp only [wE]
    obtain ⟨x, h1, h⟩ := bs h
    obtain ⟨xs, h2, h⟩ := bs h
    obtain ⟨q1, q2⟩ := methO_ok h hq
    exact ha.e _ _ h1 _ _ ⟨q1, he.l _ _ h2 _ _ q2⟩
  | lc m own tg it c e hi hc he =>
    refine ⟨fun p v h Q X hq => ?_, noL (by simp [evL]), noI (by simp [evI])⟩
    simp only [ev] at h; simp only [wE]
    cases m with
    | true => rw [if_pos rfl] at h; cases h
    | false =>
      rw [if_neg Bool.false_ne_true] at h
      obtain ⟨xs, h1, h⟩ := bs h
      obtain ⟨hl, h⟩ := is h
      obtain ⟨ys, h2, rfl⟩ := ms h
      refine hi.i _ _ h1 _ _ fun stay hst => ?_
      refine lcO_ok (p := { p with env := wipeP p.env (own.map (·.2)) }) (hst _ rfl) (fun x y hf R hr => ?_) xs [] ys h2 (by simpa using hl) ?_
      · obtain ⟨env, t1, hf⟩ := bs hf
        obtain ⟨k, t2, hf⟩ := bs hf
        obtain ⟨z, t3, t2⟩ := bs t2
        refine tO_ok tg x _ env _ t1 (hc.e _ _ t3 _ _ ⟨k, isBl_of t2, ?_⟩)
        cases k with
        | true =>
          rw [if_pos rfl] at hf ⊢
          obtain ⟨w, t4, rfl⟩ := ms hf
          exact he.e _ _ t4 _ _ hr
        | false => rw [if_neg Bool.false_ne_true] at hf ⊢; cases hf; exact hr
      · have := lcO_len h2
        exact ⟨by rw [List.nil_append]; exact Nat.le_trans this hl, hq⟩
  | lc2 => exact ⟨noE (by simp [ev]), noL (by simp [evL]), noI (by simp [evI])⟩
  | seq e he =>
    refine ⟨noE (by simp [ev]), noL (by simp [evL]), fun p xs h Q X hq => ?_⟩
    simp only [evI] at h; simp only [wI]
    obtain ⟨x, h1, h⟩ := bs h
    exact he.e _ _ h1 _ _ (src1_ok h hq)
  | seqd e he =>
    refine ⟨noE (by simp [ev]), noL (by simp [evL]), fun p xs h Q X hq => ?_⟩
    simp only [evI] at h; simp only [wI]
    obtain ⟨es, h1, rfl⟩ := ms h
    obtain ⟨x, h2, h1⟩ := bs h1
    obtain ⟨n, g, rfl, h3⟩ := dct_of h1
    exact he.e _ _ h2 _ _ ⟨n, es, g, rfl, h3, hq _ fun q hs => by show q.st[n]? = _; rw [hs]; exact h3⟩
  | rng1 e he =>
    refine ⟨noE (by simp [ev]), noL (by simp [evL]), fun p xs h Q X hq => ?_⟩
    simp only [evI] at h; simp only [wI]
    obtain ⟨n, h1, h⟩ := bs h
    obtain ⟨x, h2, h1⟩ := bs h1
    obtain ⟨c, h⟩ := is h; cases h
    exact he.e _ _ h2 _ _ ⟨n, isInt_of h1, rngOk_of c, hq _ fun _ _ => trivial⟩
  | rng2 a b ha hb =>
    refine ⟨noE (by simp [ev]), noL (by simp [evL]), fun p xs h Q X hq => ?_⟩
    simp only [evI] at h; simp only [wI]
    obtain ⟨lo, h1, h⟩ := bs h
    obtain ⟨x, h2, h1⟩ := bs h1
    obtain ⟨hi, h3, h⟩ := bs h
    obtain ⟨y, h4, h3⟩ := bs h3
    obtain ⟨c, h⟩ := is h; cases h
    exact ha.e _ _ h2 _ _ (hb.e _ _ h4 _ _ ⟨lo, hi, isInt_of h1, isInt_of h3, rngOk_of c, hq _ fun _ _ => trivial⟩)
  | enum e he =>
    refine ⟨noE (by simp [ev]), noL (by simp [evL]), fun p xs h Q X hq => ?_⟩
    simp only [evI] at h; simp only [wI]
    obtain ⟨ys, h5, rfl⟩ := ms h
    obtain ⟨x, h1, h6⟩ := bs h5
    exact he.e _ _ h1 _ _ (src1_ok h6 fun s t => hq s t)
  | zip a b ha hb =>
    refine ⟨noE (by simp [ev]), noL (by simp [evL]), fun p xs h Q X hq => ?_⟩
    simp only [evI] at h; simp only [wI]
    obtain ⟨x, h1, h⟩ := bs h
    obtain ⟨y, h2, h⟩ := bs h
    obtain ⟨c, h⟩ := is h
    obtain ⟨us, h3, h⟩ := bs h
    obtain ⟨ws, h4, rfl⟩ := ms h
    exact ha.e _ _ h1 _ _ (hb.e _ _ h2 _ _ ⟨c, src1_ok h3 fun s1 t1 => src1_ok h4 fun s2 t2 => hq _ fun q hs => ⟨t1 q hs, t2 q hs⟩⟩)
  | nil => exact ⟨noE (by simp [ev]), fun p v h Q X hq => by simp only [evL] at h; cases h; simpa only [wL] using hq, noI (by simp [evI])⟩
  | cons a es ha he =>
    refine ⟨noE (by simp [ev]), fun p v h Q X hq => ?_, noI (by simp [evI])⟩
    simp only [evL] at h; simp only [wL]
    obtain ⟨x, h1, h⟩ := bs h
    obtain ⟨xs, h2, rfl⟩ := ms h
    exact ha.e _ _ h1 _ _ (he.l _ _ h2 _ _ hq)
end
end Den

/-! D5c: ev, step by step. -/
namespace Den
open PySem (Str PyData CmpOp Operator)
section
variable {G : Orc} {p : PSt} {F : FT}
theorem ev_var (i : Nat) : ev G (.var i) p = (p.env[i]?).bind id := by simp only [ev]
theorem ev_int (i : Int) : ev G (.int i) p = some (.int i) := by simp only [ev]
theorem ev_bl (i : Bool) : ev G (.bl i) p = some (.bl i) := by simp only [ev]
theorem ev_non : ev G .non p = some .non := by simp only [ev]
theorem ev_str (i : Str) : ev G (.str i) p = some (.str i) := by simp only [ev]
theorem ev_gint (x : Str) (i : Int) : ev G (.gint x i) p = some (.int i) := by simp only [ev]
theorem ev_gstr (x : Str) (i : Str) : ev G (.gstr x i) p = some (.str i) := by simp only [ev]
theorem ev_trg1 (t m : Bool) (a : E) : ev G (.trg1 t m a) p = ((ev G a p).bind isInt).bind fun n => rngO t m 0 n := by simp only [ev]
theorem ev_trg2 (t m : Bool) (a b : E) : ev G (.trg2 t m a b) p = ((ev G a p).bind isInt).bind fun lo => ((ev G b p).bind isInt).bind fun hi => rngO t m lo hi := by simp only [ev]
theorem ev_ixd (a b : E) : ev G (.ixd a b) p = (ev G a p).bind fun x => (ev G b p).bind fun y => (dctO p x).bind fun es => (nkO y).bind fun k => getK es k := by simp only [ev]
theorem ev_ind (n : Bool) (a b : E) : ev G (.ind n a b) p = (ev G a p).bind fun x => (ev G b p).bind fun y => (dctO p y).bind fun es => (nkO x).map fun k => .bl (if n then !(getK es k).isSome else (getK es k).isSome) := by simp only [ev]
theorem ev_attr (a : E) (f : Str) (cs : List Str) : ev G (.attr a f cs) p = (ev G a p).bind fun x => match x with
    | .ref n => match p.st[n]? with
      | some (.ins c fs) => if c ∈ cs then fs.lookup f else none
      | _ => none
    | _ => none := by simp only [ev] <;> rfl
theorem ev_isc (a : E) (k : Str) : ev G (.isc a k) p = (ev G a p).bind fun x => match x with
    | .ref n => match p.st[n]? with
      | some (.ins c fs) => if c = k then some (.bl true) else none
      | _ => none
    | _ => none := by simp only [ev] <;> rfl
theorem ev_dct0 : ev G .dct0 p = some .dct := by simp only [ev]
theorem ev_dct1 (k : Int) (i : Nat) : ev G (.dct1 k i) p = ((p.env[i]?).bind id).map fun _ => .dct := by simp only [ev]
theorem ev_bin (op : Operator) (a b : E) : ev G (.bin op false a b) p = (ev G a p).bind fun x => (ev G b p).bind fun y => binO op x y p := by
  simp only [ev]; rfl
theorem ev_neg (a : E) : ev G (.neg a) p = ((ev G a p).bind isInt).map fun i => .int (-i) := by simp only [ev]
theorem ev_cmp (op : CmpOp) (a b : E) : ev G (.cmp op a b) p = (ev G a p).bind fun x => (ev G b p).bind fun y => (cmpO op x y p).map .bl := by simp only [ev]
theorem ev_chain (o1 o2 : CmpOp) (a b c : E) : ev G (.chain o1 o2 a b c) p = (ev G a p).bind fun x => (ev G b p).bind fun y => (cmpO o1 x y p).bind fun k => if k = true then (ev G c p).bind fun z => (cmpO o2 y z p).map .bl else some (.bl false) := by simp only [ev]
theorem ev_and (a b : E) : ev G (.and a b) p = ((ev G a p).bind isBl).bind fun k => if k = true then ev G b p else some (.bl false) := by simp only [ev]
theorem ev_or (a b : E) : ev G (.or a b) p = ((ev G a p).bind isBl).bind fun k => if k = true then some (.bl true) else ev G b p := by simp only [ev]
theorem ev_not (a : E) : ev G (.not a) p = ((ev G a p).bind isBl).map fun k => .bl (!k) := by simp only [ev]
theorem ev_ite (c a b : E) : ev G (.ite c a b) p = ((ev G c p).bind isBl).bind fun k => if k = true then ev G a p else ev G b p := by simp only [ev]
theorem ev_tup (es : E) : ev G (.tup es) p = (evL G es p).bind fun xs => if xs.length ≤ 16777216 then some (.tup xs) else none := by simp only [ev]
theorem ev_lst (es : E) : ev G (.lst false es) p = (evL G es p).bind fun xs => if xs.length ≤ 16777216 then some (.lst xs) else none := by
  simp only [ev]; rfl
theorem ev_ix (a b : E) : ev G (.ix a b) p = (ev G a p).bind fun x => (ev G b p).bind fun y => ixO x y p := by simp only [ev]
theorem ev_call (f : Nat) (es : E) : ev G (.call f es) p = (evL G es p).bind fun xs => G f xs := by simp only [ev]
theorem ev_blt (f : Blt) (m : Bool) (es : E) : ev G (.blt f m es) p = (evL G es p).bind fun xs => bltO f m xs p := by simp only [ev]
theorem ev_isi (a : E) (ns : List (Str × String)) (t : Bool) : ev G (.isi a ns t) p = (ev G a p).bind fun x => (isiO x ns p).map .bl := by simp only [ev]
theorem ev_meth (f : Mth) (a es : E) : ev G (.meth f a es) p = (ev G a p).bind fun x => (evL G es p).bind fun xs => methO f x xs p := by simp only [ev]
theorem ev_slc (a lo hi : E) : ev G (.slc false a lo hi) p = (ev G a p).bind fun x => (if isNonE lo then some none else ((ev G lo p).bind isInt).map some).bind fun l => (if isNonE hi then some none else ((ev G hi p).bind isInt).map some).bind fun h => slcO x l h p := by
  simp only [ev]; rfl
theorem lcO_mapF {α : Type} {f : PV → Option (Option PV)} {g h : α → PV} {k : α → Bool} : ∀ {xs : List α}, (∀ x ∈ xs, f (g x) = some (if k x then some (h x) else none)) → lcO f (xs.map g) = some ((xs.filter k).map h)
  | [], _ => rfl
  | x :: xs, hf => by
    rw [List.map_cons, lcO, hf x List.mem_cons_self, Option.bind_some, lcO_mapF fun y hy => hf y (List.mem_cons_of_mem _ hy)]
    cases e : k x <;> simp [e]
/-- a comprehension's value -/
theorem ev_lc {α : Type} {own : List (Str × Nat)} {tg : T} {it c e : E} (g h : α → PV) (k : α → Bool) (xs : List α) (hi : evI G it p = some (xs.map g)) (hl : xs.length ≤ 16777216)
    (hf : ∀ x ∈ xs, ∃ env, tO tg (g x) (wipeP p.env (own.map (·.2))) = some env ∧ ev G c ⟨env, p.st⟩ = some (.bl (k x)) ∧ (k x = true → ev G e ⟨env, p.st⟩ = some (h x))) : ev G (.lc false own tg it c e) p = some (.lst ((xs.filter k).map h)) := by
  simp only [ev]
  rw [if_neg Bool.false_ne_true, hi, Option.bind_some, List.length_map, if_pos hl, lcO_mapF (k := k) (h := h)]
  · rfl
  · intro x hx
    obtain ⟨env, h1, h2, h3⟩ := hf x hx
    rw [h1, Option.bind_some, h2]
    cases e : k x with
    | true => simp [isBl, h3 e]
    | false => simp [isBl]
theorem ev_lcA {α : Type} {own : List (Str × Nat)} {tg : T} {it e : E} (g h : α → PV) (xs : List α) (hi : evI G it p = some (xs.map g)) (hl : xs.length ≤ 16777216)
    (hf : ∀ x ∈ xs, ∃ env, tO tg (g x) (wipeP p.env (own.map (·.2))) = some env ∧ ev G e ⟨env, p.st⟩ = some (h x)) : ev G (.lc false own tg it (.bl true) e) p = some (.lst (xs.map h)) := by
  have := ev_lc (G := G) (p := p) (own := own) (tg := tg) (it := it) (c := .bl true) (e := e) g h (fun _ => true) xs hi hl fun x hx => by
    obtain ⟨env, h1, h2⟩ := hf x hx
    exact ⟨env, h1, ev_bl true, fun _ => h2⟩
  rw [List.filter_eq_self.mpr (fun _ _ => rfl)] at this
  exact this
theorem wF_runE {tbl : List Fn} {d i : Nat} {xs : List PV} {st : Store} {Q : PV → Store → Prop} {X : PX → Store → Prop} (np n : Nat) (b : S) (env : List (Option PV)) (h1 : tbl[i]? = some ⟨np, n, b⟩) (h2 : xs.length = np) (h3 : np ≤ n)
    (he : xs.map some ++ List.replicate (n - xs.length) none = env) (h : wS (wF tbl d) b ⟨env, st⟩ { nx := fun p => Q .non p.st, rt := fun v p => Q v p.st, ex := fun x p => X x p.st }) : wF tbl (d + 1) i xs st Q X := by
  subst he
  exact wF_run np n b h1 h2 h3 h
theorem seqE {a b : S} {D : Post} (h : wS F a p { D with nx := fun p' => wS F b p' D }) : wS F (.seq a b) p D := by
  simp only [wS]; exact h
theorem nopE {D : Post} (h : D.nx p) : wS F .nop p D := by
  simp only [wS]; exact h
theorem exprG (hG : GOkF G F) {e : E} {D : Post} {v : PV} (h : ev G e p = some v) (h1 : D.nx p) : wS F (.expr e) p D := by
  simp only [wS]
  exact (eo_all hG e).e _ _ h _ _ h1
theorem forG (hG : GOkF G F) {t : T} {it : E} {b : S} {D : Post} {xs : List PV} (h : evI G it p = some xs) (h1 : ∀ stay, (∀ q : PSt, q.st = p.st → stay q) → forLoop (fun x p2 D' => wT t x p2 fun p3 => wS F b p3 D') stay xs p D) : wS F (.for t it b) p D := by
  simp only [wS]
  exact (eo_all hG it).i _ _ h _ _ h1
/-- one more fact of a def -/
noncomputable def one (f0 : Nat) (xs0 : List PV) (v0 : PV) (G : Orc) : Orc := fun f xs => if (Classical.propDecidable (f = f0 ∧ xs = xs0)).decide then some v0 else G f xs
theorem one_eq {f0 : Nat} {xs0 : List PV} {v0 : PV} : one f0 xs0 v0 G f0 xs0 = some v0 := by
  unfold one
  rw [if_pos (by simp)]
theorem one_ne {f0 f : Nat} {xs0 xs : List PV} {v0 : PV} (h : f ≠ f0) : one f0 xs0 v0 G f xs = G f xs := by
  unfold one
  rw [if_neg (by simp [h])]
theorem one_ok {f0 : Nat} {xs0 : List PV} {v0 : PV} (hG : GOkF G F) (h : ∀ (st : Store) (Q : PV → Store → Prop) (X : PX → Store → Prop), Q v0 st → F f0 xs0 st Q X) : GOkF (one f0 xs0 v0 G) F := fun f xs v e st Q X hq => by
  unfold one at e
  split at e
  · rename_i hc
    have hc : f = f0 ∧ xs = xs0 := by simpa using hc
    obtain ⟨rfl, rfl⟩ := hc
    cases e
    exact h st Q X hq
  · exact hG f xs v e st Q X hq
theorem wE_lc2 {α β : Type} (hG : GOkF G F) {own : List (Str × Nat)} {vs1 : List Nat} {tg tg1 : T} {it it1 e : E} {Q : QV} {X : QX} (g : α → PV) (g1 : β → PV) (f : α → List β) (h : α → β → PV) (xs : List α) (N : Nat) (hi : evI G it p = some (xs.map g)) (hN : xs.length * N ≤ 16777216)
    (hf : ∀ x ∈ xs, (f x).length ≤ N ∧ ∃ env, tO tg (g x) (wipeP p.env (own.map (·.2))) = some env ∧ evI G it1 ⟨env, p.st⟩ = some ((f x).map g1) ∧ ∀ y ∈ f x, ∃ env2, tO tg1 (g1 y) (wipeP env vs1) = some env2 ∧ ev G e ⟨env2, p.st⟩ = some (h x y))
    (hq : Q (.lst (xs.flatMap fun x => (f x).map (h x))) p) : wE F (.lc2 false own vs1 tg it tg1 it1 (.bl true) e) p Q X := by
  simp only [wE]
  refine (eo_all hG it).i _ _ hi _ _ fun stay hst => ?_
  have go : ∀ (ys : List α) (acc : List PV) (R : List PV → PSt → Prop), (∀ y ∈ ys, y ∈ xs) → acc.length + ys.length * N ≤ 16777216 → R (acc ++ ys.flatMap fun x => (f x).map (h x)) { p with env := wipeP p.env (own.map (·.2)) } →
      lcOut (fun x acc p2 R => wT tg x p2 fun p3 => wI F it1 p3 (fun ys stay1 p4 =>
          lcLoop (fun y p5 R1 => wT tg1 y p5 fun p6 => wE F (.bl true) p6 (fun k p7 => ∃ b, k = .bl b ∧ if b = true then wE F e p7 (fun z p8 => R1 (some z) { p8 with env := wipeP p4.env vs1 }) noX else R1 none { p7 with env := wipeP p4.env vs1 }) noX)
            stay1 ys acc { p4 with env := wipeP p4.env vs1 } fun acc' p9 => R acc' { p9 with env := wipeP p.env (own.map (·.2)) }) noX) stay (ys.map g) acc { p with env := wipeP p.env (own.map (·.2)) } R := by
    intro ys
    induction ys with
    | nil =>
      intro acc R _ _ hR
      simp only [List.flatMap_nil, List.append_nil] at hR
      exact ⟨hst _ rfl, hR⟩
    | cons y ys ih =>
      intro acc R hy hl hR
      obtain ⟨hlen, env, t1, t2, t3⟩ := hf y (hy y List.mem_cons_self)
      refine ⟨hst _ rfl, tO_ok tg (g y) _ env _ t1 ?_⟩
      refine (eo_all hG it1).i _ _ t2 _ _ fun stay1 hst1 => ?_
      have hl' : acc.length + N + ys.length * N ≤ 16777216 := by
        rw [List.length_cons, Nat.add_mul, Nat.one_mul] at hl
        omega
      have inner : ∀ (zs : List β) (acc : List PV) (R : List PV → PSt → Prop), (∀ z ∈ zs, z ∈ f y) → acc.length + zs.length ≤ 16777216 → R (acc ++ zs.map (h y)) { env := wipeP env vs1, st := p.st } →
          lcLoop (fun y p5 R1 => wT tg1 y p5 fun p6 => wE F (.bl true) p6 (fun k p7 => ∃ b, k = .bl b ∧ if b = true then wE F e p7 (fun z p8 => R1 (some z) { p8 with env := wipeP env vs1 }) noX else R1 none { p7 with env := wipeP env vs1 }) noX) stay1 (zs.map g1) acc { env := wipeP env vs1, st := p.st } R := by
        intro zs
        induction zs with
        | nil =>
          intro acc R _ _ hR
          rw [List.map_nil, List.append_nil] at hR
          exact ⟨hst1 _ rfl, hR⟩
        | cons z zs ihz =>
          intro acc R hz hl hR
          rw [List.length_cons] at hl
          obtain ⟨env2, u1, u2⟩ := t3 z (hz z List.mem_cons_self)
          refine ⟨hst1 _ rfl, tO_ok tg1 (g1 z) _ env2 _ u1 ?_⟩
          simp only [wE]
          refine ⟨true, rfl, ?_⟩
          rw [if_pos rfl]
          refine (eo_all hG e).e _ _ u2 _ _ ?_
          refine ⟨by omega, ihz (acc ++ [h y z]) R (fun x hx => hz x (List.mem_cons_of_mem _ hx)) (by simp; omega) ?_⟩
          rw [List.append_assoc]
          exact hR
      refine inner (f y) acc _ (fun _ h => h) (by omega) ?_
      refine ih _ R (fun x hx => hy x (List.mem_cons_of_mem _ hx)) (by simp; omega) ?_
      rw [List.append_assoc]
      rw [List.flatMap_cons] at hR
      exact hR
  have tot : ∀ ys : List α, (∀ y ∈ ys, y ∈ xs) → (ys.flatMap fun x => (f x).map (h x)).length ≤ ys.length * N := by
    intro ys
    induction ys with
    | nil => intro _; simp
    | cons y ys ih =>
      intro hy
      rw [List.flatMap_cons, List.length_append, List.length_map, List.length_cons, Nat.add_mul, Nat.one_mul]
      have := ih fun x hx => hy x (List.mem_cons_of_mem _ hx)
      have := (hf y (hy y List.mem_cons_self)).1
      omega
  refine go xs [] (fun ys p6 => mkL false ys { p6 with env := p.env } Q) (fun _ h => h) (by simpa using hN) ⟨?_, hq⟩
  rw [List.nil_append]
  exact Nat.le_trans (tot xs fun _ h => h) hN
end
end Den

/-! D6: the laws' own hand and draws (the numbers of k65, k68, k69), over any table. -/
namespace Den
def hb0 : S := (.seq (.asg (.name 1) (.lc false [("cell", 2)] (.name 2) (.seq (.slc false (.var 0) .non (.int 63))) (.bl true) (.blt .abs false (.cons (.blt .int false (.cons (.var 2) .nil)) .nil))))
    (.seq (.ret (.lst true (.cons (.var 1) (.cons (.int 0) (.cons (.int 0) (.cons (.bin .Add false (.int 97) (.bin .Mult false (.int 5) (.blt .len false (.cons (.var 1) .nil)))) (.cons (.int 0) .nil)))))))
    .nop))
def hb1 : S := (.seq (.ite (.and (.cmp .Eq (.ix (.var 0) (.int 2)) (.int 0)) (.cmp .Lt (.ix (.var 0) (.int 1)) (.blt .len false (.cons (.ix (.var 0) (.int 0)) .nil)))) (.seq (.asg (.name 3) (.ix (.ix (.var 0) (.int 0)) (.ix (.var 0) (.int 1))))
    (.seq (.setix (.var 0) (.int 1) (.bin .Add false (.ix (.var 0) (.int 1)) (.int 1)))
    (.seq (.setix (.var 0) (.int 3) (.bin .Mod false (.blt .int false (.cons (.bin .Add false (.bin .Add false (.bin .Mult false (.ix (.var 0) (.int 3)) (.int 48271)) (.var 3)) (.int 31)) .nil)) (.int 2147483647)))
    (.seq (.ite (.cmp .GtE (.var 3) (.bin .Pow false (.int 10) (.int 18))) (.seq (.setix (.var 0) (.int 2) (.var 3))
    .nop) .nop)
    .nop)))) .nop)
    (.seq (.ite (.cmp .Gt (.ix (.var 0) (.int 2)) (.int 0)) (.seq (.asg (.name 4) (.bin .Mod false (.blt .int false (.cons (.ix (.var 0) (.int 2)) .nil)) (.var 1)))
    (.seq (.setix (.var 0) (.int 2) (.bin .FloorDiv false (.ix (.var 0) (.int 2)) (.var 1)))
    (.seq (.ret (.var 4))
    .nop))) .nop)
    (.seq (.setix (.var 0) (.int 4) (.bin .Add false (.ix (.var 0) (.int 4)) (.int 1)))
    (.seq (.asg (.name 2) (.bin .Mod false (.blt .int false (.cons (.bin .Mult false (.blt .int false (.cons (.bin .Add false (.ix (.var 0) (.int 3)) (.bin .Mult false (.int 6151) (.ix (.var 0) (.int 4)))) .nil)) (.int 40692)) .nil)) (.int 2147483399)))
    (.seq (.asg (.name 2) (.bin .Mod false (.blt .int false (.cons (.bin .Mult false (.var 2) (.bin .Add false (.bin .FloorDiv false (.var 2) (.int 1223)) (.int 52027))) .nil)) (.int 2147483629)))
    (.seq (.asg (.name 2) (.bin .Mod false (.blt .int false (.cons (.bin .Mult false (.var 2) (.bin .Add false (.bin .FloorDiv false (.var 2) (.int 2671)) (.int 69621))) .nil)) (.int 2147483647)))
    (.seq (.ret (.bin .Mod false (.blt .int false (.cons (.bin .FloorDiv false (.var 2) (.int 32)) .nil)) (.var 1)))
    .nop)))))))
def hb2 : S := (.seq (.ret (.ix (.var 1) (.call 1 (.cons (.var 0) (.cons (.blt .len false (.cons (.var 1) .nil)) .nil)))))
    .nop)
def hb3 : S := (.seq (.ite (.isi (.var 1) [("tuple", "tuple"), ("list", "list")] true) (.seq (.ite (.or (.cmp .NotEq (.isi (.var 0) [("tuple", "tuple")] false) (.isi (.var 1) [("tuple", "tuple")] false)) (.not (.isi (.var 0) [("tuple", "tuple"), ("list", "list")] true))) (.seq (.ret (.bl false))
    .nop) .nop)
    (.seq (.ret (.and (.cmp .Eq (.blt .len false (.cons (.var 0) .nil)) (.blt .len false (.cons (.var 1) .nil))) (.blt .all false (.cons (.lc false [("one", 2), ("two", 3)] (.tup (.cons (.name 2) (.cons (.name 3) .nil))) (.zip (.var 0) (.var 1)) (.bl true) (.call 3 (.cons (.var 2) (.cons (.var 3) .nil)))) .nil))))
    .nop)) .nop)
    (.seq (.ite (.or (.isi (.var 1) [("str", "str")] false) (.cmp .Is (.var 1) .non)) (.seq (.ret (.and (.cmp .Eq (.isi (.var 0) [("str", "str")] false) (.isi (.var 1) [("str", "str")] false)) (.cmp .Eq (.var 0) (.var 1))))
    .nop) .nop)
    (.seq (.ret (.and (.isi (.var 0) [("int", "int")] false) (.and (.cmp .Eq (.isi (.var 0) [("bool", "bool")] false) (.isi (.var 1) [("bool", "bool")] false)) (.cmp .Eq (.var 0) (.var 1)))))
    .nop)))
/-- the table begins with the hand, the draw, the choice, the comparison -/
structure Hn (tbl : List Fn) : Prop where
  t0 : tbl[0]? = some ⟨1, 3, hb0⟩
  t1 : tbl[1]? = some ⟨2, 5, hb1⟩
  t2 : tbl[2]? = some ⟨2, 2, hb2⟩
  t3 : tbl[3]? = some ⟨2, 4, hb3⟩
abbrev noG : Orc := fun _ _ => none
theorem noG_ok {F : FT} : GOkF noG F := fun _ _ _ h => by cases h
/-- an expression that changes nothing, with no calls -/
theorem e0 {F : FT} {e : E} {p : PSt} {v : PV} {Q : QV} {X : QX} (h : ev noG e p = some v) (hq : Q v p) : wE F e p Q X := (eo_all noG_ok e).e _ _ h _ _ hq
theorem l0 {F : FT} {e : E} {p : PSt} {v : List PV} {Q : List PV → PSt → Prop} {X : QX} (h : evL noG e p = some v) (hq : Q v p) : wL F e p Q X := (eo_all noG_ok e).l _ _ h _ _ hq
/-- the hand at h; n: no more draws than that so far -/
def HandAt (S : Store) (h n : Nat) : Prop := ∃ (cells : List Int) (i a b c : Int), S[h]? = some (.lst [.lst (cells.map .int), .int i, .int a, .int b, .int c]) ∧ (∀ z ∈ cells, 0 ≤ z) ∧ 0 ≤ i ∧ 0 ≤ a ∧ 0 ≤ b ∧ b < 2147483647 ∧ 0 ≤ c ∧ c ≤ n
theorem get_map (cells : List Int) (i : Int) (h0 : 0 ≤ i) (h1 : i < cells.length) : ∃ v, (ixN (cells.map PV.int).length i).bind (fun k => (cells.map PV.int)[k]?) = some (.int v) ∧ v ∈ cells := by
  have hk : i.toNat < cells.length := by omega
  refine ⟨cells[i.toNat], ?_, List.getElem_mem hk⟩
  unfold ixN
  rw [if_pos h0, List.length_map, if_pos (by omega)]
  simp [hk]
theorem set_ok {F : FT} {o i e : E} {p : PSt} {D : Post} {n j : Nat} {k : Int} {xs : List PV} {v : PV} (h1 : ev noG e p = some v) (h2 : ev noG o p = some (.ref n)) (h3 : ev noG i p = some (.int k)) (h4 : p.st[n]? = some (.lst xs)) (h5 : ixN xs.length k = some j) (h6 : D.nx { p with st := p.st.set n (.lst (xs.set j v)) }) :
    wS F (.setix o i e) p D := by
  simp only [wS]
  exact e0 h1 (e0 h2 (e0 h3 ⟨n, xs, k, j, rfl, rfl, h4, h5, h6⟩))
theorem ite_ok {F : FT} {c : E} {a b : S} {p : PSt} {D : Post} (k : Bool) (h : ev noG c p = some (.bl k)) (h1 : k = true → wS F a p D) (h2 : k = false → wS F b p D) : wS F (.ite c a b) p D := by
  simp only [wS]
  refine e0 h ⟨k, rfl, ?_⟩
  cases k with
  | true => exact h1 rfl
  | false => exact h2 rfl
theorem asg_ok {F : FT} {i : Nat} {e : E} {p : PSt} {D : Post} {v : PV} (h : ev noG e p = some v) (hi : i < p.env.length) (h1 : D.nx { p with env := p.env.set i (some v) }) : wS F (.asg (.name i) e) p D := by
  simp only [wS, wT]
  exact e0 h ⟨hi, h1⟩
theorem ret_ok {F : FT} {e : E} {p : PSt} {D : Post} {v : PV} (h : ev noG e p = some v) (h1 : D.rt v p) : wS F (.ret e) p D := by
  simp only [wS]
  exact e0 h h1
theorem seq_ok {F : FT} {a b : S} {p : PSt} {D : Post} (h : wS F a p { D with nx := fun p' => wS F b p' D }) : wS F (.seq a b) p D := by
  simp only [wS]; exact h
theorem nop_ok {F : FT} {p : PSt} {D : Post} (h : D.nx p) : wS F .nop p D := by
  simp only [wS]; exact h
theorem log_small {i : Int} (h0 : 0 ≤ i) (h1 : i < 2147483648) {j : Int} (h2 : 0 ≤ j) (h3 : j < 2147483648000) : i.natAbs.log2 + j.natAbs.log2 < 1000000 := by
  have a : i.natAbs.log2 ≤ 100 := by
    rcases Nat.eq_zero_or_pos i.natAbs with z | z
    · rw [z]; decide
    · have : i.natAbs.log2 < 101 := (Nat.log2_lt (by omega)).mpr (by have : (2 : Nat) ^ 101 > 2147483648 := by decide
                                                                     omega)
      omega
  have b : j.natAbs.log2 ≤ 100 := by
    rcases Nat.eq_zero_or_pos j.natAbs with z | z
    · rw [z]; decide
    · have : j.natAbs.log2 < 101 := (Nat.log2_lt (by omega)).mpr (by have : (2 : Nat) ^ 101 > 2147483648000 := by decide
                                                                     omega)
      omega
  omega
theorem log_one {j : Int} (h2 : 0 ≤ j) (h3 : j < 2147483648000) : j.natAbs.log2 < 9000 := by
  have := log_small (i := 0) (by decide) (by decide) h2 h3
  rcases Nat.eq_zero_or_pos j.natAbs with z | z
  · rw [z]; decide
  · have : j.natAbs.log2 < 101 := (Nat.log2_lt (by omega)).mpr (by have : (2 : Nat) ^ 101 > 2147483648000 := by decide
                                                                   omega)
    omega
abbrev hnd (cells : List Int) (i a b c : Int) : SO := .lst [.lst (cells.map .int), .int i, .int a, .int b, .int c]
theorem p_draw {tbl : List Fn} (hn_ : Hn tbl) (d : Nat) (S : Store) (h n : Nat) (many : Int) {Q : PV → Store → Prop} {X} (hh : HandAt S h n) (hn : n < 1000000) (hm : 0 < many) (hm2 : many < 1000000)
    (hQ : ∀ (r : Int) (T : SO), 0 ≤ r → r < many → HandAt (S.set h T) h (n + 1) → Q (.int r) (S.set h T)) : wF tbl (d + 1) 1 [.ref h, .int many] S Q X := by
  obtain ⟨cells, i, a, b, c, e, hc, hi, ha, hb, hb2, hc0, hcn⟩ := hh
  have hl : h < S.length := (List.getElem?_eq_some_iff.mp e).1
  have gs : ∀ T : SO, (S.set h T)[h]? = some T := fun T => List.getElem?_set_self hl
  have lg1 : b.natAbs.log2 + Nat.log2 48271 < 1000000 := log_small (j := 48271) hb (by omega) (by decide) (by decide)
  have eS : S.set h (hnd cells i a b c) = S := by
    obtain ⟨_, e'⟩ := List.getElem?_eq_some_iff.mp e
    rw [show hnd cells i a b c = S[h] from e'.symm, List.set_getElem_self]
  refine wF_run 2 5 hb1 hn_.t1 rfl (by decide) ?_
  refine cut (fun p => ∃ x3 i' a' b', p = ⟨[some (.ref h), some (.int many), none, x3, none], S.set h (hnd cells i' a' b' c)⟩ ∧ 0 ≤ i' ∧ 0 ≤ a' ∧ 0 ≤ b' ∧ b' < 2147483647) ?_ ?_
  · by_cases hcond : a = 0 ∧ i < cells.length
    · refine ite_ok true (by simp [ev, evL, evI, ixO, itemsO, lisO, ixN, binO, binIO, cmpO, cmpIO, isBl, isInt, bltO, methO, eqO, isNon, isNonE, slcO, isiO, e, hcond]) (fun _ => ?_) (fun z => by cases z)
      obtain ⟨v, hv, hvm⟩ := get_map cells i hi hcond.2
      have hv0 := hc v hvm
      have hv' : (ixN cells.length i).bind (fun a => Option.map PV.int cells[a]?) = some (.int v) := by simpa [ev, evL, evI, ixO, itemsO, lisO, ixN, binO, binIO, cmpO, cmpIO, isBl, isInt, bltO, methO, eqO, isNon, isNonE, slcO, isiO] using hv
      refine seq_ok (asg_ok (v := .int v) (by simp only [ev, ixO, itemsO, lisO, List.map_cons, List.map_nil, List.cons_append, List.getElem?_cons_zero, Option.bind_some, id, e]; simp [ev, evL, evI, ixO, itemsO, lisO, ixN, binO, binIO, cmpO, cmpIO, isBl, isInt, bltO, methO, eqO, isNon, isNonE, slcO, isiO, -ixN, e, hv']; simpa [ev, evL, evI, ixO, itemsO, lisO, ixN, binO, binIO, cmpO, cmpIO, isBl, isInt, bltO, methO, eqO, isNon, isNonE, slcO, isiO, ixN] using hv') (by simp [ev, evL, evI, ixO, itemsO, lisO, ixN, binO, binIO, cmpO, cmpIO, isBl, isInt, bltO, methO, eqO, isNon, isNonE, slcO, isiO]) ?_)
      refine seq_ok (set_ok (n := h) (k := 1) (j := 1) (xs := [.lst (cells.map .int), .int i, .int a, .int b, .int c]) (v := .int (i + 1)) (by simp [ev, evL, evI, ixO, itemsO, lisO, ixN, binO, binIO, cmpO, cmpIO, isBl, isInt, bltO, methO, eqO, isNon, isNonE, slcO, isiO, e]) (by simp [ev, evL, evI, ixO, itemsO, lisO, ixN, binO, binIO, cmpO, cmpIO, isBl, isInt, bltO, methO, eqO, isNon, isNonE, slcO, isiO]) (by simp [ev, evL, evI, ixO, itemsO, lisO, ixN, binO, binIO, cmpO, cmpIO, isBl, isInt, bltO, methO, eqO, isNon, isNonE, slcO, isiO]) e (by simp [ev, evL, evI, ixO, itemsO, lisO, ixN, binO, binIO, cmpO, cmpIO, isBl, isInt, bltO, methO, eqO, isNon, isNonE, slcO, isiO]) ?_)
      refine seq_ok (set_ok (n := h) (k := 3) (j := 3) (xs := [.lst (cells.map .int), .int (i + 1), .int a, .int b, .int c]) (v := .int ((b * 48271 + v + 31) % 2147483647)) (by simp [ev, evL, evI, ixO, itemsO, lisO, ixN, binO, binIO, cmpO, cmpIO, isBl, isInt, bltO, methO, eqO, isNon, isNonE, slcO, isiO, gs, lg1]) (by simp [ev, evL, evI, ixO, itemsO, lisO, ixN, binO, binIO, cmpO, cmpIO, isBl, isInt, bltO, methO, eqO, isNon, isNonE, slcO, isiO]) (by simp [ev, evL, evI, ixO, itemsO, lisO, ixN, binO, binIO, cmpO, cmpIO, isBl, isInt, bltO, methO, eqO, isNon, isNonE, slcO, isiO]) (by simp [ev, evL, evI, ixO, itemsO, lisO, ixN, binO, binIO, cmpO, cmpIO, isBl, isInt, bltO, methO, eqO, isNon, isNonE, slcO, isiO, gs]) (by simp [ev, evL, evI, ixO, itemsO, lisO, ixN, binO, binIO, cmpO, cmpIO, isBl, isInt, bltO, methO, eqO, isNon, isNonE, slcO, isiO]) ?_)
      have hz : 0 ≤ (b * 48271 + v + 31) % 2147483647 := Int.emod_nonneg _ (by decide)
      have hz2 : (b * 48271 + v + 31) % 2147483647 < 2147483647 := Int.emod_lt_of_pos _ (by decide)
      by_cases hbig : v ≥ 10 ^ 18
      · refine seq_ok (ite_ok true (by simp [ev, evL, evI, ixO, itemsO, lisO, ixN, binO, binIO, cmpO, cmpIO, isBl, isInt, bltO, methO, eqO, isNon, isNonE, slcO, isiO, hbig]; exact hbig) (fun _ => ?_) (fun z => by cases z))
        refine seq_ok (set_ok (n := h) (k := 2) (j := 2) (xs := [.lst (cells.map .int), .int (i + 1), .int a, .int ((b * 48271 + v + 31) % 2147483647), .int c]) (v := .int v) (by simp [ev, evL, evI, ixO, itemsO, lisO, ixN, binO, binIO, cmpO, cmpIO, isBl, isInt, bltO, methO, eqO, isNon, isNonE, slcO, isiO]) (by simp [ev, evL, evI, ixO, itemsO, lisO, ixN, binO, binIO, cmpO, cmpIO, isBl, isInt, bltO, methO, eqO, isNon, isNonE, slcO, isiO]) (by simp [ev, evL, evI, ixO, itemsO, lisO, ixN, binO, binIO, cmpO, cmpIO, isBl, isInt, bltO, methO, eqO, isNon, isNonE, slcO, isiO]) (by simp [ev, evL, evI, ixO, itemsO, lisO, ixN, binO, binIO, cmpO, cmpIO, isBl, isInt, bltO, methO, eqO, isNon, isNonE, slcO, isiO, gs]) (by simp [ev, evL, evI, ixO, itemsO, lisO, ixN, binO, binIO, cmpO, cmpIO, isBl, isInt, bltO, methO, eqO, isNon, isNonE, slcO, isiO]) ?_)
        refine nop_ok (F := wF tbl d) ?_
        refine nop_ok (F := wF tbl d) ?_
        refine ⟨some (.int v), i + 1, v, _, ?_, by omega, hv0, hz, hz2⟩
        simp [ev, evL, evI, ixO, itemsO, lisO, ixN, binO, binIO, cmpO, cmpIO, isBl, isInt, bltO, methO, eqO, isNon, isNonE, slcO, isiO]
      · refine seq_ok (ite_ok false (by simp [ev, evL, evI, ixO, itemsO, lisO, ixN, binO, binIO, cmpO, cmpIO, isBl, isInt, bltO, methO, eqO, isNon, isNonE, slcO, isiO, hbig]; omega) (fun z => by cases z) (fun _ => ?_))
        refine nop_ok (F := wF tbl d) ?_
        refine nop_ok (F := wF tbl d) ?_
        refine ⟨some (.int v), i + 1, a, _, ?_, by omega, ha, hz, hz2⟩
        simp [ev, evL, evI, ixO, itemsO, lisO, ixN, binO, binIO, cmpO, cmpIO, isBl, isInt, bltO, methO, eqO, isNon, isNonE, slcO, isiO]
    · refine ite_ok false (by simp [ev, evL, evI, ixO, itemsO, lisO, ixN, binO, binIO, cmpO, cmpIO, isBl, isInt, bltO, methO, eqO, isNon, isNonE, slcO, isiO, e]; by_cases h1 : a = 0 <;> simp_all [ev, evL, evI, ixO, itemsO, lisO, ixN, binO, binIO, cmpO, cmpIO, isBl, isInt, bltO, methO, eqO, isNon, isNonE, slcO, isiO]) (fun z => by cases z) (fun _ => ?_)
      refine nop_ok (F := wF tbl d) ⟨none, i, a, b, ?_, hi, ha, hb, hb2⟩
      rw [eS]; rfl
  · rintro p ⟨x3, i', a', b', rfl, hi', ha', hb', hb2'⟩
    refine cut (fun p => ∃ x3, p = ⟨[some (.ref h), some (.int many), none, x3, none], S.set h (hnd cells i' a' b' c)⟩) ?_ ?_
    · by_cases hp : a' > 0
      · refine ite_ok true (by simp [ev, evL, evI, ixO, itemsO, lisO, ixN, binO, binIO, cmpO, cmpIO, isBl, isInt, bltO, methO, eqO, isNon, isNonE, slcO, isiO, gs]; exact hp) (fun _ => ?_) (fun z => by cases z)
        have lg2 : many.natAbs.log2 < 9000 := log_one (Int.le_of_lt hm) (by omega)
        refine seq_ok (asg_ok (v := .int (a' % many)) (by simp [ev, evL, evI, ixO, itemsO, lisO, ixN, binO, binIO, cmpO, cmpIO, isBl, isInt, bltO, methO, eqO, isNon, isNonE, slcO, isiO, gs, hm]) (by simp [ev, evL, evI, ixO, itemsO, lisO, ixN, binO, binIO, cmpO, cmpIO, isBl, isInt, bltO, methO, eqO, isNon, isNonE, slcO, isiO]) ?_)
        refine seq_ok (set_ok (n := h) (k := 2) (j := 2) (xs := [.lst (cells.map .int), .int i', .int a', .int b', .int c]) (v := .int (a' / many)) (by simp [ev, evL, evI, ixO, itemsO, lisO, ixN, binO, binIO, cmpO, cmpIO, isBl, isInt, bltO, methO, eqO, isNon, isNonE, slcO, isiO, gs, hm, lg2]) (by simp [ev, evL, evI, ixO, itemsO, lisO, ixN, binO, binIO, cmpO, cmpIO, isBl, isInt, bltO, methO, eqO, isNon, isNonE, slcO, isiO]) (by simp [ev, evL, evI, ixO, itemsO, lisO, ixN, binO, binIO, cmpO, cmpIO, isBl, isInt, bltO, methO, eqO, isNon, isNonE, slcO, isiO]) (by simp [ev, evL, evI, ixO, itemsO, lisO, ixN, binO, binIO, cmpO, cmpIO, isBl, isInt, bltO, methO, eqO, isNon, isNonE, slcO, isiO, gs]) (by simp [ev, evL, evI, ixO, itemsO, lisO, ixN, binO, binIO, cmpO, cmpIO, isBl, isInt, bltO, methO, eqO, isNon, isNonE, slcO, isiO]) ?_)
        refine seq_ok (ret_ok (v := .int (a' % many)) (by simp [ev, evL, evI, ixO, itemsO, lisO, ixN, binO, binIO, cmpO, cmpIO, isBl, isInt, bltO, methO, eqO, isNon, isNonE, slcO, isiO]) ?_)
        have := hQ (a' % many) (hnd cells i' (a' / many) b' c) (Int.emod_nonneg _ (by omega)) (Int.emod_lt_of_pos _ hm) ⟨cells, i', a' / many, b', c, gs _, hc, hi', Int.ediv_nonneg ha' (by omega), hb', hb2', hc0, by push_cast; omega⟩
        simpa [ev, evL, evI, ixO, itemsO, lisO, ixN, binO, binIO, cmpO, cmpIO, isBl, isInt, bltO, methO, eqO, isNon, isNonE, slcO, isiO] using this
      · refine ite_ok false (by simp [ev, evL, evI, ixO, itemsO, lisO, ixN, binO, binIO, cmpO, cmpIO, isBl, isInt, bltO, methO, eqO, isNon, isNonE, slcO, isiO, gs]; omega) (fun z => by cases z) (fun _ => ?_)
        exact nop_ok (F := wF tbl d) ⟨x3, rfl⟩
    · rintro p ⟨x3, rfl⟩
      refine seq_ok (set_ok (n := h) (k := 4) (j := 4) (xs := [.lst (cells.map .int), .int i', .int a', .int b', .int c]) (v := .int (c + 1)) (by simp [ev, evL, evI, ixO, itemsO, lisO, ixN, binO, binIO, cmpO, cmpIO, isBl, isInt, bltO, methO, eqO, isNon, isNonE, slcO, isiO, gs]) (by simp [ev, evL, evI, ixO, itemsO, lisO, ixN, binO, binIO, cmpO, cmpIO, isBl, isInt, bltO, methO, eqO, isNon, isNonE, slcO, isiO]) (by simp [ev, evL, evI, ixO, itemsO, lisO, ixN, binO, binIO, cmpO, cmpIO, isBl, isInt, bltO, methO, eqO, isNon, isNonE, slcO, isiO]) (by simp [ev, evL, evI, ixO, itemsO, lisO, ixN, binO, binIO, cmpO, cmpIO, isBl, isInt, bltO, methO, eqO, isNon, isNonE, slcO, isiO, gs]) (by simp [ev, evL, evI, ixO, itemsO, lisO, ixN, binO, binIO, cmpO, cmpIO, isBl, isInt, bltO, methO, eqO, isNon, isNonE, slcO, isiO]) ?_)
      have lg3 : Nat.log2 6151 + (c + 1).natAbs.log2 < 1000000 := log_small (i := 6151) (by decide) (by decide) (by omega) (by omega)
      let n1 := (b' + 6151 * (c + 1)) * 40692 % 2147483399
      refine seq_ok (asg_ok (v := .int n1) (by
        have lg4 : (b' + 6151 * (c + 1)).natAbs.log2 + Nat.log2 40692 < 1000000 := by
          rw [Nat.add_comm]
          exact log_small (i := 40692) (by decide) (by decide) (by omega) (by omega)
        simp [ev, evL, evI, ixO, itemsO, lisO, ixN, binO, binIO, cmpO, cmpIO, isBl, isInt, bltO, methO, eqO, isNon, isNonE, slcO, isiO, gs, lg3, lg4, n1]) (by simp [ev, evL, evI, ixO, itemsO, lisO, ixN, binO, binIO, cmpO, cmpIO, isBl, isInt, bltO, methO, eqO, isNon, isNonE, slcO, isiO]) ?_)
      have h1 : 0 ≤ n1 := Int.emod_nonneg _ (by decide)
      have h1' : n1 < 2147483399 := Int.emod_lt_of_pos _ (by decide)
      generalize n1 = n1 at h1 h1'
      have d1 : 0 ≤ n1 / 1223 := Int.ediv_nonneg h1 (by decide)
      have d1' : n1 / 1223 ≤ n1 := Int.ediv_le_self _ h1
      let n2 := n1 * (n1 / 1223 + 52027) % 2147483629
      refine seq_ok (asg_ok (v := .int n2) (by
        have lg4 : n1.natAbs.log2 + (n1 / 1223 + 52027).natAbs.log2 < 1000000 := log_small h1 (by omega) (by omega) (by omega)
        have lg5 : Nat.log2 1223 < 9000 := by decide
        simp [ev, evL, evI, ixO, itemsO, lisO, ixN, binO, binIO, cmpO, cmpIO, isBl, isInt, bltO, methO, eqO, isNon, isNonE, slcO, isiO, gs, lg4, lg5, n2]) (by simp [ev, evL, evI, ixO, itemsO, lisO, ixN, binO, binIO, cmpO, cmpIO, isBl, isInt, bltO, methO, eqO, isNon, isNonE, slcO, isiO]) ?_)
      have h2 : 0 ≤ n2 := Int.emod_nonneg _ (by decide)
      have h2' : n2 < 2147483629 := Int.emod_lt_of_pos _ (by decide)
      generalize n2 = n2 at h2 h2'
      have d2 : 0 ≤ n2 / 2671 := Int.ediv_nonneg h2 (by decide)
      have d2' : n2 / 2671 ≤ n2 := Int.ediv_le_self _ h2
      let n3 := n2 * (n2 / 2671 + 69621) % 2147483647
      refine seq_ok (asg_ok (v := .int n3) (by
        have lg4 : n2.natAbs.log2 + (n2 / 2671 + 69621).natAbs.log2 < 1000000 := log_small h2 (by omega) (by omega) (by omega)
        have lg5 : Nat.log2 2671 < 9000 := by decide
        simp [ev, evL, evI, ixO, itemsO, lisO, ixN, binO, binIO, cmpO, cmpIO, isBl, isInt, bltO, methO, eqO, isNon, isNonE, slcO, isiO, gs, lg4, lg5, n3]) (by simp [ev, evL, evI, ixO, itemsO, lisO, ixN, binO, binIO, cmpO, cmpIO, isBl, isInt, bltO, methO, eqO, isNon, isNonE, slcO, isiO]) ?_)
      have h3 : 0 ≤ n3 := Int.emod_nonneg _ (by decide)
      generalize n3 = n3 at h3
      refine seq_ok (ret_ok (v := .int (n3 / 32 % many)) (by
        have lg5 : Nat.log2 32 < 9000 := by decide
        simp [ev, evL, evI, ixO, itemsO, lisO, ixN, binO, binIO, cmpO, cmpIO, isBl, isInt, bltO, methO, eqO, isNon, isNonE, slcO, isiO, lg5, hm]) ?_)
      have := hQ (n3 / 32 % many) (hnd cells i' a' b' (c + 1)) (Int.emod_nonneg _ (by omega)) (Int.emod_lt_of_pos _ hm) ⟨cells, i', a', b', c + 1, gs _, hc, hi', ha', hb', hb2', by omega, by push_cast; omega⟩
      simpa [ev, evL, evI, ixO, itemsO, lisO, ixN, binO, binIO, cmpO, cmpIO, isBl, isInt, bltO, methO, eqO, isNon, isNonE, slcO, isiO] using this

section
abbrev vi (l : List Int) : PV := .tup (l.map .int)
abbrev vb (b : List (List Int)) : PV := .tup (b.map vi)
def PC (tbl : List Fn) (d i : Nat) (xs : List PV) (v : PV) : Prop := ∀ (st : Store) (Q : PV → Store → Prop) (X : PX → Store → Prop), Q v st → wF tbl d i xs st Q X
theorem lcO_map {α : Type} {f : PV → Option (Option PV)} {g h : α → PV} : ∀ {xs : List α}, (∀ x ∈ xs, f (g x) = some (some (h x))) → lcO f (xs.map g) = some (xs.map h)
  | [], _ => rfl
  | x :: xs, hf => by
    rw [List.map_cons, lcO, hf x List.mem_cons_self, Option.bind_some, lcO_map fun y hy => hf y (List.mem_cons_of_mem _ hy)]
    rfl
theorem lcO_filter {α : Type} {f : PV → Option (Option PV)} {g h : α → PV} {k : α → Bool} : ∀ {xs : List α}, (∀ x ∈ xs, f (g x) = some (if k x then some (h x) else none)) → lcO f (xs.map g) = some ((xs.filter k).map h)
  | [], _ => rfl
  | x :: xs, hf => by
    rw [List.map_cons, lcO, hf x List.mem_cons_self, Option.bind_some, lcO_filter fun y hy => hf y (List.mem_cons_of_mem _ hy)]
    cases e : k x <;> simp [ev_var, ev_int, ev_bl, ev_non, ev_str, ev_gint, ev_bin, ev_neg, ev_cmp, ev_chain, ev_and, ev_or, ev_not, ev_ite, ev_tup, ev_lst, ev_ix, ev_call, ev_blt, ev_isi, ev_meth, ev_slc, evL, evI, ixO, itemsO, lisO, ixN, binO, binIO, cmpO, cmpIO, isBl, isInt, bltO, methO, eqO, isNon, isNonE, slcO, isiO, tyN, isSub, knownTy, tO, tsO, wipeP, e]
theorem allBl_map {α : Type} (b : α → Bool) : ∀ xs : List α, allBl (xs.map fun x => .bl (b x)) = some (xs.map b)
  | [] => rfl
  | x :: xs => by rw [List.map_cons, allBl, allBl_map b xs]; rfl
theorem allInt_map : ∀ xs : List Int, allInt (xs.map .int) = some xs
  | [] => rfl
  | x :: xs => by rw [List.map_cons, allInt, allInt_map xs]; rfl
theorem enum_map {α : Type} (g : α → PV) : ∀ (xs : List α) (n : Nat), enumL n (xs.map g) = (xs.zipIdx n).map fun p => .tup [.int (p.2 : Nat), g p.1]
  | [], _ => rfl
  | x :: xs, n => by rw [List.map_cons, enumL, enum_map g xs (n + 1)]; rfl
theorem eG {G : Orc} {F : FT} (hG : GOkF G F) {e : E} {p : PSt} {v : PV} {Q : QV} {X : QX} (h : ev G e p = some v) (hq : Q v p) : wE F e p Q X := (eo_all hG e).e _ _ h _ _ hq
theorem iG {G : Orc} {F : FT} (hG : GOkF G F) {e : E} {p : PSt} {xs : List PV} {Q : List PV → (PSt → Prop) → PSt → Prop} {X : QX} (h : evI G e p = some xs) (hq : ∀ stay, (∀ q : PSt, q.st = p.st → stay q) → Q xs stay p) : wI F e p Q X := (eo_all hG e).i _ _ h _ _ hq
theorem retG {G : Orc} {F : FT} (hG : GOkF G F) {e : E} {p : PSt} {D : Post} {v : PV} (h : ev G e p = some v) (h1 : D.rt v p) : wS F (.ret e) p D := by
  simp only [wS]
  exact eG hG h h1
theorem iteG {G : Orc} {F : FT} (hG : GOkF G F) {c : E} {a b : S} {p : PSt} {D : Post} (k : Bool) (h : ev G c p = some (.bl k)) (h1 : k = true → wS F a p D) (h2 : k = false → wS F b p D) : wS F (.ite c a b) p D := by
  simp only [wS]
  refine eG hG h ⟨k, rfl, ?_⟩
  cases k with
  | true => exact h1 rfl
  | false => exact h2 rfl
theorem asgG {G : Orc} {F : FT} (hG : GOkF G F) {i : Nat} {e : E} {p : PSt} {D : Post} {v : PV} (h : ev G e p = some v) (hi : i < p.env.length) (h1 : D.nx { p with env := p.env.set i (some v) }) : wS F (.asg (.name i) e) p D := by
  simp only [wS, wT]
  exact eG hG h ⟨hi, h1⟩

theorem ev_all {α : Type} {G : Orc} {p : PSt} {L : E} {m : Bool} {xs : List α} {k : α → Bool} (h : ev G L p = some (.lst (xs.map fun x => .bl (k x)))) : ev G (.blt .all m (.cons L .nil)) p = some (.bl (xs.all k)) := by
  simp [ev_var, ev_int, ev_bl, ev_non, ev_str, ev_gint, ev_bin, ev_neg, ev_cmp, ev_chain, ev_and, ev_or, ev_not, ev_ite, ev_tup, ev_lst, ev_ix, ev_call, ev_blt, ev_isi, ev_meth, ev_slc, evL, evI, ixO, itemsO, lisO, ixN, binO, binIO, cmpO, cmpIO, isBl, isInt, bltO, methO, eqO, isNon, isNonE, slcO, isiO, tyN, isSub, knownTy, tO, tsO, wipeP, h, allBl_map]
theorem ev_any {α : Type} {G : Orc} {p : PSt} {L : E} {m : Bool} {xs : List α} {k : α → Bool} (h : ev G L p = some (.lst (xs.map fun x => .bl (k x)))) : ev G (.blt .any m (.cons L .nil)) p = some (.bl (xs.any k)) := by
  simp [ev_var, ev_int, ev_bl, ev_non, ev_str, ev_gint, ev_bin, ev_neg, ev_cmp, ev_chain, ev_and, ev_or, ev_not, ev_ite, ev_tup, ev_lst, ev_ix, ev_call, ev_blt, ev_isi, ev_meth, ev_slc, evL, evI, ixO, itemsO, lisO, ixN, binO, binIO, cmpO, cmpIO, isBl, isInt, bltO, methO, eqO, isNon, isNonE, slcO, isiO, tyN, isSub, knownTy, tO, tsO, wipeP, h, allBl_map]
theorem ev_tupl {G : Orc} {p : PSt} {L : E} {m : Bool} {ys : List PV} (h : ev G L p = some (.lst ys)) : ev G (.blt .tuple m (.cons L .nil)) p = some (.tup ys) := by
  simp [ev_var, ev_int, ev_bl, ev_non, ev_str, ev_gint, ev_bin, ev_neg, ev_cmp, ev_chain, ev_and, ev_or, ev_not, ev_ite, ev_tup, ev_lst, ev_ix, ev_call, ev_blt, ev_isi, ev_meth, ev_slc, evL, evI, ixO, itemsO, lisO, ixN, binO, binIO, cmpO, cmpIO, isBl, isInt, bltO, methO, eqO, isNon, isNonE, slcO, isiO, tyN, isSub, knownTy, tO, tsO, wipeP, h]
theorem ev_sum {G : Orc} {p : PSt} {L : E} {m : Bool} {xs : List Int} (h : ev G L p = some (.lst (xs.map .int))) : ev G (.blt .sum m (.cons L .nil)) p = some (.int xs.sum) := by
  simp [ev_var, ev_int, ev_bl, ev_non, ev_str, ev_gint, ev_bin, ev_neg, ev_cmp, ev_chain, ev_and, ev_or, ev_not, ev_ite, ev_tup, ev_lst, ev_ix, ev_call, ev_blt, ev_isi, ev_meth, ev_slc, evL, evI, ixO, itemsO, lisO, ixN, binO, binIO, cmpO, cmpIO, isBl, isInt, bltO, methO, eqO, isNon, isNonE, slcO, isiO, tyN, isSub, knownTy, tO, tsO, wipeP, h, allInt_map]
theorem ev_tup2 {G : Orc} {p : PSt} {a b : E} {x y : PV} (h1 : ev G a p = some x) (h2 : ev G b p = some y) : ev G (.tup (.cons a (.cons b .nil))) p = some (.tup [x, y]) := by
  simp [ev_var, ev_int, ev_bl, ev_non, ev_str, ev_gint, ev_bin, ev_neg, ev_cmp, ev_chain, ev_and, ev_or, ev_not, ev_ite, ev_tup, ev_lst, ev_ix, ev_call, ev_blt, ev_isi, ev_meth, ev_slc, evL, evI, ixO, itemsO, lisO, ixN, binO, binIO, cmpO, cmpIO, isBl, isInt, bltO, methO, eqO, isNon, isNonE, slcO, isiO, tyN, isSub, knownTy, tO, tsO, wipeP, h1, h2]
theorem all_tt {α : Type} (l : List α) : l.all (fun _ => true) = true := by simp [ev_var, ev_int, ev_bl, ev_non, ev_str, ev_gint, ev_bin, ev_neg, ev_cmp, ev_chain, ev_and, ev_or, ev_not, ev_ite, ev_tup, ev_lst, ev_ix, ev_call, ev_blt, ev_isi, ev_meth, ev_slc, evL, evI, ixO, itemsO, lisO, ixN, binO, binIO, cmpO, cmpIO, isBl, isInt, bltO, methO, eqO, isNon, isNonE, slcO, isiO, tyN, isSub, knownTy, tO, tsO, wipeP]

abbrev pr (q : Int × Nat) : PV := .tup [.int (q.2 : Nat), .int q.1]
theorem enum_ints (l : List Int) : enumL 0 (l.map .int) = l.zipIdx.map pr := enum_map PV.int l 0
theorem cutP_take {xs : List PV} {n : Int} (h : 0 ≤ n) : cutP xs none (some n) = xs.take n.toNat := by
  have e : sIx xs.length xs.length (some n) = min n.toNat xs.length := by
    show (if n < 0 then _ else _) = _
    rw [if_neg (by omega)]
  unfold cutP
  rw [e]
  show (xs.drop 0).take (min n.toNat xs.length - 0) = _
  rw [List.drop_zero, Nat.sub_zero]
  by_cases hc : n.toNat ≤ xs.length
  · rw [Nat.min_eq_left hc]
  · rw [Nat.min_eq_right (by omega), List.take_of_length_le (Nat.le_refl _), List.take_of_length_le (by omega)]

theorem rng_small {k : Int} (h : k ≤ 1000) (h0 : 0 ≤ k) : rngOkB 0 k = true := by
  unfold rngOkB
  refine decide_eq_true ⟨?_, ?_, ?_, ?_⟩ <;> omega
theorem ev_rng1 {G : Orc} {e : E} {p : PSt} {n : Int} (h : ev G e p = some (.int n)) (h0 : 0 ≤ n) (h1 : n ≤ 1000) : evI G (.rng1 e) p = some (rngL 0 n.toNat) := by
  unfold evI
  rw [h]
  show (if rngOkB 0 n = true then some (rngL 0 n.toNat) else none) = _
  rw [if_pos (rng_small h1 h0)]
theorem rngL_len (n : Nat) : (rngL 0 n).length = n := by unfold rngL; simp [ev_var, ev_int, ev_bl, ev_non, ev_str, ev_gint, ev_bin, ev_neg, ev_cmp, ev_chain, ev_and, ev_or, ev_not, ev_ite, ev_tup, ev_lst, ev_ix, ev_call, ev_blt, ev_isi, ev_meth, ev_slc, evL, evI, ixO, itemsO, lisO, ixN, binO, binIO, cmpO, cmpIO, isBl, isInt, bltO, methO, eqO, isNon, isNonE, slcO, isiO, tyN, isSub, knownTy, tO, tsO, wipeP]
theorem rngL_int {n : Nat} : ∀ x ∈ rngL 0 n, ∃ i : Int, x = .int i := fun x hx => by
  unfold rngL at hx
  obtain ⟨i, _, rfl⟩ := List.mem_map.mp hx
  exact ⟨_, rfl⟩

/-! ### _law_is of a thing and itself -/
inductive Dat : Nat → PV → Prop
  | non {n} : Dat n .non
  | int {n i} : Dat n (.int i)
  | tup {n xs} : xs.length ≤ 1000 → (∀ x ∈ xs, Dat n x) → Dat (n + 1) (.tup xs)
noncomputable def OrcI (n : Nat) : Orc := fun f xs => match f, xs with
  | 3, [x, y] => if (Classical.propDecidable (x = y ∧ Dat n x)).decide then some (.bl true) else none
  | _, _ => none
theorem gi_eq {n : Nat} {x : PV} (h : Dat n x) : OrcI n 3 [x, x] = some (.bl true) := by
  show (if (Classical.propDecidable (x = x ∧ Dat n x)).decide then some (PV.bl true) else none) = _
  rw [if_pos (by simp [ev_var, ev_int, ev_bl, ev_non, ev_str, ev_gint, ev_bin, ev_neg, ev_cmp, ev_chain, ev_and, ev_or, ev_not, ev_ite, ev_tup, ev_lst, ev_ix, ev_call, ev_blt, ev_isi, ev_meth, ev_slc, evL, evI, ixO, itemsO, lisO, ixN, binO, binIO, cmpO, cmpIO, isBl, isInt, bltO, methO, eqO, isNon, isNonE, slcO, isiO, tyN, isSub, knownTy, tO, tsO, wipeP, h])]
theorem zip_self : ∀ xs : List PV, zipL xs xs = xs.map fun x => .tup [x, x]
  | [] => rfl
  | x :: xs => by rw [zipL, zip_self xs]; rfl
theorem pc3 {tbl : List Fn} (hn_ : Hn tbl) : ∀ (n d : Nat) (v : PV), Dat n v → PC tbl (d + n + 1) 3 [v, v] (.bl true)
  | n, d, .non, h => fun st Q X hq => by
    refine wF_runE 2 4 hb3 [some .non, some .non, none, none] hn_.t3 rfl (by decide) rfl (seqE (iteG noG_ok false (by simp [ev_var, ev_int, ev_bl, ev_non, ev_str, ev_gint, ev_bin, ev_neg, ev_cmp, ev_chain, ev_and, ev_or, ev_not, ev_ite, ev_tup, ev_lst, ev_ix, ev_call, ev_blt, ev_isi, ev_meth, ev_slc, evL, evI, ixO, itemsO, lisO, ixN, binO, binIO, cmpO, cmpIO, isBl, isInt, bltO, methO, eqO, isNon, isNonE, slcO, isiO, tyN, isSub, knownTy, tO, tsO, wipeP]) (fun z => by cases z) (fun _ => nopE (F := wF tbl (d + n)) ?_)))
    refine seqE (iteG noG_ok true (by simp [ev_var, ev_int, ev_bl, ev_non, ev_str, ev_gint, ev_bin, ev_neg, ev_cmp, ev_chain, ev_and, ev_or, ev_not, ev_ite, ev_tup, ev_lst, ev_ix, ev_call, ev_blt, ev_isi, ev_meth, ev_slc, evL, evI, ixO, itemsO, lisO, ixN, binO, binIO, cmpO, cmpIO, isBl, isInt, bltO, methO, eqO, isNon, isNonE, slcO, isiO, tyN, isSub, knownTy, tO, tsO, wipeP]) (fun _ => ?_) (fun z => by cases z))
    exact seqE (ret_ok (v := .bl true) (by simp [ev_var, ev_int, ev_bl, ev_non, ev_str, ev_gint, ev_bin, ev_neg, ev_cmp, ev_chain, ev_and, ev_or, ev_not, ev_ite, ev_tup, ev_lst, ev_ix, ev_call, ev_blt, ev_isi, ev_meth, ev_slc, evL, evI, ixO, itemsO, lisO, ixN, binO, binIO, cmpO, cmpIO, isBl, isInt, bltO, methO, eqO, isNon, isNonE, slcO, isiO, tyN, isSub, knownTy, tO, tsO, wipeP]) hq)
  | n, d, .int i, h => fun st Q X hq => by
    refine wF_runE 2 4 hb3 [some (.int i), some (.int i), none, none] hn_.t3 rfl (by decide) rfl (seqE (iteG noG_ok false (by simp [ev_var, ev_int, ev_bl, ev_non, ev_str, ev_gint, ev_bin, ev_neg, ev_cmp, ev_chain, ev_and, ev_or, ev_not, ev_ite, ev_tup, ev_lst, ev_ix, ev_call, ev_blt, ev_isi, ev_meth, ev_slc, evL, evI, ixO, itemsO, lisO, ixN, binO, binIO, cmpO, cmpIO, isBl, isInt, bltO, methO, eqO, isNon, isNonE, slcO, isiO, tyN, isSub, knownTy, tO, tsO, wipeP]) (fun z => by cases z) (fun _ => nopE (F := wF tbl (d + n)) ?_)))
    refine seqE (iteG noG_ok false (by simp [ev_var, ev_int, ev_bl, ev_non, ev_str, ev_gint, ev_bin, ev_neg, ev_cmp, ev_chain, ev_and, ev_or, ev_not, ev_ite, ev_tup, ev_lst, ev_ix, ev_call, ev_blt, ev_isi, ev_meth, ev_slc, evL, evI, ixO, itemsO, lisO, ixN, binO, binIO, cmpO, cmpIO, isBl, isInt, bltO, methO, eqO, isNon, isNonE, slcO, isiO, tyN, isSub, knownTy, tO, tsO, wipeP]) (fun z => by cases z) (fun _ => nopE (F := wF tbl (d + n)) ?_))
    exact seqE (ret_ok (v := .bl true) (by simp [ev_var, ev_int, ev_bl, ev_non, ev_str, ev_gint, ev_bin, ev_neg, ev_cmp, ev_chain, ev_and, ev_or, ev_not, ev_ite, ev_tup, ev_lst, ev_ix, ev_call, ev_blt, ev_isi, ev_meth, ev_slc, evL, evI, ixO, itemsO, lisO, ixN, binO, binIO, cmpO, cmpIO, isBl, isInt, bltO, methO, eqO, isNon, isNonE, slcO, isiO, tyN, isSub, knownTy, tO, tsO, wipeP]) hq)
  | n + 1, d, .tup xs, h => fun st Q X hq => by
    cases h with
    | tup hl hx =>
    have hG : GOkF (OrcI n) (wF tbl (d + (n + 1))) := fun f ys v e st Q X hq => by
      unfold OrcI at e
      split at e
      · split at e
        · rename_i x y hc
          have hc : x = y ∧ Dat n x := by simpa [ev_var, ev_int, ev_bl, ev_non, ev_str, ev_gint, ev_bin, ev_neg, ev_cmp, ev_chain, ev_and, ev_or, ev_not, ev_ite, ev_tup, ev_lst, ev_ix, ev_call, ev_blt, ev_isi, ev_meth, ev_slc, evL, evI, ixO, itemsO, lisO, ixN, binO, binIO, cmpO, cmpIO, isBl, isInt, bltO, methO, eqO, isNon, isNonE, slcO, isiO, tyN, isSub, knownTy, tO, tsO, wipeP] using hc
          obtain ⟨rfl, hdx⟩ := hc
          cases e
          exact pc3 hn_ n d x hdx st Q X hq
        · cases e
      · cases e
    have h2 := ev_lcA (G := OrcI n) (p := ⟨[some (.tup xs), some (.tup xs), none, none], st⟩) (own := [("one", 2), ("two", 3)]) (tg := .tup (.cons (.name 2) (.cons (.name 3) .nil))) (it := .zip (.var 0) (.var 1)) (e := .call 3 (.cons (.var 2) (.cons (.var 3) .nil)))
      (fun x => .tup [x, x]) (fun _ => .bl true) xs (by simp [ev_var, ev_int, ev_bl, ev_non, ev_str, ev_gint, ev_bin, ev_neg, ev_cmp, ev_chain, ev_and, ev_or, ev_not, ev_ite, ev_tup, ev_lst, ev_ix, ev_call, ev_blt, ev_isi, ev_meth, ev_slc, evL, evI, ixO, itemsO, lisO, ixN, binO, binIO, cmpO, cmpIO, isBl, isInt, bltO, methO, eqO, isNon, isNonE, slcO, isiO, tyN, isSub, knownTy, tO, tsO, wipeP, zip_self]) (by omega) fun r hrr => ⟨_, by simp [ev_var, ev_int, ev_bl, ev_non, ev_str, ev_gint, ev_bin, ev_neg, ev_cmp, ev_chain, ev_and, ev_or, ev_not, ev_ite, ev_tup, ev_lst, ev_ix, ev_call, ev_blt, ev_isi, ev_meth, ev_slc, evL, evI, ixO, itemsO, lisO, ixN, binO, binIO, cmpO, cmpIO, isBl, isInt, bltO, methO, eqO, isNon, isNonE, slcO, isiO, tyN, isSub, knownTy, tO, tsO, wipeP]; rfl, by simp [ev_var, ev_int, ev_bl, ev_non, ev_str, ev_gint, ev_bin, ev_neg, ev_cmp, ev_chain, ev_and, ev_or, ev_not, ev_ite, ev_tup, ev_lst, ev_ix, ev_call, ev_blt, ev_isi, ev_meth, ev_slc, evL, evI, ixO, itemsO, lisO, ixN, binO, binIO, cmpO, cmpIO, isBl, isInt, bltO, methO, eqO, isNon, isNonE, slcO, isiO, tyN, isSub, knownTy, tO, tsO, wipeP, gi_eq (hx r hrr)]⟩
    have a2 := ev_all (m := false) (k := fun _ => true) h2
    rw [all_tt] at a2
    refine wF_runE 2 4 hb3 [some (.tup xs), some (.tup xs), none, none] hn_.t3 rfl (by decide) rfl (seqE (iteG noG_ok true (by simp [ev_var, ev_int, ev_bl, ev_non, ev_str, ev_gint, ev_bin, ev_neg, ev_cmp, ev_chain, ev_and, ev_or, ev_not, ev_ite, ev_tup, ev_lst, ev_ix, ev_call, ev_blt, ev_isi, ev_meth, ev_slc, evL, evI, ixO, itemsO, lisO, ixN, binO, binIO, cmpO, cmpIO, isBl, isInt, bltO, methO, eqO, isNon, isNonE, slcO, isiO, tyN, isSub, knownTy, tO, tsO, wipeP]) (fun _ => ?_) (fun z => by cases z)))
    refine seqE (iteG noG_ok false (by simp [ev_var, ev_int, ev_bl, ev_non, ev_str, ev_gint, ev_bin, ev_neg, ev_cmp, ev_chain, ev_and, ev_or, ev_not, ev_ite, ev_tup, ev_lst, ev_ix, ev_call, ev_blt, ev_isi, ev_meth, ev_slc, evL, evI, ixO, itemsO, lisO, ixN, binO, binIO, cmpO, cmpIO, isBl, isInt, bltO, methO, eqO, isNon, isNonE, slcO, isiO, tyN, isSub, knownTy, tO, tsO, wipeP]) (fun z => by cases z) (fun _ => nopE (F := wF tbl (d + (n + 1))) ?_))
    exact seqE (retG hG (v := .bl true) (by simp [ev_var, ev_int, ev_bl, ev_non, ev_str, ev_gint, ev_bin, ev_neg, ev_cmp, ev_chain, ev_and, ev_or, ev_not, ev_ite, ev_tup, ev_lst, ev_ix, ev_call, ev_blt, ev_isi, ev_meth, ev_slc, evL, evI, ixO, itemsO, lisO, ixN, binO, binIO, cmpO, cmpIO, isBl, isInt, bltO, methO, eqO, isNon, isNonE, slcO, isiO, tyN, isSub, knownTy, tO, tsO, wipeP, ↓a2]) hq)
  | 0, d, .tup xs, h => by cases h
  | n, d, .bl _, h => by cases h
  | n, d, .str _, h => by cases h
  | n, d, .lst _, h => by cases h
  | n, d, .lck _, h => by cases h
  | n, d, .ref _, h => by cases h
  | n, d, .ty _, h => by cases h
  | n, d, .dct, h => by cases h
theorem dat_vi {l : List Int} (h : l.length ≤ 1000) (n : Nat) : Dat (n + 1) (vi l) := .tup (by rw [List.length_map]; exact h) fun x hx => by
  obtain ⟨z, _, rfl⟩ := List.mem_map.mp hx
  exact .int

theorem p_hand {tbl : List Fn} (hn_ : Hn tbl) (d : Nat) (ns : List Int) (hl : ns.length ≤ 63) {Q : PV → Store → Prop} {X : PX → Store → Prop} (hQ : ∀ T, HandAt [T] 0 0 → Q (.ref 0) [T]) : wF tbl (d + 1) 0 [.lck (ns.map .int)] [] Q X := by
  have h1 := ev_lcA (G := noG) (p := ⟨[some (.lck (ns.map .int)), none, none], []⟩) (own := [("cell", 2)]) (tg := .name 2) (it := .seq (.slc false (.var 0) .non (.int 63))) (e := .blt .abs false (.cons (.blt .int false (.cons (.var 2) .nil)) .nil)) PV.int (fun z => .int (if z < 0 then -z else z)) ns (by
    have e : cutP (ns.map PV.int) none (some 63) = ns.map PV.int := by
      rw [cutP_take (by decide), List.take_of_length_le (by rw [List.length_map]; exact hl)]
    have h9 : ns.length ≤ 16777216 := by omega
    simp [ev_var, ev_int, ev_bl, ev_non, ev_str, ev_gint, ev_bin, ev_neg, ev_cmp, ev_chain, ev_and, ev_or, ev_not, ev_ite, ev_tup, ev_lst, ev_ix, ev_call, ev_blt, ev_isi, ev_meth, ev_slc, evL, evI, ixO, itemsO, lisO, ixN, binO, binIO, cmpO, cmpIO, isBl, isInt, bltO, methO, eqO, isNon, isNonE, slcO, isiO, tyN, isSub, knownTy, tO, tsO, wipeP, e, h9]) (by omega) fun z hz => ⟨_, by simp [ev_var, ev_int, ev_bl, ev_non, ev_str, ev_gint, ev_bin, ev_neg, ev_cmp, ev_chain, ev_and, ev_or, ev_not, ev_ite, ev_tup, ev_lst, ev_ix, ev_call, ev_blt, ev_isi, ev_meth, ev_slc, evL, evI, ixO, itemsO, lisO, ixN, binO, binIO, cmpO, cmpIO, isBl, isInt, bltO, methO, eqO, isNon, isNonE, slcO, isiO, tyN, isSub, knownTy, tO, tsO, wipeP]; rfl, by simp [ev_var, ev_int, ev_bl, ev_non, ev_str, ev_gint, ev_bin, ev_neg, ev_cmp, ev_chain, ev_and, ev_or, ev_not, ev_ite, ev_tup, ev_lst, ev_ix, ev_call, ev_blt, ev_isi, ev_meth, ev_slc, evL, evI, ixO, itemsO, lisO, ixN, binO, binIO, cmpO, cmpIO, isBl, isInt, bltO, methO, eqO, isNon, isNonE, slcO, isiO, tyN, isSub, knownTy, tO, tsO, wipeP]⟩
  refine wF_runE 1 3 hb0 [some (.lck (ns.map .int)), none, none] hn_.t0 rfl (by decide) rfl (seqE (asgG noG_ok h1 (by simp [ev_var, ev_int, ev_bl, ev_non, ev_str, ev_gint, ev_bin, ev_neg, ev_cmp, ev_chain, ev_and, ev_or, ev_not, ev_ite, ev_tup, ev_lst, ev_ix, ev_call, ev_blt, ev_isi, ev_meth, ev_slc, evL, evI, ixO, itemsO, lisO, ixN, binO, binIO, cmpO, cmpIO, isBl, isInt, bltO, methO, eqO, isNon, isNonE, slcO, isiO, tyN, isSub, knownTy, tO, tsO, wipeP]) ?_))
  refine seqE ?_
  rw [wS, wE]
  have hm : ns.map (fun z => PV.int (if z < 0 then -z else z)) = (ns.map fun z => if z < 0 then -z else z).map .int := by rw [List.map_map]; rfl
  refine l0 (v := [.lst ((ns.map fun z => if z < 0 then -z else z).map .int), .int 0, .int 0, .int (97 + 5 * (ns.length : Int)), .int 0]) (by
    have lg : Nat.log2 5 + ns.length.log2 < 1000000 := by
      have := log_small (i := 5) (j := (ns.length : Int)) (by decide) (by decide) (by omega) (by omega)
      simpa [ev_var, ev_int, ev_bl, ev_non, ev_str, ev_gint, ev_bin, ev_neg, ev_cmp, ev_chain, ev_and, ev_or, ev_not, ev_ite, ev_tup, ev_lst, ev_ix, ev_call, ev_blt, ev_isi, ev_meth, ev_slc, evL, evI, ixO, itemsO, lisO, ixN, binO, binIO, cmpO, cmpIO, isBl, isInt, bltO, methO, eqO, isNon, isNonE, slcO, isiO, tyN, isSub, knownTy, tO, tsO, wipeP] using this
    simp [ev_var, ev_int, ev_bl, ev_non, ev_str, ev_gint, ev_bin, ev_neg, ev_cmp, ev_chain, ev_and, ev_or, ev_not, ev_ite, ev_tup, ev_lst, ev_ix, ev_call, ev_blt, ev_isi, ev_meth, ev_slc, evL, evI, ixO, itemsO, lisO, ixN, binO, binIO, cmpO, cmpIO, isBl, isInt, bltO, methO, eqO, isNon, isNonE, slcO, isiO, tyN, isSub, knownTy, tO, tsO, wipeP, lg]) ⟨by simp [ev_var, ev_int, ev_bl, ev_non, ev_str, ev_gint, ev_bin, ev_neg, ev_cmp, ev_chain, ev_and, ev_or, ev_not, ev_ite, ev_tup, ev_lst, ev_ix, ev_call, ev_blt, ev_isi, ev_meth, ev_slc, evL, evI, ixO, itemsO, lisO, ixN, binO, binIO, cmpO, cmpIO, isBl, isInt, bltO, methO, eqO, isNon, isNonE, slcO, isiO, tyN, isSub, knownTy, tO, tsO, wipeP, szOk], ?_⟩
  refine hQ _ ⟨ns.map fun z => if z < 0 then -z else z, 0, 0, 97 + 5 * (ns.length : Int), 0, rfl, fun z hz => ?_, by decide, by decide, by omega, by omega, by decide, by decide⟩
  obtain ⟨y, _, rfl⟩ := List.mem_map.mp hz
  split <;> omega
/-- a draw within an expression -/
theorem e_draw {tbl : List Fn} (hn_ : Hn tbl) {d n : Nat} {many : Int} {m : E} {p : PSt} {Q : QV} {X : QX} (hv : p.env[1]? = some (some (.ref 0))) (hm : ev noG m p = some (.int many)) (hh : HandAt p.st 0 n) (hn : n < 1000000) (h0 : 0 < many) (h1 : many < 1000000)
    (hQ : ∀ (r : Int) (T : SO), 0 ≤ r → r < many → HandAt (p.st.set 0 T) 0 (n + 1) → Q (.int r) { p with st := p.st.set 0 T }) : wE (wF tbl (d + 1)) (.call 1 (.cons (.var 1) (.cons m .nil))) p Q X := by
  rw [wE]
  refine l0 (v := [.ref 0, .int many]) (by simp [ev_var, ev_int, ev_bl, ev_non, ev_str, ev_gint, ev_bin, ev_neg, ev_cmp, ev_chain, ev_and, ev_or, ev_not, ev_ite, ev_tup, ev_lst, ev_ix, ev_call, ev_blt, ev_isi, ev_meth, ev_slc, evL, evI, ixO, itemsO, lisO, ixN, binO, binIO, cmpO, cmpIO, isBl, isInt, bltO, methO, eqO, isNon, isNonE, slcO, isiO, tyN, isSub, knownTy, tO, tsO, wipeP, hv, hm]) ?_
  exact p_draw hn_ d p.st 0 n many hh hn h0 h1 fun r T a b c => hQ r T a b c
theorem p_some {tbl : List Fn} (hn_ : Hn tbl) (d : Nat) (S : Store) (n : Nat) (things : List PV) {Q : PV → Store → Prop} {X : PX → Store → Prop} (hh : HandAt S 0 n) (hn : n < 1000000) (h0 : 0 < things.length) (h1 : things.length < 1000)
    (hQ : ∀ x ∈ things, ∀ T : SO, HandAt (S.set 0 T) 0 (n + 1) → Q x (S.set 0 T)) : wF tbl (d + 2) 2 [.ref 0, .lst things] S Q X := by
  refine wF_runE 2 2 hb2 [some (.ref 0), some (.lst things)] hn_.t2 rfl (by decide) rfl (seqE ?_)
  rw [wS, wE]
  refine e0 (v := .lst things) (by simp [ev_var, ev_int, ev_bl, ev_non, ev_str, ev_gint, ev_bin, ev_neg, ev_cmp, ev_chain, ev_and, ev_or, ev_not, ev_ite, ev_tup, ev_lst, ev_ix, ev_call, ev_blt, ev_isi, ev_meth, ev_slc, evL, evI, ixO, itemsO, lisO, ixN, binO, binIO, cmpO, cmpIO, isBl, isInt, bltO, methO, eqO, isNon, isNonE, slcO, isiO, tyN, isSub, knownTy, tO, tsO, wipeP]) ?_
  rw [wE]
  refine l0 (v := [.ref 0, .int things.length]) (by simp [ev_var, ev_int, ev_bl, ev_non, ev_str, ev_gint, ev_bin, ev_neg, ev_cmp, ev_chain, ev_and, ev_or, ev_not, ev_ite, ev_tup, ev_lst, ev_ix, ev_call, ev_blt, ev_isi, ev_meth, ev_slc, evL, evI, ixO, itemsO, lisO, ixN, binO, binIO, cmpO, cmpIO, isBl, isInt, bltO, methO, eqO, isNon, isNonE, slcO, isiO, tyN, isSub, knownTy, tO, tsO, wipeP]) ?_
  refine p_draw hn_ d S 0 n things.length hh hn (by omega) (by omega) fun r T a b c => ?_
  have hr : r.toNat < things.length := by omega
  refine ⟨r.toNat, things[r.toNat], ?_, by simp [ev_var, ev_int, ev_bl, ev_non, ev_str, ev_gint, ev_bin, ev_neg, ev_cmp, ev_chain, ev_and, ev_or, ev_not, ev_ite, ev_tup, ev_lst, ev_ix, ev_call, ev_blt, ev_isi, ev_meth, ev_slc, evL, evI, ixO, itemsO, lisO, ixN, binO, binIO, cmpO, cmpIO, isBl, isInt, bltO, methO, eqO, isNon, isNonE, slcO, isiO, tyN, isSub, knownTy, tO, tsO, wipeP, hr], hQ _ (List.getElem_mem hr) T c⟩
  unfold Den.ixN
  rw [if_pos a, if_pos b]
theorem bin_add {m : Bool} {i j : Int} {p : PSt} {Q : QV} (h : Q (.int (i + j)) p) : binV .Add m (.int i) (.int j) p Q := h
theorem set_ne {S : Store} {T : SO} {m : Nat} (h : 0 < m) : (S.set 0 T)[m]? = S[m]? := List.getElem?_set_ne (by omega)
theorem i_rng {F : FT} {e : E} {p : PSt} {k : Int} {Q : List PV → (PSt → Prop) → PSt → Prop} {X : QX} (h : ev noG e p = some (.int k)) (h0 : 0 ≤ k) (h1 : k ≤ 1000) (hq : Q (rngL 0 k.toNat) (fun _ => True) p) : wI F (.rng1 e) p Q X := by
  rw [wI]
  exact e0 h ⟨k, rfl, rngOk_of (rng_small h1 h0), hq⟩
theorem i_tup {F : FT} {e : E} {p : PSt} {xs : List PV} {Q : List PV → (PSt → Prop) → PSt → Prop} {X : QX} (h : ev noG e p = some (.tup xs)) (hq : Q xs (fun _ => True) p) : wI F (.seq e) p Q X := by
  rw [wI]
  exact e0 h hq

/-- a def that made objects and forgets them -/
theorem wF_runC {tbl : List Fn} {d i : Nat} {xs : List PV} {st : Store} {Q : PV → Store → Prop} {X : PX → Store → Prop} (np n : Nat) (b : S) (env : List (Option PV)) (h1 : tbl[i]? = some ⟨np, n, b⟩) (h2 : xs.length = np) (h3 : np ≤ n)
    (he : xs.map some ++ List.replicate (n - xs.length) none = env) (h : wS (wF tbl d) b ⟨env, st⟩ { nx := fun _ => False, rt := fun v p => Pure v ∧ (∃ ext, p.st = st ++ ext) ∧ Q v st, ex := fun _ _ => False }) : wF tbl (d + 1) i xs st Q X := by
  subst he
  refine ⟨⟨np, n, b⟩, h1, h2, h3, wS_mono (wF_mono tbl d) _ _ _ _ ?_ h⟩
  refine ⟨fun p z => z.elim, fun v p z => ?_, fun _ z => z, fun _ z => z, fun x p z => z.elim⟩
  obtain ⟨hp, ⟨ext, e⟩, hq⟩ := z
  refine .inr ⟨st, ext, v, e, rfl, fun i o h => .inl h, fun i hv => ?_, .inl ⟨hp, rfl⟩, hq⟩
  subst hv
  cases hp
/-- a call of what answers by its arguments -/
theorem e_pc {tbl : List Fn} {d f : Nat} {es : E} {xs : List PV} {v : PV} {p : PSt} {Q : QV} {X : QX} (h : PC tbl d f xs v) (he : evL noG es p = some xs) (hq : Q v p) : wE (wF tbl d) (.call f es) p Q X := by
  rw [wE]
  exact l0 he (h _ _ _ hq)
/-- a comprehension whose steps change nothing -/
theorem wE_lcP {F : FT} {α : Type} {own : List (PySem.Str × Nat)} {tg : T} {it e : E} {p : PSt} {Q : QV} {X : QX} (g h : α → PV) (xs : List α) (hi : ∀ (R : List PV → (PSt → Prop) → PSt → Prop), (∀ stay, (∀ q : PSt, q.st = p.st → stay q) → R (xs.map g) stay p) → wI F it p R X) (hl : xs.length ≤ 16777216)
    (hf : ∀ x ∈ xs, ∃ env, tO tg (g x) (wipeP p.env (own.map (·.2))) = some env ∧ ∀ R : QV, R (h x) ⟨env, p.st⟩ → wE F e ⟨env, p.st⟩ R noX) (hq : Q (.lst (xs.map h)) p) : wE F (.lc false own tg it (.bl true) e) p Q X := by
  rw [wE]
  refine hi _ fun stay hst => ?_
  refine lc_ind (fun ys acc q => ∃ as bs : List α, xs = as ++ bs ∧ ys = bs.map g ∧ acc = as.map h ∧ q = ⟨wipeP p.env (own.map (·.2)), p.st⟩) ?_ ?_ _ _ _ ⟨[], xs, rfl, rfl, rfl, rfl⟩
  · rintro acc q ⟨as, bs, e1, e2, rfl, rfl⟩
    obtain rfl : bs = [] := by cases bs with | nil => rfl | cons _ _ => cases e2
    rw [List.append_nil] at e1
    subst e1
    refine ⟨hst _ rfl, by simpa [ev_var, ev_int, ev_bl, ev_non, ev_str, ev_gint, ev_bin, ev_neg, ev_cmp, ev_chain, ev_and, ev_or, ev_not, ev_ite, ev_tup, ev_lst, ev_ix, ev_call, ev_blt, ev_isi, ev_meth, ev_slc, evL, evI, ixO, itemsO, lisO, ixN, binO, binIO, cmpO, cmpIO, isBl, isInt, bltO, methO, eqO, isNon, isNonE, slcO, isiO, tyN, isSub, knownTy, tO, tsO, wipeP, szOk] using hl, ?_⟩
    exact hq
  · rintro x ys acc q R ⟨as, bs, e1, e2, rfl, rfl⟩ hR1 hR2
    cases bs with
    | nil => cases e2
    | cons b bs =>
      cases e2
      obtain ⟨env, t1, t2⟩ := hf b (by rw [e1]; simp [ev_var, ev_int, ev_bl, ev_non, ev_str, ev_gint, ev_bin, ev_neg, ev_cmp, ev_chain, ev_and, ev_or, ev_not, ev_ite, ev_tup, ev_lst, ev_ix, ev_call, ev_blt, ev_isi, ev_meth, ev_slc, evL, evI, ixO, itemsO, lisO, ixN, binO, binIO, cmpO, cmpIO, isBl, isInt, bltO, methO, eqO, isNon, isNonE, slcO, isiO, tyN, isSub, knownTy, tO, tsO, wipeP])
      have hlen : xs.length = as.length + (bs.length + 1) := by rw [e1]; simp [ev_var, ev_int, ev_bl, ev_non, ev_str, ev_gint, ev_bin, ev_neg, ev_cmp, ev_chain, ev_and, ev_or, ev_not, ev_ite, ev_tup, ev_lst, ev_ix, ev_call, ev_blt, ev_isi, ev_meth, ev_slc, evL, evI, ixO, itemsO, lisO, ixN, binO, binIO, cmpO, cmpIO, isBl, isInt, bltO, methO, eqO, isNon, isNonE, slcO, isiO, tyN, isSub, knownTy, tO, tsO, wipeP]
      refine ⟨hst _ rfl, by rw [List.length_map]; omega, tO_ok tg (g b) _ env _ t1 ?_⟩
      rw [wE]
      refine ⟨true, rfl, ?_⟩
      rw [if_pos rfl]
      refine t2 _ (hR2 _ _ ⟨as ++ [b], bs, by rw [e1]; simp [ev_var, ev_int, ev_bl, ev_non, ev_str, ev_gint, ev_bin, ev_neg, ev_cmp, ev_chain, ev_and, ev_or, ev_not, ev_ite, ev_tup, ev_lst, ev_ix, ev_call, ev_blt, ev_isi, ev_meth, ev_slc, evL, evI, ixO, itemsO, lisO, ixN, binO, binIO, cmpO, cmpIO, isBl, isInt, bltO, methO, eqO, isNon, isNonE, slcO, isiO, tyN, isSub, knownTy, tO, tsO, wipeP], rfl, by simp [ev_var, ev_int, ev_bl, ev_non, ev_str, ev_gint, ev_bin, ev_neg, ev_cmp, ev_chain, ev_and, ev_or, ev_not, ev_ite, ev_tup, ev_lst, ev_ix, ev_call, ev_blt, ev_isi, ev_meth, ev_slc, evL, evI, ixO, itemsO, lisO, ixN, binO, binIO, cmpO, cmpIO, isBl, isInt, bltO, methO, eqO, isNon, isNonE, slcO, isiO, tyN, isSub, knownTy, tO, tsO, wipeP], rfl⟩)
theorem iP {F : FT} {e : E} {p : PSt} {xs : List PV} {X : QX} (h : evI noG e p = some xs) : ∀ (R : List PV → (PSt → Prop) → PSt → Prop), (∀ stay, (∀ q : PSt, q.st = p.st → stay q) → R xs stay p) → wI F e p R X := fun R hR => iG noG_ok h hR
end
end Den

namespace K69
open PySem Den
/-- _law_hand: 0 script 1 cells 2 cell -/
def b0 : S := (.seq (.asg (.name 1) (.lc false [("cell", 2)] (.name 2) (.seq (.slc false (.var 0) .non (.int 63))) (.bl true) (.blt .abs false (.cons (.blt .int false (.cons (.var 2) .nil)) .nil))))
    (.seq (.ret (.lst true (.cons (.var 1) (.cons (.int 0) (.cons (.int 0) (.cons (.bin .Add false (.int 97) (.bin .Mult false (.int 5) (.blt .len false (.cons (.var 1) .nil)))) (.cons (.int 0) .nil)))))))
    .nop))
/-- _law_draw: 0 hand 1 many 2 number 3 cell 4 figure -/
def b1 : S := (.seq (.ite (.and (.cmp .Eq (.ix (.var 0) (.int 2)) (.int 0)) (.cmp .Lt (.ix (.var 0) (.int 1)) (.blt .len false (.cons (.ix (.var 0) (.int 0)) .nil)))) (.seq (.asg (.name 3) (.ix (.ix (.var 0) (.int 0)) (.ix (.var 0) (.int 1))))
    (.seq (.setix (.var 0) (.int 1) (.bin .Add false (.ix (.var 0) (.int 1)) (.int 1)))
    (.seq (.setix (.var 0) (.int 3) (.bin .Mod false (.blt .int false (.cons (.bin .Add false (.bin .Add false (.bin .Mult false (.ix (.var 0) (.int 3)) (.int 48271)) (.var 3)) (.int 31)) .nil)) (.int 2147483647)))
    (.seq (.ite (.cmp .GtE (.var 3) (.bin .Pow false (.int 10) (.int 18))) (.seq (.setix (.var 0) (.int 2) (.var 3))
    .nop) .nop)
    .nop)))) .nop)
    (.seq (.ite (.cmp .Gt (.ix (.var 0) (.int 2)) (.int 0)) (.seq (.asg (.name 4) (.bin .Mod false (.blt .int false (.cons (.ix (.var 0) (.int 2)) .nil)) (.var 1)))
    (.seq (.setix (.var 0) (.int 2) (.bin .FloorDiv false (.ix (.var 0) (.int 2)) (.var 1)))
    (.seq (.ret (.var 4))
    .nop))) .nop)
    (.seq (.setix (.var 0) (.int 4) (.bin .Add false (.ix (.var 0) (.int 4)) (.int 1)))
    (.seq (.asg (.name 2) (.bin .Mod false (.blt .int false (.cons (.bin .Mult false (.blt .int false (.cons (.bin .Add false (.ix (.var 0) (.int 3)) (.bin .Mult false (.int 6151) (.ix (.var 0) (.int 4)))) .nil)) (.int 40692)) .nil)) (.int 2147483399)))
    (.seq (.asg (.name 2) (.bin .Mod false (.blt .int false (.cons (.bin .Mult false (.var 2) (.bin .Add false (.bin .FloorDiv false (.var 2) (.int 1223)) (.int 52027))) .nil)) (.int 2147483629)))
    (.seq (.asg (.name 2) (.bin .Mod false (.blt .int false (.cons (.bin .Mult false (.var 2) (.bin .Add false (.bin .FloorDiv false (.var 2) (.int 2671)) (.int 69621))) .nil)) (.int 2147483647)))
    (.seq (.ret (.bin .Mod false (.blt .int false (.cons (.bin .FloorDiv false (.var 2) (.int 32)) .nil)) (.var 1)))
    .nop)))))))
/-- _law_some: 0 hand 1 things -/
def b2 : S := (.seq (.ret (.ix (.var 1) (.call 1 (.cons (.var 0) (.cons (.blt .len false (.cons (.var 1) .nil)) .nil)))))
    .nop)
/-- _law_is: 0 told 1 due 2 one 3 two -/
def b3 : S := (.seq (.ite (.isi (.var 1) [("tuple", "tuple"), ("list", "list")] true) (.seq (.ite (.or (.cmp .NotEq (.isi (.var 0) [("tuple", "tuple")] false) (.isi (.var 1) [("tuple", "tuple")] false)) (.not (.isi (.var 0) [("tuple", "tuple"), ("list", "list")] true))) (.seq (.ret (.bl false))
    .nop) .nop)
    (.seq (.ret (.and (.cmp .Eq (.blt .len false (.cons (.var 0) .nil)) (.blt .len false (.cons (.var 1) .nil))) (.blt .all false (.cons (.lc false [("one", 2), ("two", 3)] (.tup (.cons (.name 2) (.cons (.name 3) .nil))) (.zip (.var 0) (.var 1)) (.bl true) (.call 3 (.cons (.var 2) (.cons (.var 3) .nil)))) .nil))))
    .nop)) .nop)
    (.seq (.ite (.or (.isi (.var 1) [("str", "str")] false) (.cmp .Is (.var 1) .non)) (.seq (.ret (.and (.cmp .Eq (.isi (.var 0) [("str", "str")] false) (.isi (.var 1) [("str", "str")] false)) (.cmp .Eq (.var 0) (.var 1))))
    .nop) .nop)
    (.seq (.ret (.and (.isi (.var 0) [("int", "int")] false) (.and (.cmp .Eq (.isi (.var 0) [("bool", "bool")] false) (.isi (.var 1) [("bool", "bool")] false)) (.cmp .Eq (.var 0) (.var 1)))))
    .nop)))
/-- law: 0 script 1 hand 2 turn 3 tariff 4 head 5 ring 6 due 7 at 8 other 9 plain 10 days 11 wheel 12 shifts 13 day 14 letter -/
def b4 : S := (.seq (.asg (.name 1) (.call 0 (.cons (.var 0) .nil)))
    (.seq (.for (.name 2) (.rng1 (.int 3)) (.seq (.asg (.tup (.cons (.name 11) (.cons (.name 12) .nil))) (.tup (.cons (.call 2 (.cons (.var 1) (.cons (.lst false (.cons (.int 1) (.cons (.int 2) (.cons (.int 3) (.cons (.int 5) (.cons (.int 7) (.cons (.int 7) (.cons (.int 8) (.cons (.int 14) (.cons (.int 28) .nil)))))))))) .nil))) (.cons (.bin .Add false (.int 1) (.call 1 (.cons (.var 1) (.cons (.int 3) .nil)))) .nil))))
    (.seq (.asg (.name 3) (.call 5 (.cons (.var 1) (.cons (.var 11) (.cons (.var 12) (.cons (.int 6) .nil))))))
    (.seq (.asg (.name 4) (.blt .tuple false (.cons (.lc false [("day", 13)] (.name 13) (.rng1 (.call 1 (.cons (.var 1) (.cons (.int 10) .nil)))) (.bl true) (.call 1 (.cons (.var 1) (.cons (.bin .Add false (.var 12) (.int 1)) .nil)))) .nil)))
    (.seq (.asg (.name 5) (.blt .tuple false (.cons (.lc false [("day", 13)] (.name 13) (.rng1 (.bin .Add false (.int 1) (.call 1 (.cons (.var 1) (.cons (.int 6) .nil))))) (.bl true) (.call 1 (.cons (.var 1) (.cons (.bin .Add false (.var 12) (.int 1)) .nil)))) .nil)))
    (.seq (.asg (.name 6) (.call 10 (.cons (.var 11) (.cons (.var 3) (.cons (.var 4) (.cons (.var 5) .nil))))))
    (.seq (.ite (.not (.call 3 (.cons (.call 22 (.cons (.var 11) (.cons (.var 12) (.cons (.var 3) (.cons (.tup (.cons (.var 4) (.cons (.var 5) .nil))) .nil))))) (.cons (.var 6) .nil)))) (.seq (.ret (.bl false))
    .nop) .nop)
    (.seq (.asg (.name 7) (.call 1 (.cons (.var 1) (.cons (.blt .len false (.cons (.var 5) .nil)) .nil))))
    (.seq (.asg (.name 8) (.tup (.cons (.bin .Add false (.var 4) (.slc false (.var 5) .non (.var 7))) (.cons (.bin .Mult false (.bin .Add false (.slc false (.var 5) (.var 7) .non) (.slc false (.var 5) .non (.var 7))) (.bin .Add false (.int 1) (.call 1 (.cons (.var 1) (.cons (.int 2) .nil))))) .nil))))
    (.seq (.ite (.not (.call 3 (.cons (.call 22 (.cons (.var 11) (.cons (.var 12) (.cons (.var 3) (.cons (.var 8) .nil))))) (.cons (.var 6) .nil)))) (.seq (.ret (.bl false))
    .nop) .nop)
    (.seq (.asg (.name 9) (.tup (.cons (.tup (.cons (.str "each") (.cons (.tup (.cons (.int 0) .nil)) (.cons (.int 3) .nil)))) (.cons (.tup (.cons (.str "each") (.cons (.trg2 true false (.int 1) (.bin .Add false (.var 12) (.int 1))) (.cons (.neg (.int 2)) .nil)))) .nil))))
    (.seq (.asg (.name 10) (.blt .sum false (.cons (.lc false [("letter", 14)] (.name 14) (.seq (.var 5)) (.bl true) (.ite (.cmp .Eq (.var 14) (.int 0)) (.int 3) (.neg (.int 2)))) .nil)))
    (.seq (.ite (.not (.call 3 (.cons (.call 22 (.cons (.var 11) (.cons (.var 12) (.cons (.var 9) (.cons (.tup (.cons (.var 4) (.cons (.var 5) .nil))) .nil))))) (.cons (.call 32 (.cons (.var 10) (.cons (.blt .len false (.cons (.var 5) .nil)) .nil))) .nil)))) (.seq (.ret (.bl false))
    .nop) .nop)
    .nop)))))))))))))
    (.seq (.ret (.bl true))
    .nop)))
/-- _law_tariff: 0 hand 1 wheel 2 shifts 3 most 4 turn -/
def b5 : S := (.seq (.ret (.blt .tuple false (.cons (.lc false [("turn", 4)] (.name 4) (.rng1 (.bin .Add false (.int 1) (.call 1 (.cons (.var 0) (.cons (.var 3) .nil))))) (.bl true) (.call 6 (.cons (.var 0) (.cons (.var 1) (.cons (.var 2) .nil))))) .nil)))
    .nop)
/-- _law_pay_rule: 0 hand 1 wheel 2 shifts 3 kind 4 amount 5 letters 6 turn -/
def b6 : S := (.seq (.par 4 5 (.call 2 (.cons (.var 0) (.cons (.lst false (.cons (.int 1) (.cons (.int 2) (.cons (.neg (.int 1)) (.cons (.int 7) (.cons (.neg (.int 30)) (.cons (.int 1000) (.cons (.neg (.int 1000)) (.cons (.int 5) .nil))))))))) .nil))) (.call 7 (.cons (.var 0) (.cons (.bin .Add false (.var 2) (.int 1)) .nil))))
    (.seq (.asg (.name 3) (.call 1 (.cons (.var 0) (.cons (.int 4) .nil))))
    (.seq (.ite (.cmp .Eq (.var 3) (.int 0)) (.seq (.ret (.tup (.cons (.str "each") (.cons (.var 5) (.cons (.var 4) .nil)))))
    .nop) .nop)
    (.seq (.ite (.cmp .Eq (.var 3) (.int 1)) (.seq (.ret (.tup (.cons (.str "row") (.cons (.blt .tuple false (.cons (.lc false [("turn", 6)] (.name 6) (.rng1 (.bin .Add false (.int 2) (.call 1 (.cons (.var 0) (.cons (.int 2) .nil))))) (.bl true) (.call 7 (.cons (.var 0) (.cons (.bin .Add false (.var 2) (.int 1)) .nil)))) .nil)) (.cons (.var 4) .nil)))))
    .nop) .nop)
    (.seq (.ite (.cmp .Eq (.var 3) (.int 2)) (.seq (.ret (.tup (.cons (.str "over") (.cons (.var 5) (.cons (.call 1 (.cons (.var 0) (.cons (.bin .Add false (.var 1) (.int 1)) .nil))) (.cons (.var 4) .nil))))))
    .nop) .nop)
    (.seq (.ret (.tup (.cons (.str "on") (.cons (.call 7 (.cons (.var 0) (.cons (.var 1) .nil))) (.cons (.var 5) (.cons (.var 4) .nil))))))
    .nop))))))
/-- _law_lot: 0 hand 1 many 2 found 3 number -/
def b7 : S := (.seq (.asg (.name 2) (.lc false [("number", 3)] (.name 3) (.rng1 (.var 1)) (.cmp .Eq (.call 1 (.cons (.var 0) (.cons (.int 2) .nil))) (.int 0)) (.var 3)))
    (.seq (.ret (.ite (.cmp .Gt (.blt .len false (.cons (.var 2) .nil)) (.int 0)) (.blt .tuple false (.cons (.var 2) .nil)) (.tup (.cons (.call 1 (.cons (.var 0) (.cons (.var 1) .nil))) .nil))))
    .nop))
/-- _law_pays: 0 wheel 1 tariff 2 line 3 day 4 rule -/
def b8 : S := (.seq (.ret (.blt .tuple false (.cons (.lc false [("day", 3)] (.name 3) (.rng1 (.blt .len false (.cons (.var 2) .nil))) (.bl true) (.blt .sum false (.cons (.lc false [("rule", 4)] (.name 4) (.seq (.var 1)) (.bl true) (.call 9 (.cons (.var 0) (.cons (.var 4) (.cons (.slc false (.var 2) .non (.bin .Add false (.var 3) (.int 1))) .nil))))) .nil))) .nil)))
    .nop)
/-- _law_brings: 0 wheel 1 rule 2 line 3 last 4 day 5 row 6 is_row_v 7 week 8 bears 9 letter 10 lot -/
def b9 : S := (.seq (.par 3 4 (.ix (.var 2) (.neg (.int 1))) (.bin .Mod false (.blt .int false (.cons (.bin .Sub false (.blt .len false (.cons (.var 2) .nil)) (.int 1)) .nil)) (.var 0)))
    (.seq (.ite (.cmp .Eq (.ix (.var 1) (.int 0)) (.str "each")) (.seq (.ret (.ite (.cmp .In (.var 3) (.ix (.var 1) (.int 1))) (.ix (.var 1) (.int 2)) (.int 0)))
    .nop) .nop)
    (.seq (.ite (.cmp .Eq (.ix (.var 1) (.int 0)) (.str "row")) (.seq (.asg (.name 5) (.slc false (.var 2) (.neg (.blt .len false (.cons (.ix (.var 1) (.int 1)) .nil))) .non))
    (.seq (.asg (.name 6) (.and (.cmp .GtE (.blt .len false (.cons (.var 2) .nil)) (.blt .len false (.cons (.ix (.var 1) (.int 1)) .nil))) (.blt .all false (.cons (.lc false [("letter", 9), ("lot", 10)] (.tup (.cons (.name 9) (.cons (.name 10) .nil))) (.zip (.var 5) (.ix (.var 1) (.int 1))) (.bl true) (.cmp .In (.var 9) (.var 10))) .nil))))
    (.seq (.ret (.ite (.var 6) (.ix (.var 1) (.int 2)) (.int 0)))
    .nop))) .nop)
    (.seq (.ite (.cmp .Eq (.ix (.var 1) (.int 0)) (.str "over")) (.seq (.asg (.name 7) (.slc false (.var 2) (.bin .Sub false (.bin .Sub false (.blt .len false (.cons (.var 2) .nil)) (.int 1)) (.var 4)) .non))
    (.seq (.asg (.name 8) (.blt .len false (.cons (.lc false [("letter", 9)] (.name 9) (.seq (.var 7)) (.cmp .In (.var 9) (.ix (.var 1) (.int 1))) (.var 9)) .nil)))
    (.seq (.ret (.ite (.and (.cmp .In (.var 3) (.ix (.var 1) (.int 1))) (.cmp .Gt (.var 8) (.ix (.var 1) (.int 2)))) (.ix (.var 1) (.int 3)) (.int 0)))
    .nop))) .nop)
    (.seq (.ret (.ite (.and (.cmp .In (.var 4) (.ix (.var 1) (.int 1))) (.cmp .In (.var 3) (.ix (.var 1) (.int 2)))) (.ix (.var 1) (.int 3)) (.int 0)))
    .nop)))))
/-- _law_mean: 0 wheel 1 tariff 2 head 3 ring 4 span 5 turns 6 line 7 begin 8 pays -/
def b10 : S := (.seq (.asg (.name 4) (.bin .Mult false (.blt .len false (.cons (.var 3) .nil)) (.var 0)))
    (.seq (.asg (.name 5) (.bin .Add false (.bin .Add false (.bin .FloorDiv false (.blt .len false (.cons (.var 2) .nil)) (.blt .len false (.cons (.var 3) .nil))) (.var 0)) (.int 8)))
    (.seq (.asg (.name 6) (.bin .Add false (.var 2) (.bin .Mult false (.var 3) (.bin .Add false (.var 5) (.var 0)))))
    (.seq (.asg (.name 7) (.bin .Add false (.blt .len false (.cons (.var 2) .nil)) (.bin .Mult false (.blt .len false (.cons (.var 3) .nil)) (.var 5))))
    (.seq (.asg (.name 8) (.slc false (.call 8 (.cons (.var 0) (.cons (.var 1) (.cons (.slc false (.var 6) .non (.bin .Add false (.var 7) (.var 4))) .nil)))) (.var 7) .non))
    (.seq (.ret (.call 32 (.cons (.blt .sum false (.cons (.var 8) .nil)) (.cons (.var 4) .nil))))
    .nop))))))
/-- check_sizes: 0 wheel 1 shifts -/
def b11 : S := (.seq (.ite (.not (.call 12 (.cons (.var 0) .nil))) (.seq .stuck
    .nop) .nop)
    (.seq (.ite (.not (.call 15 (.cons (.var 1) .nil))) (.seq .stuck
    .nop) .nop)
    .nop))
/-- is_wheel: 0 thing -/
def b12 : S := (.seq (.ret (.call 13 (.cons (.var 0) (.cons (.int 1) (.cons (.gint "MOST_WHEEL" 28) .nil)))))
    .nop)
/-- is_within: 0 thing 1 low 2 high -/
def b13 : S := (.seq (.ret (.and (.call 14 (.cons (.var 0) .nil)) (.chain .LtE .LtE (.var 1) (.var 0) (.var 2))))
    .nop)
/-- is_integer: 0 thing -/
def b14 : S := (.seq (.ret (.and (.isi (.var 0) [("int", "int")] false) (.not (.isi (.var 0) [("bool", "bool")] false))))
    .nop)
/-- is_shifts: 0 thing -/
def b15 : S := (.seq (.ret (.call 13 (.cons (.var 0) (.cons (.int 1) (.cons (.gint "MOST_SHIFTS" 6) .nil)))))
    .nop)
/-- is_tariff_of: 0 wheel 1 shifts 2 thing 3 rule -/
def b16 : S := (.seq (.ret (.and (.call 17 (.cons (.var 2) (.cons (.int 1) (.cons (.gint "MOST_PAY" 12) .nil)))) (.blt .all false (.cons (.lc false [("rule", 3)] (.name 3) (.seq (.var 2)) (.bl true) (.call 18 (.cons (.var 0) (.cons (.var 1) (.cons (.var 3) .nil))))) .nil))))
    .nop)
/-- is_sized: 0 thing 1 low 2 high -/
def b17 : S := (.seq (.ret (.and (.isi (.var 0) [("tuple", "tuple")] false) (.chain .LtE .LtE (.var 1) (.blt .len false (.cons (.var 0) .nil)) (.var 2))))
    .nop)
/-- is_pay_rule: 0 wheel 1 shifts 2 thing 3 word -/
def b18 : S := (.seq (.ite (.or (.not (.isi (.var 2) [("tuple", "tuple")] false)) (.or (.cmp .Lt (.blt .len false (.cons (.var 2) .nil)) (.int 3)) (.or (.not (.isi (.ix (.var 2) (.int 0)) [("str", "str")] false)) (.not (.call 20 (.cons (.ix (.var 2) (.neg (.int 1))) .nil)))))) (.seq (.ret (.bl false))
    .nop) .nop)
    (.seq (.asg (.name 3) (.ix (.var 2) (.int 0)))
    (.seq (.ite (.cmp .Eq (.var 3) (.gstr "EACH" "each")) (.seq (.ret (.and (.cmp .Eq (.blt .len false (.cons (.var 2) .nil)) (.int 3)) (.call 19 (.cons (.ix (.var 2) (.int 1)) (.cons (.int 0) (.cons (.var 1) .nil))))))
    .nop) .nop)
    (.seq (.ite (.cmp .Eq (.var 3) (.gstr "ROW" "row")) (.seq (.ret (.and (.cmp .Eq (.blt .len false (.cons (.var 2) .nil)) (.int 3)) (.call 21 (.cons (.var 1) (.cons (.ix (.var 2) (.int 1)) .nil)))))
    .nop) .nop)
    (.seq (.ite (.cmp .NotEq (.blt .len false (.cons (.var 2) .nil)) (.int 4)) (.seq (.ret (.bl false))
    .nop) .nop)
    (.seq (.ite (.cmp .Eq (.var 3) (.gstr "OVER" "over")) (.seq (.ret (.and (.call 19 (.cons (.ix (.var 2) (.int 1)) (.cons (.int 0) (.cons (.var 1) .nil)))) (.call 13 (.cons (.ix (.var 2) (.int 2)) (.cons (.int 0) (.cons (.int 28) .nil))))))
    .nop) .nop)
    (.seq (.ret (.and (.cmp .Eq (.var 3) (.gstr "ON" "on")) (.and (.call 19 (.cons (.ix (.var 2) (.int 1)) (.cons (.int 0) (.cons (.bin .Sub false (.var 0) (.int 1)) .nil)))) (.call 19 (.cons (.ix (.var 2) (.int 2)) (.cons (.int 0) (.cons (.var 1) .nil)))))))
    .nop)))))))
/-- is_lot: 0 thing 1 low 2 high 3 one 4 other -/
def b19 : S := (.seq (.ite (.or (.not (.call 17 (.cons (.var 0) (.cons (.int 1) (.cons (.bin .Add false (.bin .Sub false (.var 2) (.var 1)) (.int 1)) .nil))))) (.not (.blt .all false (.cons (.lc false [("one", 3)] (.name 3) (.seq (.var 0)) (.bl true) (.call 13 (.cons (.var 3) (.cons (.var 1) (.cons (.var 2) .nil))))) .nil)))) (.seq (.ret (.bl false))
    .nop) .nop)
    (.seq (.ret (.blt .all false (.cons (.lc false [("one", 3), ("other", 4)] (.tup (.cons (.name 3) (.cons (.name 4) .nil))) (.zip (.var 0) (.slc false (.var 0) (.int 1) .non)) (.bl true) (.cmp .Lt (.var 3) (.var 4))) .nil)))
    .nop))
/-- is_amount: 0 thing -/
def b20 : S := (.seq (.ret (.call 13 (.cons (.var 0) (.cons (.neg (.int 1000)) (.cons (.int 1000) .nil)))))
    .nop)
/-- is_row: 0 shifts 1 thing 2 lot -/
def b21 : S := (.seq (.ret (.and (.call 17 (.cons (.var 1) (.cons (.int 2) (.cons (.int 6) .nil)))) (.blt .all false (.cons (.lc false [("lot", 2)] (.name 2) (.seq (.var 1)) (.bl true) (.call 19 (.cons (.var 2) (.cons (.int 0) (.cons (.var 0) .nil))))) .nil))))
    .nop)
/-- mean_pay: 0 wheel 1 shifts 2 tariff 3 line 4 known 5 turn_of 6 sums 7 turns 8 head 9 ring 10 brought -/
def b22 : S := (.seq (.expr (.call 23 (.cons (.var 0) (.cons (.var 1) (.cons (.var 2) .nil)))))
    (.seq (.ite (.not (.call 35 (.cons (.var 1) (.cons (.var 3) .nil)))) (.seq .stuck
    .nop) .nop)
    (.seq (.asg (.tup (.cons (.name 8) (.cons (.name 9) .nil))) (.var 3))
    (.seq (.asg (.name 4) (.ix (.call 26 (.cons (.var 0) (.cons (.var 2) (.cons (.call 31 (.cons (.var 2) .nil)) (.cons (.var 8) .nil))))) (.int 0)))
    (.seq (.asg (.name 5) .dnew)
    (.seq (.asg (.name 6) (.lst true (.cons (.int 0) .nil)))
    (.seq (.while (.ind true (.var 4) (.var 5)) (.seq (.setd (.var 5) (.var 4) (.bin .Sub false (.blt .len false (.cons (.var 6) .nil)) (.int 1)))
    (.seq (.asg (.tup (.cons (.name 4) (.cons (.name 10) .nil))) (.call 26 (.cons (.var 0) (.cons (.var 2) (.cons (.var 4) (.cons (.var 9) .nil))))))
    (.seq (.expr (.meth .append (.var 6) (.cons (.bin .Add false (.ix (.var 6) (.neg (.int 1))) (.blt .sum false (.cons (.var 10) .nil))) .nil)))
    .nop))))
    (.seq (.asg (.name 7) (.bin .Sub false (.bin .Sub false (.blt .len false (.cons (.var 6) .nil)) (.int 1)) (.ixd (.var 5) (.var 4))))
    (.seq (.ret (.call 33 (.cons (.bin .Sub false (.ix (.var 6) (.neg (.int 1))) (.ix (.var 6) (.ixd (.var 5) (.var 4)))) (.cons (.bin .Mult false (.var 7) (.blt .len false (.cons (.var 9) .nil))) .nil))))
    .nop)))))))))
/-- check_tariff: 0 wheel 1 shifts 2 tariff -/
def b23 : S := (.seq (.expr (.call 11 (.cons (.var 0) (.cons (.var 1) .nil))))
    (.seq (.ite (.not (.call 16 (.cons (.var 0) (.cons (.var 1) (.cons (.var 2) .nil))))) (.seq .stuck
    .nop) .nop)
    .nop))
/-- is_finite: 0 shifts 1 thing 2 letter -/
def b24 : S := (.seq (.ret (.and (.isi (.var 1) [("tuple", "tuple")] false) (.blt .all false (.cons (.lc false [("letter", 2)] (.name 2) (.seq (.var 1)) (.bl true) (.call 25 (.cons (.var 0) (.cons (.var 2) .nil)))) .nil))))
    .nop)
/-- is_letter: 0 shifts 1 thing -/
def b25 : S := (.seq (.ret (.call 13 (.cons (.var 1) (.cons (.int 0) (.cons (.var 0) .nil)))))
    .nop)
/-- paid: 0 wheel 1 tariff 2 known 3 letters 4 found 5 letter 6 brought -/
def b26 : S := (.seq (.asg (.name 4) (.lst true .nil))
    (.seq (.for (.name 5) (.seq (.var 3)) (.seq (.asg (.tup (.cons (.name 2) (.cons (.name 6) .nil))) (.call 27 (.cons (.var 0) (.cons (.var 1) (.cons (.var 2) (.cons (.var 5) .nil))))))
    (.seq (.expr (.meth .append (.var 4) (.cons (.var 6) .nil)))
    .nop)))
    (.seq (.ret (.tup (.cons (.var 2) (.cons (.var 4) .nil))))
    .nop)))
/-- led_pay: 0 wheel 1 tariff 2 known 3 letter 4 found 5 day 6 held 7 rule 8 one 9 pair -/
def b27 : S := (.seq (.asg (.tup (.cons (.name 5) (.cons (.name 6) .nil))) (.var 2))
    (.seq (.asg (.name 4) (.lc false [("rule", 7), ("one", 8)] (.tup (.cons (.name 7) (.cons (.name 8) .nil))) (.zip (.var 1) (.var 6)) (.bl true) (.call 28 (.cons (.var 7) (.cons (.var 0) (.cons (.var 5) (.cons (.var 3) (.cons (.var 8) .nil))))))))
    (.seq (.ret (.tup (.cons (.tup (.cons (.bin .Mod false (.bin .Add false (.var 5) (.int 1)) (.var 0)) (.cons (.blt .tuple false (.cons (.lc false [("pair", 9)] (.name 9) (.seq (.var 4)) (.bl true) (.ix (.var 9) (.int 0))) .nil)) .nil))) (.cons (.blt .sum false (.cons (.lc false [("pair", 9)] (.name 9) (.seq (.var 4)) (.bl true) (.ix (.var 9) (.int 1))) .nil)) .nil))))
    .nop)))
/-- led_pay_rule: 0 rule 1 wheel 2 day 3 letter 4 held -/
def b28 : S := (.seq (.ite (.cmp .Eq (.ix (.var 0) (.int 0)) (.gstr "EACH" "each")) (.seq (.ret (.tup (.cons (.tup .nil) (.cons (.ite (.cmp .In (.var 3) (.ix (.var 0) (.int 1))) (.ix (.var 0) (.int 2)) (.int 0)) .nil))))
    .nop) .nop)
    (.seq (.ite (.cmp .Eq (.ix (.var 0) (.int 0)) (.gstr "ROW" "row")) (.seq (.ret (.call 29 (.cons (.var 0) (.cons (.var 3) (.cons (.var 4) .nil)))))
    .nop) .nop)
    (.seq (.ite (.cmp .Eq (.ix (.var 0) (.int 0)) (.gstr "OVER" "over")) (.seq (.ret (.call 30 (.cons (.var 0) (.cons (.var 1) (.cons (.var 2) (.cons (.var 3) (.cons (.var 4) .nil)))))))
    .nop) .nop)
    (.seq (.ret (.tup (.cons (.tup .nil) (.cons (.ite (.and (.cmp .In (.var 2) (.ix (.var 0) (.int 1))) (.cmp .In (.var 3) (.ix (.var 0) (.int 2)))) (.ix (.var 0) (.int 3)) (.int 0)) .nil))))
    .nop))))
/-- led_row: 0 rule 1 letter 2 held 3 letters 4 row 5 is_met 6 one 7 lot -/
def b29 : S := (.seq (.asg (.name 3) (.bin .Add false (.var 2) (.tup (.cons (.var 1) .nil))))
    (.seq (.asg (.name 4) (.ix (.var 0) (.int 1)))
    (.seq (.asg (.name 5) (.and (.cmp .Eq (.blt .len false (.cons (.var 3) .nil)) (.blt .len false (.cons (.var 4) .nil))) (.blt .all false (.cons (.lc false [("one", 6), ("lot", 7)] (.tup (.cons (.name 6) (.cons (.name 7) .nil))) (.zip (.var 3) (.var 4)) (.bl true) (.cmp .In (.var 6) (.var 7))) .nil))))
    (.seq (.ret (.tup (.cons (.slc false (.var 3) (.neg (.bin .Sub false (.blt .len false (.cons (.var 4) .nil)) (.int 1))) .non) (.cons (.ite (.var 5) (.ix (.var 0) (.int 2)) (.int 0)) .nil))))
    .nop))))
/-- led_over: 0 rule 1 wheel 2 day 3 letter 4 held 5 is_one 6 brought 7 later -/
def b30 : S := (.seq (.asg (.name 5) (.cmp .In (.var 3) (.ix (.var 0) (.int 1))))
    (.seq (.asg (.name 6) (.ite (.and (.var 5) (.cmp .Eq (.var 4) (.ix (.var 0) (.int 2)))) (.ix (.var 0) (.int 3)) (.int 0)))
    (.seq (.asg (.name 7) (.ite (.var 5) (.blt .min2 false (.cons (.ix (.var 0) (.int 2)) (.cons (.bin .Add false (.var 4) (.int 1)) .nil))) (.var 4)))
    (.seq (.ret (.tup (.cons (.ite (.cmp .Eq (.var 2) (.bin .Sub false (.var 1) (.int 1))) (.int 0) (.var 7)) (.cons (.var 6) .nil))))
    .nop))))
/-- first_pay: 0 tariff 1 rule -/
def b31 : S := (.seq (.ret (.tup (.cons (.int 0) (.cons (.blt .tuple false (.cons (.lc false [("rule", 1)] (.name 1) (.seq (.var 0)) (.bl true) (.ite (.cmp .Eq (.ix (.var 1) (.int 0)) (.gstr "OVER" "over")) (.int 0) (.tup .nil))) .nil)) .nil))))
    .nop)
/-- _law_lowest: 0 top 1 bottom 2 one 3 other -/
def b32 : S := (.seq (.par 2 3 (.blt .abs false (.cons (.var 0) .nil)) (.var 1))
    (.seq (.while (.cmp .Gt (.var 2) (.int 0)) (.seq (.par 2 3 (.bin .Mod false (.blt .int false (.cons (.var 3) .nil)) (.var 2)) (.var 2))
    .nop))
    (.seq (.ret (.tup (.cons (.bin .FloorDiv false (.var 0) (.var 3)) (.cons (.bin .FloorDiv false (.var 1) (.var 3)) .nil))))
    .nop)))
/-- share: 0 top 1 bottom 2 part -/
def b33 : S := (.seq (.asg (.name 2) (.call 34 (.cons (.var 0) (.cons (.var 1) .nil))))
    (.seq (.ite (.cmp .Lt (.var 1) (.int 0)) (.seq (.asg (.name 2) (.neg (.var 2)))
    .nop) .nop)
    (.seq (.ret (.tup (.cons (.bin .FloorDiv false (.var 0) (.var 2)) (.cons (.bin .FloorDiv false (.var 1) (.var 2)) .nil))))
    .nop)))
/-- common: 0 one 1 other -/
def b34 : S := (.seq (.while (.cmp .NotEq (.var 1) (.int 0)) (.seq (.par 0 1 (.var 1) (.bin .Mod false (.var 0) (.var 1)))
    .nop))
    (.seq (.ret (.blt .abs false (.cons (.var 0) .nil)))
    .nop))
/-- is_endless: 0 shifts 1 thing -/
def b35 : S := (.seq (.ite (.or (.not (.call 17 (.cons (.var 1) (.cons (.int 2) (.cons (.int 2) .nil))))) (.not (.call 24 (.cons (.var 0) (.cons (.ix (.var 1) (.int 0)) .nil))))) (.seq (.ret (.bl false))
    .nop) .nop)
    (.seq (.ret (.and (.call 24 (.cons (.var 0) (.cons (.ix (.var 1) (.int 1)) .nil))) (.cmp .Gt (.blt .len false (.cons (.ix (.var 1) (.int 1)) .nil)) (.int 0))))
    .nop))
def tbl : List Fn := [⟨1, 3, b0⟩, ⟨2, 5, b1⟩, ⟨2, 2, b2⟩, ⟨2, 4, b3⟩, ⟨1, 15, b4⟩, ⟨4, 5, b5⟩, ⟨3, 7, b6⟩, ⟨2, 4, b7⟩, ⟨3, 5, b8⟩, ⟨3, 11, b9⟩, ⟨4, 9, b10⟩, ⟨2, 2, b11⟩, ⟨1, 1, b12⟩, ⟨3, 3, b13⟩, ⟨1, 1, b14⟩, ⟨1, 1, b15⟩, ⟨3, 4, b16⟩, ⟨3, 3, b17⟩, ⟨3, 4, b18⟩, ⟨3, 5, b19⟩, ⟨1, 1, b20⟩, ⟨2, 3, b21⟩, ⟨4, 11, b22⟩, ⟨3, 3, b23⟩, ⟨2, 3, b24⟩, ⟨2, 2, b25⟩, ⟨4, 7, b26⟩, ⟨4, 10, b27⟩, ⟨5, 5, b28⟩, ⟨3, 8, b29⟩, ⟨5, 8, b30⟩, ⟨1, 2, b31⟩, ⟨2, 4, b32⟩, ⟨2, 3, b33⟩, ⟨2, 2, b34⟩, ⟨2, 2, b35⟩]
end K69

/-! K69p: what the checks of the program answer, of any thing. -/
namespace K69
open Den
theorem hn : Hn tbl := ⟨rfl, rfl, rfl, rfl⟩
mutual
/-- a thing that the checks may be asked of -/
def thB : PV → Bool
  | .non => true
  | .bl _ => true
  | .int _ => true
  | .str x => PySem.PyData.strOk x
  | .tup xs => decide (xs.length ≤ 1000) && thsB xs
  | .lst xs => decide (xs.length ≤ 1000) && thsB xs
  | .dct => true
  | _ => false
def thsB : List PV → Bool
  | [] => true
  | x :: xs => thB x && thsB xs
end
theorem thsB_mem : ∀ {xs : List PV}, thsB xs = true → ∀ x ∈ xs, thB x = true
  | y :: ys, h, x, hx => by
    simp only [thsB, Bool.and_eq_true] at h
    rcases List.mem_cons.mp hx with rfl | hx
    · exact h.1
    · exact thsB_mem h.2 x hx
theorem thsB_of : ∀ {xs : List PV}, (∀ x ∈ xs, thB x = true) → thsB xs = true
  | [], _ => rfl
  | y :: ys, h => by
    simp only [thsB, Bool.and_eq_true]
    exact ⟨h y List.mem_cons_self, thsB_of fun x hx => h x (List.mem_cons_of_mem _ hx)⟩
def intB : PV → Bool
  | .int _ => true
  | _ => false
/-- is_within -/
def wiB (lo hi : Int) : PV → Bool
  | .int t => decide (lo ≤ t) && decide (t ≤ hi)
  | _ => false
/-- is_sized -/
def szB (lo hi : Int) : PV → Bool
  | .tup xs => decide (lo ≤ (xs.length : Int)) && decide ((xs.length : Int) ≤ hi)
  | _ => false
def ascI (ns : List Int) : Bool := (ns.zip ns.tail).all fun p => decide (p.1 < p.2)
def ascB (xs : List PV) : Bool := match allInt xs with
  | some ns => ascI ns
  | none => false
/-- is_lot -/
def lotB (lo hi : Int) : PV → Bool
  | .tup xs => szB 1 (hi - lo + 1) (.tup xs) && xs.all (wiB lo hi) && ascB xs
  | _ => false
/-- is_row -/
def rowB (sh : Int) : PV → Bool
  | .tup xs => szB 2 6 (.tup xs) && xs.all (lotB 0 sh)
  | _ => false
/-- is_pay_rule -/
def payB (w sh : Int) : PV → Bool
  | .tup [.str wd, a, b] => wiB (-1000) 1000 b && (if wd = "each" then lotB 0 sh a else if wd = "row" then rowB sh a else false)
  | .tup [.str wd, a, b, c] => wiB (-1000) 1000 c && (if wd = "each" then false else if wd = "row" then false else if wd = "over" then lotB 0 sh a && wiB 0 28 b else decide (wd = "on") && (lotB 0 (w - 1) a && lotB 0 sh b))
  | _ => false
/-- is_tariff -/
def tarB (w sh : Int) : PV → Bool
  | .tup xs => szB 1 12 (.tup xs) && xs.all (payB w sh)
  | _ => false
def G1 : Orc := fun f xs => match f, xs with
  | 14, [x] => if thB x then some (.bl (intB x)) else none
  | 17, [x, .int lo, .int hi] => if thB x then some (.bl (szB lo hi x)) else none
  | _, _ => none
theorem g1_ok (d : Nat) : GOkF G1 (wF tbl (d + 1)) := fun f xs v h st Q X hq => by
  unfold G1 at h
  split at h
  · rename_i x
    obtain ⟨hx, h⟩ := Den.is h
    cases h
    refine wF_runE 1 1 b14 [some x] rfl rfl (by decide) rfl (seqE (retG noG_ok (v := .bl (intB x)) ?_ hq))
    cases x <;> first | (cases hx; done) | simp [ev_var, ev_int, ev_bl, ev_non, ev_str, ev_gint, ev_gstr, ev_bin, ev_neg, ev_cmp, ev_chain, ev_and, ev_or, ev_not, ev_ite, ev_tup, ev_lst, ev_ix, ev_call, ev_blt, ev_isi, ev_meth, ev_slc, evL, evI, ixO, itemsO, lisO, ixN, binO, binIO, cmpO, cmpIO, isBl, isInt, bltO, methO, eqO, isNon, isNonE, slcO, isiO, tyN, isSub, knownTy, tO, tsO, wipeP, intB]
  · rename_i x lo hi
    obtain ⟨hx, h⟩ := Den.is h
    cases h
    refine wF_runE 3 3 b17 [some x, some (.int lo), some (.int hi)] rfl rfl (by decide) rfl (seqE (retG noG_ok (v := .bl (szB lo hi x)) ?_ hq))
    cases x <;> first | (cases hx; done) | skip
    case tup xs =>
      by_cases h1 : lo ≤ (xs.length : Int) <;> simp [ev_var, ev_int, ev_bl, ev_non, ev_str, ev_gint, ev_gstr, ev_bin, ev_neg, ev_cmp, ev_chain, ev_and, ev_or, ev_not, ev_ite, ev_tup, ev_lst, ev_ix, ev_call, ev_blt, ev_isi, ev_meth, ev_slc, evL, evI, ixO, itemsO, lisO, ixN, binO, binIO, cmpO, cmpIO, isBl, isInt, bltO, methO, eqO, isNon, isNonE, slcO, isiO, tyN, isSub, knownTy, tO, tsO, wipeP, h1, szB]
    all_goals simp [ev_var, ev_int, ev_bl, ev_non, ev_str, ev_gint, ev_gstr, ev_bin, ev_neg, ev_cmp, ev_chain, ev_and, ev_or, ev_not, ev_ite, ev_tup, ev_lst, ev_ix, ev_call, ev_blt, ev_isi, ev_meth, ev_slc, evL, evI, ixO, itemsO, lisO, ixN, binO, binIO, cmpO, cmpIO, isBl, isInt, bltO, methO, eqO, isNon, isNonE, slcO, isiO, tyN, isSub, knownTy, tO, tsO, wipeP, szB]
  · cases h
def G2 : Orc := fun f xs => match f, xs with
  | 13, [x, .int lo, .int hi] => if thB x then some (.bl (wiB lo hi x)) else none
  | 17, [x, .int lo, .int hi] => if thB x then some (.bl (szB lo hi x)) else none
  | _, _ => none
theorem g2_ok (d : Nat) : GOkF G2 (wF tbl (d + 2)) := fun f xs v h st Q X hq => by
  unfold G2 at h
  split at h
  · rename_i x lo hi
    obtain ⟨hx, h⟩ := Den.is h
    cases h
    refine wF_runE 3 3 b13 [some x, some (.int lo), some (.int hi)] rfl rfl (by decide) rfl (seqE (retG (g1_ok d) (v := .bl (wiB lo hi x)) ?_ hq))
    cases x <;> first | (cases hx; done) | skip
    case int t =>
      by_cases h1 : lo ≤ t <;> simp [ev_var, ev_int, ev_bl, ev_non, ev_str, ev_gint, ev_gstr, ev_bin, ev_neg, ev_cmp, ev_chain, ev_and, ev_or, ev_not, ev_ite, ev_tup, ev_lst, ev_ix, ev_call, ev_blt, ev_isi, ev_meth, ev_slc, evL, evI, ixO, itemsO, lisO, ixN, binO, binIO, cmpO, cmpIO, isBl, isInt, bltO, methO, eqO, isNon, isNonE, slcO, isiO, tyN, isSub, knownTy, tO, tsO, wipeP, h1, wiB, G1, intB, thB]
    all_goals simp [ev_var, ev_int, ev_bl, ev_non, ev_str, ev_gint, ev_gstr, ev_bin, ev_neg, ev_cmp, ev_chain, ev_and, ev_or, ev_not, ev_ite, ev_tup, ev_lst, ev_ix, ev_call, ev_blt, ev_isi, ev_meth, ev_slc, evL, evI, ixO, itemsO, lisO, ixN, binO, binIO, cmpO, cmpIO, isBl, isInt, bltO, methO, eqO, isNon, isNonE, slcO, isiO, tyN, isSub, knownTy, tO, tsO, wipeP, wiB, G1, hx, intB]
  · rename_i x lo hi
    exact g1_ok (d + 1) 17 [x, .int lo, .int hi] v h st Q X hq
  · cases h
theorem all_map {α β : Type} (f : α → β) (k : β → Bool) (l : List α) : (l.map f).all k = l.all fun x => k (f x) := by rw [List.all_map]; rfl
theorem th_len {xs : List PV} (h : thB (.tup xs) = true) : xs.length ≤ 1000 ∧ ∀ x ∈ xs, thB x = true := by
  simp only [thB, Bool.and_eq_true, decide_eq_true_eq] at h
  exact ⟨h.1, thsB_mem h.2⟩
theorem wi_ints {lo hi : Int} : ∀ {xs : List PV}, xs.all (wiB lo hi) = true → ∃ ns, allInt xs = some ns ∧ xs = ns.map .int
  | [], _ => ⟨[], rfl, rfl⟩
  | x :: xs, h => by
    rw [List.all_cons, Bool.and_eq_true] at h
    obtain ⟨ns, e, e2⟩ := wi_ints h.2
    cases x <;> first | (cases h.1; done) | skip
    rename_i i
    refine ⟨i :: ns, ?_, by rw [e2]; rfl⟩
    rw [allInt, e]; rfl
theorem zip_tail (ns : List Int) : zipL (ns.map PV.int) (ns.tail.map PV.int) = (ns.zip ns.tail).map fun p => .tup [.int p.1, .int p.2] := by
  have : ∀ (a b : List Int), zipL (a.map PV.int) (b.map PV.int) = (a.zip b).map fun p => .tup [.int p.1, .int p.2] := by
    intro a
    induction a with
    | nil => intro b; cases b <;> rfl
    | cons x a ih =>
      intro b
      cases b with
      | nil => rfl
      | cons y b => simp only [List.map_cons, zipL, List.zip_cons_cons, ih b]
  exact this ns ns.tail
theorem cutP_one (xs : List PV) : cutP xs (some 1) none = xs.tail := by
  unfold cutP
  have e1 : sIx xs.length 0 (some 1) = min 1 xs.length := by simp [ev_var, ev_int, ev_bl, ev_non, ev_str, ev_gint, ev_gstr, ev_bin, ev_neg, ev_cmp, ev_chain, ev_and, ev_or, ev_not, ev_ite, ev_tup, ev_lst, ev_ix, ev_call, ev_blt, ev_isi, ev_meth, ev_slc, evL, evI, ixO, itemsO, lisO, ixN, binO, binIO, cmpO, cmpIO, isBl, isInt, bltO, methO, eqO, isNon, isNonE, slcO, isiO, tyN, isSub, knownTy, tO, tsO, wipeP, sIx]
  have e2 : sIx xs.length xs.length none = xs.length := by unfold sIx; rfl
  rw [e1, e2]
  cases xs with
  | nil => rfl
  | cons x xs =>
    rw [List.length_cons, Nat.min_eq_left (by omega)]
    simp [ev_var, ev_int, ev_bl, ev_non, ev_str, ev_gint, ev_gstr, ev_bin, ev_neg, ev_cmp, ev_chain, ev_and, ev_or, ev_not, ev_ite, ev_tup, ev_lst, ev_ix, ev_call, ev_blt, ev_isi, ev_meth, ev_slc, evL, evI, ixO, itemsO, lisO, ixN, binO, binIO, cmpO, cmpIO, isBl, isInt, bltO, methO, eqO, isNon, isNonE, slcO, isiO, tyN, isSub, knownTy, tO, tsO, wipeP]
theorem g_all {d : Nat} {G : Orc} {xs : List PV} {st : Store} {env : List (Option PV)} {own : List (PySem.Str × Nat)} {tg : Nat} {it e : E} {k : PV → Bool} (hi : evI G it ⟨env, st⟩ = some xs) (hl : xs.length ≤ 1000) (hf : ∀ x ∈ xs, ∃ env', tO (.name tg) x (wipeP env (own.map (·.2))) = some env' ∧ ev G e ⟨env', st⟩ = some (.bl (k x))) :
    ev G (.blt .all false (.cons (.lc false own (.name tg) it (.bl true) e) .nil)) ⟨env, st⟩ = some (.bl (xs.all k)) :=
  ev_all (ev_lcA (G := G) (p := ⟨env, st⟩) (g := id) (h := fun x => .bl (k x)) xs (by rw [List.map_id]; exact hi) (by omega) hf)
def G3 : Orc := fun f xs => match f, xs with
  | 19, [x, .int lo, .int hi] => if thB x then some (.bl (lotB lo hi x)) else none
  | 12, [x] => if thB x then some (.bl (wiB 1 28 x)) else none
  | 15, [x] => if thB x then some (.bl (wiB 1 6 x)) else none
  | 20, [x] => if thB x then some (.bl (wiB (-1000) 1000 x)) else none
  | 25, [.int sh, x] => if thB x then some (.bl (wiB 0 sh x)) else none
  | 13, xs => G2 13 xs
  | 17, xs => G2 17 xs
  | _, _ => none
theorem g3_ok (d : Nat) : GOkF G3 (wF tbl (d + 3)) := fun f xs v h st Q X hq => by
  unfold G3 at h
  split at h
  · rename_i x lo hi
    obtain ⟨hx, h⟩ := Den.is h
    cases h
    have hnt : ∀ x, thB x = true → szB 1 (hi - lo + 1) x = false → lotB lo hi x = false := fun x _ h => by
      cases x <;> first | rfl | skip
      rename_i xs
      simp only [lotB, h, Bool.false_and]
    by_cases hs : szB 1 (hi - lo + 1) x = true
    · cases x <;> first | (cases hs; done) | skip
      rename_i xs
      obtain ⟨hl, hm⟩ := th_len hx
      have h1 := g_all (d := d) (G := G2) (st := st) (env := [some (.tup xs), some (.int lo), some (.int hi), none, none]) (own := [("one", 3)]) (tg := 3) (it := .seq (.var 0)) (e := .call 13 (.cons (.var 3) (.cons (.var 1) (.cons (.var 2) .nil)))) (k := wiB lo hi) (xs := xs) (by simp [ev_var, ev_int, ev_bl, ev_non, ev_str, ev_gint, ev_gstr, ev_bin, ev_neg, ev_cmp, ev_chain, ev_and, ev_or, ev_not, ev_ite, ev_tup, ev_lst, ev_ix, ev_call, ev_blt, ev_isi, ev_meth, ev_slc, evL, evI, ixO, itemsO, lisO, ixN, binO, binIO, cmpO, cmpIO, isBl, isInt, bltO, methO, eqO, isNon, isNonE, slcO, isiO, tyN, isSub, knownTy, tO, tsO, wipeP]) hl fun x hx => ⟨_, by simp [ev_var, ev_int, ev_bl, ev_non, ev_str, ev_gint, ev_gstr, ev_bin, ev_neg, ev_cmp, ev_chain, ev_and, ev_or, ev_not, ev_ite, ev_tup, ev_lst, ev_ix, ev_call, ev_blt, ev_isi, ev_meth, ev_slc, evL, evI, ixO, itemsO, lisO, ixN, binO, binIO, cmpO, cmpIO, isBl, isInt, bltO, methO, eqO, isNon, isNonE, slcO, isiO, tyN, isSub, knownTy, tO, tsO, wipeP]; rfl, by simp [ev_var, ev_int, ev_bl, ev_non, ev_str, ev_gint, ev_gstr, ev_bin, ev_neg, ev_cmp, ev_chain, ev_and, ev_or, ev_not, ev_ite, ev_tup, ev_lst, ev_ix, ev_call, ev_blt, ev_isi, ev_meth, ev_slc, evL, evI, ixO, itemsO, lisO, ixN, binO, binIO, cmpO, cmpIO, isBl, isInt, bltO, methO, eqO, isNon, isNonE, slcO, isiO, tyN, isSub, knownTy, tO, tsO, wipeP, G2, hm x hx]⟩
      by_cases hw : xs.all (wiB lo hi) = true
      · rw [hw] at h1
        refine wF_runE 3 5 b19 [some (.tup xs), some (.int lo), some (.int hi), none, none] rfl rfl (by decide) rfl (seqE (iteG (g2_ok d) false (by simp [ev_var, ev_int, ev_bl, ev_non, ev_str, ev_gint, ev_gstr, ev_bin, ev_neg, ev_cmp, ev_chain, ev_and, ev_or, ev_not, ev_ite, ev_tup, ev_lst, ev_ix, ev_call, ev_blt, ev_isi, ev_meth, ev_slc, evL, evI, ixO, itemsO, lisO, ixN, binO, binIO, cmpO, cmpIO, isBl, isInt, bltO, methO, eqO, isNon, isNonE, slcO, isiO, tyN, isSub, knownTy, tO, tsO, wipeP, ↓h1, G2, hx, hs]) (fun z => by cases z) (fun _ => nopE (F := wF tbl (d + 2)) ?_)))
        obtain ⟨ns, e1, rfl⟩ := wi_ints hw
        have h2 := ev_lcA (G := G2) (p := ⟨[some (vi ns), some (.int lo), some (.int hi), none, none], st⟩) (own := [("one", 3), ("other", 4)]) (tg := .tup (.cons (.name 3) (.cons (.name 4) .nil))) (it := .zip (.var 0) (.slc false (.var 0) (.int 1) .non)) (e := .cmp .Lt (.var 3) (.var 4)) (fun p : Int × Int => .tup [.int p.1, .int p.2]) (fun p => .bl (decide (p.1 < p.2))) (ns.zip ns.tail) (by
          have := zip_tail ns
          rw [List.map_tail] at this
          simp [ev_var, ev_int, ev_bl, ev_non, ev_str, ev_gint, ev_gstr, ev_bin, ev_neg, ev_cmp, ev_chain, ev_and, ev_or, ev_not, ev_ite, ev_tup, ev_lst, ev_ix, ev_call, ev_blt, ev_isi, ev_meth, ev_slc, evL, evI, ixO, itemsO, lisO, ixN, binO, binIO, cmpO, cmpIO, isBl, isInt, bltO, methO, eqO, isNon, isNonE, slcO, isiO, tyN, isSub, knownTy, tO, tsO, wipeP, cutP_one, this, isTup]) (by simp [ev_var, ev_int, ev_bl, ev_non, ev_str, ev_gint, ev_gstr, ev_bin, ev_neg, ev_cmp, ev_chain, ev_and, ev_or, ev_not, ev_ite, ev_tup, ev_lst, ev_ix, ev_call, ev_blt, ev_isi, ev_meth, ev_slc, evL, evI, ixO, itemsO, lisO, ixN, binO, binIO, cmpO, cmpIO, isBl, isInt, bltO, methO, eqO, isNon, isNonE, slcO, isiO, tyN, isSub, knownTy, tO, tsO, wipeP] at hl ⊢; omega) fun p hp => ⟨_, by simp [ev_var, ev_int, ev_bl, ev_non, ev_str, ev_gint, ev_gstr, ev_bin, ev_neg, ev_cmp, ev_chain, ev_and, ev_or, ev_not, ev_ite, ev_tup, ev_lst, ev_ix, ev_call, ev_blt, ev_isi, ev_meth, ev_slc, evL, evI, ixO, itemsO, lisO, ixN, binO, binIO, cmpO, cmpIO, isBl, isInt, bltO, methO, eqO, isNon, isNonE, slcO, isiO, tyN, isSub, knownTy, tO, tsO, wipeP]; rfl, by simp [ev_var, ev_int, ev_bl, ev_non, ev_str, ev_gint, ev_gstr, ev_bin, ev_neg, ev_cmp, ev_chain, ev_and, ev_or, ev_not, ev_ite, ev_tup, ev_lst, ev_ix, ev_call, ev_blt, ev_isi, ev_meth, ev_slc, evL, evI, ixO, itemsO, lisO, ixN, binO, binIO, cmpO, cmpIO, isBl, isInt, bltO, methO, eqO, isNon, isNonE, slcO, isiO, tyN, isSub, knownTy, tO, tsO, wipeP]⟩
        have a2 := ev_all (m := false) (k := fun p : Int × Int => decide (p.1 < p.2)) h2
        refine seqE (retG (g2_ok d) (v := .bl (lotB lo hi (vi ns))) ?_ hq)
        rw [a2]
        show _ = some (PV.bl (szB 1 (hi - lo + 1) (vi ns) && (ns.map PV.int).all (wiB lo hi) && ascB (ns.map PV.int)))
        rw [hs, hw]
        unfold ascB
        rw [e1]
        rfl
      · have hw : xs.all (wiB lo hi) = false := by simpa [ev_var, ev_int, ev_bl, ev_non, ev_str, ev_gint, ev_gstr, ev_bin, ev_neg, ev_cmp, ev_chain, ev_and, ev_or, ev_not, ev_ite, ev_tup, ev_lst, ev_ix, ev_call, ev_blt, ev_isi, ev_meth, ev_slc, evL, evI, ixO, itemsO, lisO, ixN, binO, binIO, cmpO, cmpIO, isBl, isInt, bltO, methO, eqO, isNon, isNonE, slcO, isiO, tyN, isSub, knownTy, tO, tsO, wipeP] using hw
        rw [hw] at h1
        refine wF_runE 3 5 b19 [some (.tup xs), some (.int lo), some (.int hi), none, none] rfl rfl (by decide) rfl (seqE (iteG (g2_ok d) true (by simp [ev_var, ev_int, ev_bl, ev_non, ev_str, ev_gint, ev_gstr, ev_bin, ev_neg, ev_cmp, ev_chain, ev_and, ev_or, ev_not, ev_ite, ev_tup, ev_lst, ev_ix, ev_call, ev_blt, ev_isi, ev_meth, ev_slc, evL, evI, ixO, itemsO, lisO, ixN, binO, binIO, cmpO, cmpIO, isBl, isInt, bltO, methO, eqO, isNon, isNonE, slcO, isiO, tyN, isSub, knownTy, tO, tsO, wipeP, ↓h1, G2, hx, hs]) (fun _ => ?_) (fun z => by cases z)))
        refine seqE (retG noG_ok (v := .bl (lotB lo hi (.tup xs))) ?_ hq)
        simp only [lotB, hw, Bool.and_false, Bool.false_and]
        simp [ev_var, ev_int, ev_bl, ev_non, ev_str, ev_gint, ev_gstr, ev_bin, ev_neg, ev_cmp, ev_chain, ev_and, ev_or, ev_not, ev_ite, ev_tup, ev_lst, ev_ix, ev_call, ev_blt, ev_isi, ev_meth, ev_slc, evL, evI, ixO, itemsO, lisO, ixN, binO, binIO, cmpO, cmpIO, isBl, isInt, bltO, methO, eqO, isNon, isNonE, slcO, isiO, tyN, isSub, knownTy, tO, tsO, wipeP]
    · have hs : szB 1 (hi - lo + 1) x = false := by simpa [ev_var, ev_int, ev_bl, ev_non, ev_str, ev_gint, ev_gstr, ev_bin, ev_neg, ev_cmp, ev_chain, ev_and, ev_or, ev_not, ev_ite, ev_tup, ev_lst, ev_ix, ev_call, ev_blt, ev_isi, ev_meth, ev_slc, evL, evI, ixO, itemsO, lisO, ixN, binO, binIO, cmpO, cmpIO, isBl, isInt, bltO, methO, eqO, isNon, isNonE, slcO, isiO, tyN, isSub, knownTy, tO, tsO, wipeP] using hs
      refine wF_runE 3 5 b19 [some x, some (.int lo), some (.int hi), none, none] rfl rfl (by decide) rfl (seqE (iteG (g2_ok d) true (by simp [ev_var, ev_int, ev_bl, ev_non, ev_str, ev_gint, ev_gstr, ev_bin, ev_neg, ev_cmp, ev_chain, ev_and, ev_or, ev_not, ev_ite, ev_tup, ev_lst, ev_ix, ev_call, ev_blt, ev_isi, ev_meth, ev_slc, evL, evI, ixO, itemsO, lisO, ixN, binO, binIO, cmpO, cmpIO, isBl, isInt, bltO, methO, eqO, isNon, isNonE, slcO, isiO, tyN, isSub, knownTy, tO, tsO, wipeP, G2, hx, hs]) (fun _ => ?_) (fun z => by cases z)))
      refine seqE (retG noG_ok (v := .bl (lotB lo hi x)) ?_ hq)
      rw [hnt x hx hs]
      simp [ev_var, ev_int, ev_bl, ev_non, ev_str, ev_gint, ev_gstr, ev_bin, ev_neg, ev_cmp, ev_chain, ev_and, ev_or, ev_not, ev_ite, ev_tup, ev_lst, ev_ix, ev_call, ev_blt, ev_isi, ev_meth, ev_slc, evL, evI, ixO, itemsO, lisO, ixN, binO, binIO, cmpO, cmpIO, isBl, isInt, bltO, methO, eqO, isNon, isNonE, slcO, isiO, tyN, isSub, knownTy, tO, tsO, wipeP]
  · rename_i x
    obtain ⟨hx, h⟩ := Den.is h
    cases h
    exact wF_runE 1 1 b12 [some x] rfl rfl (by decide) rfl (seqE (retG (g2_ok d) (by simp [ev_var, ev_int, ev_bl, ev_non, ev_str, ev_gint, ev_gstr, ev_bin, ev_neg, ev_cmp, ev_chain, ev_and, ev_or, ev_not, ev_ite, ev_tup, ev_lst, ev_ix, ev_call, ev_blt, ev_isi, ev_meth, ev_slc, evL, evI, ixO, itemsO, lisO, ixN, binO, binIO, cmpO, cmpIO, isBl, isInt, bltO, methO, eqO, isNon, isNonE, slcO, isiO, tyN, isSub, knownTy, tO, tsO, wipeP, G2, hx]) hq))
  · rename_i x
    obtain ⟨hx, h⟩ := Den.is h
    cases h
    exact wF_runE 1 1 b15 [some x] rfl rfl (by decide) rfl (seqE (retG (g2_ok d) (by simp [ev_var, ev_int, ev_bl, ev_non, ev_str, ev_gint, ev_gstr, ev_bin, ev_neg, ev_cmp, ev_chain, ev_and, ev_or, ev_not, ev_ite, ev_tup, ev_lst, ev_ix, ev_call, ev_blt, ev_isi, ev_meth, ev_slc, evL, evI, ixO, itemsO, lisO, ixN, binO, binIO, cmpO, cmpIO, isBl, isInt, bltO, methO, eqO, isNon, isNonE, slcO, isiO, tyN, isSub, knownTy, tO, tsO, wipeP, G2, hx]) hq))
  · rename_i x
    obtain ⟨hx, h⟩ := Den.is h
    cases h
    exact wF_runE 1 1 b20 [some x] rfl rfl (by decide) rfl (seqE (retG (g2_ok d) (by simp [ev_var, ev_int, ev_bl, ev_non, ev_str, ev_gint, ev_gstr, ev_bin, ev_neg, ev_cmp, ev_chain, ev_and, ev_or, ev_not, ev_ite, ev_tup, ev_lst, ev_ix, ev_call, ev_blt, ev_isi, ev_meth, ev_slc, evL, evI, ixO, itemsO, lisO, ixN, binO, binIO, cmpO, cmpIO, isBl, isInt, bltO, methO, eqO, isNon, isNonE, slcO, isiO, tyN, isSub, knownTy, tO, tsO, wipeP, G2, hx]) hq))
  · rename_i sh x
    obtain ⟨hx, h⟩ := Den.is h
    cases h
    exact wF_runE 2 2 b25 [some (.int sh), some x] rfl rfl (by decide) rfl (seqE (retG (g2_ok d) (by simp [ev_var, ev_int, ev_bl, ev_non, ev_str, ev_gint, ev_gstr, ev_bin, ev_neg, ev_cmp, ev_chain, ev_and, ev_or, ev_not, ev_ite, ev_tup, ev_lst, ev_ix, ev_call, ev_blt, ev_isi, ev_meth, ev_slc, evL, evI, ixO, itemsO, lisO, ixN, binO, binIO, cmpO, cmpIO, isBl, isInt, bltO, methO, eqO, isNon, isNonE, slcO, isiO, tyN, isSub, knownTy, tO, tsO, wipeP, G2, hx]) hq))
  · exact g2_ok (d + 1) _ _ _ h st Q X hq
  · exact g2_ok (d + 1) _ _ _ h st Q X hq
  · cases h
def G4 : Orc := fun f xs => match f, xs with
  | 21, [.int sh, x] => if thB x then some (.bl (rowB sh x)) else none
  | 24, [.int sh, .tup xs] => if thB (.tup xs) then some (.bl (xs.all (wiB 0 sh))) else none
  | 11, [.int w, .int s] => if wiB 1 28 (.int w) && wiB 1 6 (.int s) then some .non else none
  | 13, xs => G3 13 xs
  | 17, xs => G3 17 xs
  | 19, xs => G3 19 xs
  | 20, xs => G3 20 xs
  | _, _ => none
theorem g4_ok (d : Nat) : GOkF G4 (wF tbl (d + 4)) := fun f xs v h st Q X hq => by
  unfold G4 at h
  split at h
  · rename_i sh x
    obtain ⟨hx, h⟩ := Den.is h
    cases h
    by_cases hs : szB 2 6 x = true
    · cases x <;> first | (cases hs; done) | skip
      rename_i xs
      obtain ⟨hl, hm⟩ := th_len hx
      have h1 := g_all (d := d) (G := G3) (st := st) (env := [some (.int sh), some (.tup xs), none]) (own := [("lot", 2)]) (tg := 2) (it := .seq (.var 1)) (e := .call 19 (.cons (.var 2) (.cons (.int 0) (.cons (.var 0) .nil)))) (k := lotB 0 sh) (xs := xs) (by simp [ev_var, ev_int, ev_bl, ev_non, ev_str, ev_gint, ev_gstr, ev_bin, ev_neg, ev_cmp, ev_chain, ev_and, ev_or, ev_not, ev_ite, ev_tup, ev_lst, ev_ix, ev_call, ev_blt, ev_isi, ev_meth, ev_slc, evL, evI, ixO, itemsO, lisO, ixN, binO, binIO, cmpO, cmpIO, isBl, isInt, bltO, methO, eqO, isNon, isNonE, slcO, isiO, tyN, isSub, knownTy, tO, tsO, wipeP]) hl fun x hx => ⟨_, by simp [ev_var, ev_int, ev_bl, ev_non, ev_str, ev_gint, ev_gstr, ev_bin, ev_neg, ev_cmp, ev_chain, ev_and, ev_or, ev_not, ev_ite, ev_tup, ev_lst, ev_ix, ev_call, ev_blt, ev_isi, ev_meth, ev_slc, evL, evI, ixO, itemsO, lisO, ixN, binO, binIO, cmpO, cmpIO, isBl, isInt, bltO, methO, eqO, isNon, isNonE, slcO, isiO, tyN, isSub, knownTy, tO, tsO, wipeP]; rfl, by simp [ev_var, ev_int, ev_bl, ev_non, ev_str, ev_gint, ev_gstr, ev_bin, ev_neg, ev_cmp, ev_chain, ev_and, ev_or, ev_not, ev_ite, ev_tup, ev_lst, ev_ix, ev_call, ev_blt, ev_isi, ev_meth, ev_slc, evL, evI, ixO, itemsO, lisO, ixN, binO, binIO, cmpO, cmpIO, isBl, isInt, bltO, methO, eqO, isNon, isNonE, slcO, isiO, tyN, isSub, knownTy, tO, tsO, wipeP, G3, hm x hx]⟩
      refine wF_runE 2 3 b21 [some (.int sh), some (.tup xs), none] rfl rfl (by decide) rfl (seqE (retG (g3_ok d) (v := .bl (rowB sh (.tup xs))) ?_ hq))
      simp [ev_var, ev_int, ev_bl, ev_non, ev_str, ev_gint, ev_gstr, ev_bin, ev_neg, ev_cmp, ev_chain, ev_and, ev_or, ev_not, ev_ite, ev_tup, ev_lst, ev_ix, ev_call, ev_blt, ev_isi, ev_meth, ev_slc, evL, evI, ixO, itemsO, lisO, ixN, binO, binIO, cmpO, cmpIO, isBl, isInt, bltO, methO, eqO, isNon, isNonE, slcO, isiO, tyN, isSub, knownTy, tO, tsO, wipeP, ↓h1, G3, G2, hx, hs, rowB]
    · have hs : szB 2 6 x = false := by simpa [ev_var, ev_int, ev_bl, ev_non, ev_str, ev_gint, ev_gstr, ev_bin, ev_neg, ev_cmp, ev_chain, ev_and, ev_or, ev_not, ev_ite, ev_tup, ev_lst, ev_ix, ev_call, ev_blt, ev_isi, ev_meth, ev_slc, evL, evI, ixO, itemsO, lisO, ixN, binO, binIO, cmpO, cmpIO, isBl, isInt, bltO, methO, eqO, isNon, isNonE, slcO, isiO, tyN, isSub, knownTy, tO, tsO, wipeP] using hs
      refine wF_runE 2 3 b21 [some (.int sh), some x, none] rfl rfl (by decide) rfl (seqE (retG (g3_ok d) (v := .bl (rowB sh x)) ?_ hq))
      have e : rowB sh x = false := by
        cases x <;> first | rfl | skip
        simp only [rowB, hs, Bool.false_and]
      simp [ev_var, ev_int, ev_bl, ev_non, ev_str, ev_gint, ev_gstr, ev_bin, ev_neg, ev_cmp, ev_chain, ev_and, ev_or, ev_not, ev_ite, ev_tup, ev_lst, ev_ix, ev_call, ev_blt, ev_isi, ev_meth, ev_slc, evL, evI, ixO, itemsO, lisO, ixN, binO, binIO, cmpO, cmpIO, isBl, isInt, bltO, methO, eqO, isNon, isNonE, slcO, isiO, tyN, isSub, knownTy, tO, tsO, wipeP, G3, G2, hx, hs, e]
  · rename_i sh xs
    obtain ⟨hx, h⟩ := Den.is h
    cases h
    obtain ⟨hl, hm⟩ := th_len hx
    have h1 := g_all (d := d) (G := G3) (st := st) (env := [some (.int sh), some (.tup xs), none]) (own := [("letter", 2)]) (tg := 2) (it := .seq (.var 1)) (e := .call 25 (.cons (.var 0) (.cons (.var 2) .nil))) (k := wiB 0 sh) (xs := xs) (by simp [ev_var, ev_int, ev_bl, ev_non, ev_str, ev_gint, ev_gstr, ev_bin, ev_neg, ev_cmp, ev_chain, ev_and, ev_or, ev_not, ev_ite, ev_tup, ev_lst, ev_ix, ev_call, ev_blt, ev_isi, ev_meth, ev_slc, evL, evI, ixO, itemsO, lisO, ixN, binO, binIO, cmpO, cmpIO, isBl, isInt, bltO, methO, eqO, isNon, isNonE, slcO, isiO, tyN, isSub, knownTy, tO, tsO, wipeP]) hl fun x hx => ⟨_, by simp [ev_var, ev_int, ev_bl, ev_non, ev_str, ev_gint, ev_gstr, ev_bin, ev_neg, ev_cmp, ev_chain, ev_and, ev_or, ev_not, ev_ite, ev_tup, ev_lst, ev_ix, ev_call, ev_blt, ev_isi, ev_meth, ev_slc, evL, evI, ixO, itemsO, lisO, ixN, binO, binIO, cmpO, cmpIO, isBl, isInt, bltO, methO, eqO, isNon, isNonE, slcO, isiO, tyN, isSub, knownTy, tO, tsO, wipeP]; rfl, by simp [ev_var, ev_int, ev_bl, ev_non, ev_str, ev_gint, ev_gstr, ev_bin, ev_neg, ev_cmp, ev_chain, ev_and, ev_or, ev_not, ev_ite, ev_tup, ev_lst, ev_ix, ev_call, ev_blt, ev_isi, ev_meth, ev_slc, evL, evI, ixO, itemsO, lisO, ixN, binO, binIO, cmpO, cmpIO, isBl, isInt, bltO, methO, eqO, isNon, isNonE, slcO, isiO, tyN, isSub, knownTy, tO, tsO, wipeP, G3, hm x hx]⟩
    refine wF_runE 2 3 b24 [some (.int sh), some (.tup xs), none] rfl rfl (by decide) rfl (seqE (retG (g3_ok d) (v := .bl (xs.all (wiB 0 sh))) ?_ hq))
    simp [ev_var, ev_int, ev_bl, ev_non, ev_str, ev_gint, ev_gstr, ev_bin, ev_neg, ev_cmp, ev_chain, ev_and, ev_or, ev_not, ev_ite, ev_tup, ev_lst, ev_ix, ev_call, ev_blt, ev_isi, ev_meth, ev_slc, evL, evI, ixO, itemsO, lisO, ixN, binO, binIO, cmpO, cmpIO, isBl, isInt, bltO, methO, eqO, isNon, isNonE, slcO, isiO, tyN, isSub, knownTy, tO, tsO, wipeP, ↓h1]
  · rename_i w s
    obtain ⟨hx, h⟩ := Den.is h
    cases h
    rw [Bool.and_eq_true] at hx
    refine wF_runE 2 2 b11 [some (.int w), some (.int s)] rfl rfl (by decide) rfl (seqE (iteG (g3_ok d) false (by simp [ev_var, ev_int, ev_bl, ev_non, ev_str, ev_gint, ev_gstr, ev_bin, ev_neg, ev_cmp, ev_chain, ev_and, ev_or, ev_not, ev_ite, ev_tup, ev_lst, ev_ix, ev_call, ev_blt, ev_isi, ev_meth, ev_slc, evL, evI, ixO, itemsO, lisO, ixN, binO, binIO, cmpO, cmpIO, isBl, isInt, bltO, methO, eqO, isNon, isNonE, slcO, isiO, tyN, isSub, knownTy, tO, tsO, wipeP, G3, thB, hx.1]) (fun z => by cases z) (fun _ => nopE (F := wF tbl (d + 3)) ?_)))
    exact seqE (iteG (g3_ok d) false (by simp [ev_var, ev_int, ev_bl, ev_non, ev_str, ev_gint, ev_gstr, ev_bin, ev_neg, ev_cmp, ev_chain, ev_and, ev_or, ev_not, ev_ite, ev_tup, ev_lst, ev_ix, ev_call, ev_blt, ev_isi, ev_meth, ev_slc, evL, evI, ixO, itemsO, lisO, ixN, binO, binIO, cmpO, cmpIO, isBl, isInt, bltO, methO, eqO, isNon, isNonE, slcO, isiO, tyN, isSub, knownTy, tO, tsO, wipeP, G3, thB, hx.2]) (fun z => by cases z) (fun _ => nopE (F := wF tbl (d + 3)) (nopE (F := wF tbl (d + 3)) hq)))
  · exact g3_ok (d + 1) _ _ _ h st Q X hq
  · exact g3_ok (d + 1) _ _ _ h st Q X hq
  · exact g3_ok (d + 1) _ _ _ h st Q X hq
  · exact g3_ok (d + 1) _ _ _ h st Q X hq
  · cases h
def G5 : Orc := fun f xs => match f, xs with
  | 18, [.int w, .int sh, x] => if thB x then some (.bl (payB w sh x)) else none
  | 17, xs => G4 17 xs
  | 11, xs => G4 11 xs
  | _, _ => none
theorem sk1 : PySem.PyData.strOk "each" = true := by decide +kernel
theorem sk2 : PySem.PyData.strOk "row" = true := by decide +kernel
theorem sk3 : PySem.PyData.strOk "over" = true := by decide +kernel
theorem sk4 : PySem.PyData.strOk "on" = true := by decide +kernel
theorem kw1 : ("row" : PySem.Str) ≠ "each" := by decide +kernel
theorem kw2 : ("over" : PySem.Str) ≠ "each" := by decide +kernel
theorem kw3 : ("over" : PySem.Str) ≠ "row" := by decide +kernel
theorem kw4 : ("on" : PySem.Str) ≠ "each" := by decide +kernel
theorem kw5 : ("on" : PySem.Str) ≠ "row" := by decide +kernel
theorem kw6 : ("on" : PySem.Str) ≠ "over" := by decide +kernel
theorem pay_no {w sh : Int} {xs : List PV} (h1 : xs.length ≠ 3) (h2 : xs.length ≠ 4) : payB w sh (.tup xs) = false := by
  match xs with
  | [] => rfl
  | [_] => simp [ev_var, ev_int, ev_bl, ev_non, ev_str, ev_gint, ev_gstr, ev_bin, ev_neg, ev_cmp, ev_chain, ev_and, ev_or, ev_not, ev_ite, ev_tup, ev_lst, ev_ix, ev_call, ev_blt, ev_isi, ev_meth, ev_slc, evL, evI, ixO, itemsO, lisO, ixN, binO, binIO, cmpO, cmpIO, isBl, isInt, bltO, methO, eqO, isNon, isNonE, slcO, isiO, tyN, isSub, knownTy, tO, tsO, wipeP, payB]
  | [_, _] => simp [ev_var, ev_int, ev_bl, ev_non, ev_str, ev_gint, ev_gstr, ev_bin, ev_neg, ev_cmp, ev_chain, ev_and, ev_or, ev_not, ev_ite, ev_tup, ev_lst, ev_ix, ev_call, ev_blt, ev_isi, ev_meth, ev_slc, evL, evI, ixO, itemsO, lisO, ixN, binO, binIO, cmpO, cmpIO, isBl, isInt, bltO, methO, eqO, isNon, isNonE, slcO, isiO, tyN, isSub, knownTy, tO, tsO, wipeP, payB]
  | [_, _, _] => exact absurd rfl h1
  | [_, _, _, _] => exact absurd rfl h2
  | _ :: _ :: _ :: _ :: _ :: _ =>
    unfold payB
    split <;> simp_all [ev_var, ev_int, ev_bl, ev_non, ev_str, ev_gint, ev_gstr, ev_bin, ev_neg, ev_cmp, ev_chain, ev_and, ev_or, ev_not, ev_ite, ev_tup, ev_lst, ev_ix, ev_call, ev_blt, ev_isi, ev_meth, ev_slc, evL, evI, ixO, itemsO, lisO, ixN, binO, binIO, cmpO, cmpIO, isBl, isInt, bltO, methO, eqO, isNon, isNonE, slcO, isiO, tyN, isSub, knownTy, tO, tsO, wipeP]
theorem g5_ok (d : Nat) : GOkF G5 (wF tbl (d + 5)) := fun f xs v h st Q X hq => by
  unfold G5 at h
  split at h
  · rename_i w sh x
    obtain ⟨hx, h⟩ := Den.is h
    cases h
    -- what ends at the first test
    have stop : ∀ {c : E}, ev G4 c ⟨[some (.int w), some (.int sh), some x, none], st⟩ = some (.bl true) → payB w sh x = false → ∀ {b : S}, wS (wF tbl (d + 4)) (.seq (.ite c (.seq (.ret (.bl false)) .nop) .nop) b) ⟨[some (.int w), some (.int sh), some x, none], st⟩ { nx := fun p => Q .non p.st, rt := fun v p => Q v p.st, ex := fun x p => X x p.st } := fun {c} hc hp {b} => by
      refine seqE (iteG (g4_ok d) true hc (fun _ => seqE (retG noG_ok (v := .bl false) (by simp [ev_var, ev_int, ev_bl, ev_non, ev_str, ev_gint, ev_gstr, ev_bin, ev_neg, ev_cmp, ev_chain, ev_and, ev_or, ev_not, ev_ite, ev_tup, ev_lst, ev_ix, ev_call, ev_blt, ev_isi, ev_meth, ev_slc, evL, evI, ixO, itemsO, lisO, ixN, binO, binIO, cmpO, cmpIO, isBl, isInt, bltO, methO, eqO, isNon, isNonE, slcO, isiO, tyN, isSub, knownTy, tO, tsO, wipeP]) ?_)) (fun z => by cases z))
      rw [← hp]; exact hq
    refine wF_runE 3 4 b18 [some (.int w), some (.int sh), some x, none] rfl rfl (by decide) rfl ?_
    cases x <;> first | (cases hx; done) | skip
    case tup xs =>
      obtain ⟨hl, hm⟩ := th_len hx
      match xs, hl, hm with
      | [], hl, hm => exact stop (by simp [ev_var, ev_int, ev_bl, ev_non, ev_str, ev_gint, ev_gstr, ev_bin, ev_neg, ev_cmp, ev_chain, ev_and, ev_or, ev_not, ev_ite, ev_tup, ev_lst, ev_ix, ev_call, ev_blt, ev_isi, ev_meth, ev_slc, evL, evI, ixO, itemsO, lisO, ixN, binO, binIO, cmpO, cmpIO, isBl, isInt, bltO, methO, eqO, isNon, isNonE, slcO, isiO, tyN, isSub, knownTy, tO, tsO, wipeP]) (by simp [ev_var, ev_int, ev_bl, ev_non, ev_str, ev_gint, ev_gstr, ev_bin, ev_neg, ev_cmp, ev_chain, ev_and, ev_or, ev_not, ev_ite, ev_tup, ev_lst, ev_ix, ev_call, ev_blt, ev_isi, ev_meth, ev_slc, evL, evI, ixO, itemsO, lisO, ixN, binO, binIO, cmpO, cmpIO, isBl, isInt, bltO, methO, eqO, isNon, isNonE, slcO, isiO, tyN, isSub, knownTy, tO, tsO, wipeP, payB])
      | [a], hl, hm => exact stop (by simp [ev_var, ev_int, ev_bl, ev_non, ev_str, ev_gint, ev_gstr, ev_bin, ev_neg, ev_cmp, ev_chain, ev_and, ev_or, ev_not, ev_ite, ev_tup, ev_lst, ev_ix, ev_call, ev_blt, ev_isi, ev_meth, ev_slc, evL, evI, ixO, itemsO, lisO, ixN, binO, binIO, cmpO, cmpIO, isBl, isInt, bltO, methO, eqO, isNon, isNonE, slcO, isiO, tyN, isSub, knownTy, tO, tsO, wipeP]) (by simp [ev_var, ev_int, ev_bl, ev_non, ev_str, ev_gint, ev_gstr, ev_bin, ev_neg, ev_cmp, ev_chain, ev_and, ev_or, ev_not, ev_ite, ev_tup, ev_lst, ev_ix, ev_call, ev_blt, ev_isi, ev_meth, ev_slc, evL, evI, ixO, itemsO, lisO, ixN, binO, binIO, cmpO, cmpIO, isBl, isInt, bltO, methO, eqO, isNon, isNonE, slcO, isiO, tyN, isSub, knownTy, tO, tsO, wipeP, payB])
      | [a, b], hl, hm => exact stop (by simp [ev_var, ev_int, ev_bl, ev_non, ev_str, ev_gint, ev_gstr, ev_bin, ev_neg, ev_cmp, ev_chain, ev_and, ev_or, ev_not, ev_ite, ev_tup, ev_lst, ev_ix, ev_call, ev_blt, ev_isi, ev_meth, ev_slc, evL, evI, ixO, itemsO, lisO, ixN, binO, binIO, cmpO, cmpIO, isBl, isInt, bltO, methO, eqO, isNon, isNonE, slcO, isiO, tyN, isSub, knownTy, tO, tsO, wipeP]) (by simp [ev_var, ev_int, ev_bl, ev_non, ev_str, ev_gint, ev_gstr, ev_bin, ev_neg, ev_cmp, ev_chain, ev_and, ev_or, ev_not, ev_ite, ev_tup, ev_lst, ev_ix, ev_call, ev_blt, ev_isi, ev_meth, ev_slc, evL, evI, ixO, itemsO, lisO, ixN, binO, binIO, cmpO, cmpIO, isBl, isInt, bltO, methO, eqO, isNon, isNonE, slcO, isiO, tyN, isSub, knownTy, tO, tsO, wipeP, payB])
      | y :: a :: b :: r, hl, hm =>
        have hlen : ¬ ((r.length : Int) + 1 + 1 + 1 < 3) := by omega
        obtain ⟨z, hz, hz2⟩ : ∃ z, (y :: a :: b :: r)[r.length + 2]? = some z ∧ z ∈ (y :: a :: b :: r) := ⟨(y :: a :: b :: r)[r.length + 2], by simp [ev_var, ev_int, ev_bl, ev_non, ev_str, ev_gint, ev_gstr, ev_bin, ev_neg, ev_cmp, ev_chain, ev_and, ev_or, ev_not, ev_ite, ev_tup, ev_lst, ev_ix, ev_call, ev_blt, ev_isi, ev_meth, ev_slc, evL, evI, ixO, itemsO, lisO, ixN, binO, binIO, cmpO, cmpIO, isBl, isInt, bltO, methO, eqO, isNon, isNonE, slcO, isiO, tyN, isSub, knownTy, tO, tsO, wipeP], List.getElem_mem _⟩
        have hlast : ev G4 (.ix (.var 2) (.neg (.int 1))) ⟨[some (.int w), some (.int sh), some (.tup (y :: a :: b :: r)), none], st⟩ = some z := by
          have e1 : (-(1 : Int) + ((r.length + 1 + 1 + 1 : Nat) : Int)).toNat = r.length + 2 := by omega
          have e2 : (if (0 : Int) ≤ -1 then (if (-1 : Int) < (((y :: a :: b :: r).length : Nat) : Int) then some (-1 : Int).toNat else none) else if -((((y :: a :: b :: r).length : Nat)) : Int) ≤ -1 then some (-1 + (((y :: a :: b :: r).length : Nat) : Int)).toNat else none) = some (r.length + 2) := by
            rw [if_neg (by decide), if_pos (by simp [ev_var, ev_int, ev_bl, ev_non, ev_str, ev_gint, ev_gstr, ev_bin, ev_neg, ev_cmp, ev_chain, ev_and, ev_or, ev_not, ev_ite, ev_tup, ev_lst, ev_ix, ev_call, ev_blt, ev_isi, ev_meth, ev_slc, evL, evI, ixO, itemsO, lisO, ixN, binO, binIO, cmpO, cmpIO, isBl, isInt, bltO, methO, eqO, isNon, isNonE, slcO, isiO, tyN, isSub, knownTy, tO, tsO, wipeP]; omega)]
            congr 1
          simp only [ev_ix, ev_var, ev_neg, ev_int, ixO, itemsO, isInt, List.getElem?_cons_succ, List.getElem?_cons_zero, Option.bind_some, Option.map_some, id]
          show (Den.ixN _ (-1)).bind _ = _
          unfold Den.ixN
          rw [e2, Option.bind_some]
          exact hz
        have thz := hm z hz2
        have thy := hm y List.mem_cons_self
        have tha := hm a (by simp [ev_var, ev_int, ev_bl, ev_non, ev_str, ev_gint, ev_gstr, ev_bin, ev_neg, ev_cmp, ev_chain, ev_and, ev_or, ev_not, ev_ite, ev_tup, ev_lst, ev_ix, ev_call, ev_blt, ev_isi, ev_meth, ev_slc, evL, evI, ixO, itemsO, lisO, ixN, binO, binIO, cmpO, cmpIO, isBl, isInt, bltO, methO, eqO, isNon, isNonE, slcO, isiO, tyN, isSub, knownTy, tO, tsO, wipeP])
        have thb := hm b (by simp [ev_var, ev_int, ev_bl, ev_non, ev_str, ev_gint, ev_gstr, ev_bin, ev_neg, ev_cmp, ev_chain, ev_and, ev_or, ev_not, ev_ite, ev_tup, ev_lst, ev_ix, ev_call, ev_blt, ev_isi, ev_meth, ev_slc, evL, evI, ixO, itemsO, lisO, ixN, binO, binIO, cmpO, cmpIO, isBl, isInt, bltO, methO, eqO, isNon, isNonE, slcO, isiO, tyN, isSub, knownTy, tO, tsO, wipeP])
        by_cases hs : ∃ wd, y = .str wd
        · obtain ⟨wd, rfl⟩ := hs
          have hok : PySem.PyData.strOk wd = true := by simpa [ev_var, ev_int, ev_bl, ev_non, ev_str, ev_gint, ev_gstr, ev_bin, ev_neg, ev_cmp, ev_chain, ev_and, ev_or, ev_not, ev_ite, ev_tup, ev_lst, ev_ix, ev_call, ev_blt, ev_isi, ev_meth, ev_slc, evL, evI, ixO, itemsO, lisO, ixN, binO, binIO, cmpO, cmpIO, isBl, isInt, bltO, methO, eqO, isNon, isNonE, slcO, isiO, tyN, isSub, knownTy, tO, tsO, wipeP, thB] using thy
          by_cases hw : wiB (-1000) 1000 z = true
          · refine seqE (iteG (g4_ok d) false (by simp [ev_var, ev_int, ev_bl, ev_non, ev_str, ev_gint, ev_gstr, ev_bin, ev_neg, ev_cmp, ev_chain, ev_and, ev_or, ev_not, ev_ite, ev_tup, ev_lst, ev_ix, ev_call, ev_blt, ev_isi, ev_meth, ev_slc, evL, evI, ixO, itemsO, lisO, ixN, binO, binIO, cmpO, cmpIO, isBl, isInt, bltO, methO, eqO, isNon, isNonE, slcO, isiO, tyN, isSub, knownTy, tO, tsO, wipeP, ↓hlast, hlen, G4, G3, thz, hw]) (fun z => by cases z) (fun _ => nopE (F := wF tbl (d + 4)) ?_))
            refine seqE (asgG noG_ok (v := .str wd) (by simp [ev_var, ev_int, ev_bl, ev_non, ev_str, ev_gint, ev_gstr, ev_bin, ev_neg, ev_cmp, ev_chain, ev_and, ev_or, ev_not, ev_ite, ev_tup, ev_lst, ev_ix, ev_call, ev_blt, ev_isi, ev_meth, ev_slc, evL, evI, ixO, itemsO, lisO, ixN, binO, binIO, cmpO, cmpIO, isBl, isInt, bltO, methO, eqO, isNon, isNonE, slcO, isiO, tyN, isSub, knownTy, tO, tsO, wipeP]) (by simp [ev_var, ev_int, ev_bl, ev_non, ev_str, ev_gint, ev_gstr, ev_bin, ev_neg, ev_cmp, ev_chain, ev_and, ev_or, ev_not, ev_ite, ev_tup, ev_lst, ev_ix, ev_call, ev_blt, ev_isi, ev_meth, ev_slc, evL, evI, ixO, itemsO, lisO, ixN, binO, binIO, cmpO, cmpIO, isBl, isInt, bltO, methO, eqO, isNon, isNonE, slcO, isiO, tyN, isSub, knownTy, tO, tsO, wipeP]) ?_)
            show wS _ _ ⟨[some (.int w), some (.int sh), some (.tup (.str wd :: a :: b :: r)), some (.str wd)], st⟩ _
            have hl3 : ∀ {c : E}, True := fun {_} => trivial
            by_cases h1 : wd = "each"
            · refine seqE (iteG (g4_ok d) true (by simp [ev_var, ev_int, ev_bl, ev_non, ev_str, ev_gint, ev_gstr, ev_bin, ev_neg, ev_cmp, ev_chain, ev_and, ev_or, ev_not, ev_ite, ev_tup, ev_lst, ev_ix, ev_call, ev_blt, ev_isi, ev_meth, ev_slc, evL, evI, ixO, itemsO, lisO, ixN, binO, binIO, cmpO, cmpIO, isBl, isInt, bltO, methO, eqO, isNon, isNonE, slcO, isiO, tyN, isSub, knownTy, tO, tsO, wipeP, hok, sk1, h1]) (fun _ => ?_) (fun z => by cases z))
              match r, hz with
              | [], hz =>
                obtain rfl : b = z := by simpa [ev_var, ev_int, ev_bl, ev_non, ev_str, ev_gint, ev_gstr, ev_bin, ev_neg, ev_cmp, ev_chain, ev_and, ev_or, ev_not, ev_ite, ev_tup, ev_lst, ev_ix, ev_call, ev_blt, ev_isi, ev_meth, ev_slc, evL, evI, ixO, itemsO, lisO, ixN, binO, binIO, cmpO, cmpIO, isBl, isInt, bltO, methO, eqO, isNon, isNonE, slcO, isiO, tyN, isSub, knownTy, tO, tsO, wipeP] using hz
                refine seqE (retG (g4_ok d) (v := .bl (payB w sh (.tup [.str wd, a, b]))) ?_ hq)
                simp [ev_var, ev_int, ev_bl, ev_non, ev_str, ev_gint, ev_gstr, ev_bin, ev_neg, ev_cmp, ev_chain, ev_and, ev_or, ev_not, ev_ite, ev_tup, ev_lst, ev_ix, ev_call, ev_blt, ev_isi, ev_meth, ev_slc, evL, evI, ixO, itemsO, lisO, ixN, binO, binIO, cmpO, cmpIO, isBl, isInt, bltO, methO, eqO, isNon, isNonE, slcO, isiO, tyN, isSub, knownTy, tO, tsO, wipeP, G4, G3, tha, payB, hw, h1]
              | [c], hz =>
                obtain rfl : c = z := by simpa [ev_var, ev_int, ev_bl, ev_non, ev_str, ev_gint, ev_gstr, ev_bin, ev_neg, ev_cmp, ev_chain, ev_and, ev_or, ev_not, ev_ite, ev_tup, ev_lst, ev_ix, ev_call, ev_blt, ev_isi, ev_meth, ev_slc, evL, evI, ixO, itemsO, lisO, ixN, binO, binIO, cmpO, cmpIO, isBl, isInt, bltO, methO, eqO, isNon, isNonE, slcO, isiO, tyN, isSub, knownTy, tO, tsO, wipeP] using hz
                refine seqE (retG (g4_ok d) (v := .bl (payB w sh (.tup [.str wd, a, b, c]))) ?_ hq)
                simp [ev_var, ev_int, ev_bl, ev_non, ev_str, ev_gint, ev_gstr, ev_bin, ev_neg, ev_cmp, ev_chain, ev_and, ev_or, ev_not, ev_ite, ev_tup, ev_lst, ev_ix, ev_call, ev_blt, ev_isi, ev_meth, ev_slc, evL, evI, ixO, itemsO, lisO, ixN, binO, binIO, cmpO, cmpIO, isBl, isInt, bltO, methO, eqO, isNon, isNonE, slcO, isiO, tyN, isSub, knownTy, tO, tsO, wipeP, payB, h1]
              | c :: e :: r, hz =>
                refine seqE (retG (g4_ok d) (v := .bl (payB w sh (.tup (.str wd :: a :: b :: c :: e :: r)))) ?_ hq)
                have hn3 : ¬ ((r.length : Int) + 1 + 1 + 1 + 1 + 1 = 3) := by omega
                rw [pay_no (by simp [ev_var, ev_int, ev_bl, ev_non, ev_str, ev_gint, ev_gstr, ev_bin, ev_neg, ev_cmp, ev_chain, ev_and, ev_or, ev_not, ev_ite, ev_tup, ev_lst, ev_ix, ev_call, ev_blt, ev_isi, ev_meth, ev_slc, evL, evI, ixO, itemsO, lisO, ixN, binO, binIO, cmpO, cmpIO, isBl, isInt, bltO, methO, eqO, isNon, isNonE, slcO, isiO, tyN, isSub, knownTy, tO, tsO, wipeP]) (by simp [ev_var, ev_int, ev_bl, ev_non, ev_str, ev_gint, ev_gstr, ev_bin, ev_neg, ev_cmp, ev_chain, ev_and, ev_or, ev_not, ev_ite, ev_tup, ev_lst, ev_ix, ev_call, ev_blt, ev_isi, ev_meth, ev_slc, evL, evI, ixO, itemsO, lisO, ixN, binO, binIO, cmpO, cmpIO, isBl, isInt, bltO, methO, eqO, isNon, isNonE, slcO, isiO, tyN, isSub, knownTy, tO, tsO, wipeP])]
                simp [ev_var, ev_int, ev_bl, ev_non, ev_str, ev_gint, ev_gstr, ev_bin, ev_neg, ev_cmp, ev_chain, ev_and, ev_or, ev_not, ev_ite, ev_tup, ev_lst, ev_ix, ev_call, ev_blt, ev_isi, ev_meth, ev_slc, evL, evI, ixO, itemsO, lisO, ixN, binO, binIO, cmpO, cmpIO, isBl, isInt, bltO, methO, eqO, isNon, isNonE, slcO, isiO, tyN, isSub, knownTy, tO, tsO, wipeP, hn3]
            · refine seqE (iteG (g4_ok d) false (by simp [ev_var, ev_int, ev_bl, ev_non, ev_str, ev_gint, ev_gstr, ev_bin, ev_neg, ev_cmp, ev_chain, ev_and, ev_or, ev_not, ev_ite, ev_tup, ev_lst, ev_ix, ev_call, ev_blt, ev_isi, ev_meth, ev_slc, evL, evI, ixO, itemsO, lisO, ixN, binO, binIO, cmpO, cmpIO, isBl, isInt, bltO, methO, eqO, isNon, isNonE, slcO, isiO, tyN, isSub, knownTy, tO, tsO, wipeP, hok, sk1, h1]) (fun z => by cases z) (fun _ => nopE (F := wF tbl (d + 4)) ?_))
              by_cases h2 : wd = "row"
              · refine seqE (iteG (g4_ok d) true (by simp [ev_var, ev_int, ev_bl, ev_non, ev_str, ev_gint, ev_gstr, ev_bin, ev_neg, ev_cmp, ev_chain, ev_and, ev_or, ev_not, ev_ite, ev_tup, ev_lst, ev_ix, ev_call, ev_blt, ev_isi, ev_meth, ev_slc, evL, evI, ixO, itemsO, lisO, ixN, binO, binIO, cmpO, cmpIO, isBl, isInt, bltO, methO, eqO, isNon, isNonE, slcO, isiO, tyN, isSub, knownTy, tO, tsO, wipeP, hok, sk2, h2]) (fun _ => ?_) (fun z => by cases z))
                match r, hz with
                | [], hz =>
                  obtain rfl : b = z := by simpa [ev_var, ev_int, ev_bl, ev_non, ev_str, ev_gint, ev_gstr, ev_bin, ev_neg, ev_cmp, ev_chain, ev_and, ev_or, ev_not, ev_ite, ev_tup, ev_lst, ev_ix, ev_call, ev_blt, ev_isi, ev_meth, ev_slc, evL, evI, ixO, itemsO, lisO, ixN, binO, binIO, cmpO, cmpIO, isBl, isInt, bltO, methO, eqO, isNon, isNonE, slcO, isiO, tyN, isSub, knownTy, tO, tsO, wipeP] using hz
                  refine seqE (retG (g4_ok d) (v := .bl (payB w sh (.tup [.str wd, a, b]))) ?_ hq)
                  simp [ev_var, ev_int, ev_bl, ev_non, ev_str, ev_gint, ev_gstr, ev_bin, ev_neg, ev_cmp, ev_chain, ev_and, ev_or, ev_not, ev_ite, ev_tup, ev_lst, ev_ix, ev_call, ev_blt, ev_isi, ev_meth, ev_slc, evL, evI, ixO, itemsO, lisO, ixN, binO, binIO, cmpO, cmpIO, isBl, isInt, bltO, methO, eqO, isNon, isNonE, slcO, isiO, tyN, isSub, knownTy, tO, tsO, wipeP, G4, tha, payB, hw, h1, h2, kw1]
                | [c], hz =>
                  refine seqE (retG (g4_ok d) (v := .bl (payB w sh (.tup [.str wd, a, b, c]))) ?_ hq)
                  simp [ev_var, ev_int, ev_bl, ev_non, ev_str, ev_gint, ev_gstr, ev_bin, ev_neg, ev_cmp, ev_chain, ev_and, ev_or, ev_not, ev_ite, ev_tup, ev_lst, ev_ix, ev_call, ev_blt, ev_isi, ev_meth, ev_slc, evL, evI, ixO, itemsO, lisO, ixN, binO, binIO, cmpO, cmpIO, isBl, isInt, bltO, methO, eqO, isNon, isNonE, slcO, isiO, tyN, isSub, knownTy, tO, tsO, wipeP, payB, h1, h2, kw1]
                | c :: e :: r, hz =>
                  refine seqE (retG (g4_ok d) (v := .bl (payB w sh (.tup (.str wd :: a :: b :: c :: e :: r)))) ?_ hq)
                  have hn3 : ¬ ((r.length : Int) + 1 + 1 + 1 + 1 + 1 = 3) := by omega
                  rw [pay_no (by simp [ev_var, ev_int, ev_bl, ev_non, ev_str, ev_gint, ev_gstr, ev_bin, ev_neg, ev_cmp, ev_chain, ev_and, ev_or, ev_not, ev_ite, ev_tup, ev_lst, ev_ix, ev_call, ev_blt, ev_isi, ev_meth, ev_slc, evL, evI, ixO, itemsO, lisO, ixN, binO, binIO, cmpO, cmpIO, isBl, isInt, bltO, methO, eqO, isNon, isNonE, slcO, isiO, tyN, isSub, knownTy, tO, tsO, wipeP]) (by simp [ev_var, ev_int, ev_bl, ev_non, ev_str, ev_gint, ev_gstr, ev_bin, ev_neg, ev_cmp, ev_chain, ev_and, ev_or, ev_not, ev_ite, ev_tup, ev_lst, ev_ix, ev_call, ev_blt, ev_isi, ev_meth, ev_slc, evL, evI, ixO, itemsO, lisO, ixN, binO, binIO, cmpO, cmpIO, isBl, isInt, bltO, methO, eqO, isNon, isNonE, slcO, isiO, tyN, isSub, knownTy, tO, tsO, wipeP])]
                  simp [ev_var, ev_int, ev_bl, ev_non, ev_str, ev_gint, ev_gstr, ev_bin, ev_neg, ev_cmp, ev_chain, ev_and, ev_or, ev_not, ev_ite, ev_tup, ev_lst, ev_ix, ev_call, ev_blt, ev_isi, ev_meth, ev_slc, evL, evI, ixO, itemsO, lisO, ixN, binO, binIO, cmpO, cmpIO, isBl, isInt, bltO, methO, eqO, isNon, isNonE, slcO, isiO, tyN, isSub, knownTy, tO, tsO, wipeP, hn3]
              · refine seqE (iteG (g4_ok d) false (by simp [ev_var, ev_int, ev_bl, ev_non, ev_str, ev_gint, ev_gstr, ev_bin, ev_neg, ev_cmp, ev_chain, ev_and, ev_or, ev_not, ev_ite, ev_tup, ev_lst, ev_ix, ev_call, ev_blt, ev_isi, ev_meth, ev_slc, evL, evI, ixO, itemsO, lisO, ixN, binO, binIO, cmpO, cmpIO, isBl, isInt, bltO, methO, eqO, isNon, isNonE, slcO, isiO, tyN, isSub, knownTy, tO, tsO, wipeP, hok, sk2, h2]) (fun z => by cases z) (fun _ => nopE (F := wF tbl (d + 4)) ?_))
                match r, hz with
                | [], hz =>
                  refine seqE (iteG (g4_ok d) true (by simp [ev_var, ev_int, ev_bl, ev_non, ev_str, ev_gint, ev_gstr, ev_bin, ev_neg, ev_cmp, ev_chain, ev_and, ev_or, ev_not, ev_ite, ev_tup, ev_lst, ev_ix, ev_call, ev_blt, ev_isi, ev_meth, ev_slc, evL, evI, ixO, itemsO, lisO, ixN, binO, binIO, cmpO, cmpIO, isBl, isInt, bltO, methO, eqO, isNon, isNonE, slcO, isiO, tyN, isSub, knownTy, tO, tsO, wipeP]) (fun _ => seqE (retG noG_ok (v := .bl false) (by simp [ev_var, ev_int, ev_bl, ev_non, ev_str, ev_gint, ev_gstr, ev_bin, ev_neg, ev_cmp, ev_chain, ev_and, ev_or, ev_not, ev_ite, ev_tup, ev_lst, ev_ix, ev_call, ev_blt, ev_isi, ev_meth, ev_slc, evL, evI, ixO, itemsO, lisO, ixN, binO, binIO, cmpO, cmpIO, isBl, isInt, bltO, methO, eqO, isNon, isNonE, slcO, isiO, tyN, isSub, knownTy, tO, tsO, wipeP]) ?_)) (fun z => by cases z))
                  have : payB w sh (.tup [.str wd, a, b]) = false := by simp [ev_var, ev_int, ev_bl, ev_non, ev_str, ev_gint, ev_gstr, ev_bin, ev_neg, ev_cmp, ev_chain, ev_and, ev_or, ev_not, ev_ite, ev_tup, ev_lst, ev_ix, ev_call, ev_blt, ev_isi, ev_meth, ev_slc, evL, evI, ixO, itemsO, lisO, ixN, binO, binIO, cmpO, cmpIO, isBl, isInt, bltO, methO, eqO, isNon, isNonE, slcO, isiO, tyN, isSub, knownTy, tO, tsO, wipeP, payB, h1, h2, kw1]
                  rw [← this]; exact hq
                | c :: e :: r, hz =>
                  have hn4 : ¬ ((r.length : Int) + 1 + 1 + 1 + 1 + 1 = 4) := by omega
                  refine seqE (iteG (g4_ok d) true (by simp [ev_var, ev_int, ev_bl, ev_non, ev_str, ev_gint, ev_gstr, ev_bin, ev_neg, ev_cmp, ev_chain, ev_and, ev_or, ev_not, ev_ite, ev_tup, ev_lst, ev_ix, ev_call, ev_blt, ev_isi, ev_meth, ev_slc, evL, evI, ixO, itemsO, lisO, ixN, binO, binIO, cmpO, cmpIO, isBl, isInt, bltO, methO, eqO, isNon, isNonE, slcO, isiO, tyN, isSub, knownTy, tO, tsO, wipeP, hn4]) (fun _ => seqE (retG noG_ok (v := .bl false) (by simp [ev_var, ev_int, ev_bl, ev_non, ev_str, ev_gint, ev_gstr, ev_bin, ev_neg, ev_cmp, ev_chain, ev_and, ev_or, ev_not, ev_ite, ev_tup, ev_lst, ev_ix, ev_call, ev_blt, ev_isi, ev_meth, ev_slc, evL, evI, ixO, itemsO, lisO, ixN, binO, binIO, cmpO, cmpIO, isBl, isInt, bltO, methO, eqO, isNon, isNonE, slcO, isiO, tyN, isSub, knownTy, tO, tsO, wipeP]) ?_)) (fun z => by cases z))
                  rw [← pay_no (w := w) (sh := sh) (xs := .str wd :: a :: b :: c :: e :: r) (by simp [ev_var, ev_int, ev_bl, ev_non, ev_str, ev_gint, ev_gstr, ev_bin, ev_neg, ev_cmp, ev_chain, ev_and, ev_or, ev_not, ev_ite, ev_tup, ev_lst, ev_ix, ev_call, ev_blt, ev_isi, ev_meth, ev_slc, evL, evI, ixO, itemsO, lisO, ixN, binO, binIO, cmpO, cmpIO, isBl, isInt, bltO, methO, eqO, isNon, isNonE, slcO, isiO, tyN, isSub, knownTy, tO, tsO, wipeP]) (by simp [ev_var, ev_int, ev_bl, ev_non, ev_str, ev_gint, ev_gstr, ev_bin, ev_neg, ev_cmp, ev_chain, ev_and, ev_or, ev_not, ev_ite, ev_tup, ev_lst, ev_ix, ev_call, ev_blt, ev_isi, ev_meth, ev_slc, evL, evI, ixO, itemsO, lisO, ixN, binO, binIO, cmpO, cmpIO, isBl, isInt, bltO, methO, eqO, isNon, isNonE, slcO, isiO, tyN, isSub, knownTy, tO, tsO, wipeP])]; exact hq
                | [c], hz =>
                  obtain rfl : c = z := by simpa [ev_var, ev_int, ev_bl, ev_non, ev_str, ev_gint, ev_gstr, ev_bin, ev_neg, ev_cmp, ev_chain, ev_and, ev_or, ev_not, ev_ite, ev_tup, ev_lst, ev_ix, ev_call, ev_blt, ev_isi, ev_meth, ev_slc, evL, evI, ixO, itemsO, lisO, ixN, binO, binIO, cmpO, cmpIO, isBl, isInt, bltO, methO, eqO, isNon, isNonE, slcO, isiO, tyN, isSub, knownTy, tO, tsO, wipeP] using hz
                  refine seqE (iteG (g4_ok d) false (by simp [ev_var, ev_int, ev_bl, ev_non, ev_str, ev_gint, ev_gstr, ev_bin, ev_neg, ev_cmp, ev_chain, ev_and, ev_or, ev_not, ev_ite, ev_tup, ev_lst, ev_ix, ev_call, ev_blt, ev_isi, ev_meth, ev_slc, evL, evI, ixO, itemsO, lisO, ixN, binO, binIO, cmpO, cmpIO, isBl, isInt, bltO, methO, eqO, isNon, isNonE, slcO, isiO, tyN, isSub, knownTy, tO, tsO, wipeP]) (fun z => by cases z) (fun _ => nopE (F := wF tbl (d + 4)) ?_))
                  by_cases h3 : wd = "over"
                  · refine seqE (iteG (g4_ok d) true (by simp [ev_var, ev_int, ev_bl, ev_non, ev_str, ev_gint, ev_gstr, ev_bin, ev_neg, ev_cmp, ev_chain, ev_and, ev_or, ev_not, ev_ite, ev_tup, ev_lst, ev_ix, ev_call, ev_blt, ev_isi, ev_meth, ev_slc, evL, evI, ixO, itemsO, lisO, ixN, binO, binIO, cmpO, cmpIO, isBl, isInt, bltO, methO, eqO, isNon, isNonE, slcO, isiO, tyN, isSub, knownTy, tO, tsO, wipeP, hok, sk3, h3]) (fun _ => ?_) (fun z => by cases z))
                    refine seqE (retG (g4_ok d) (v := .bl (payB w sh (.tup [.str wd, a, b, c]))) ?_ hq)
                    by_cases hlo : lotB 0 sh a = true <;> simp [ev_var, ev_int, ev_bl, ev_non, ev_str, ev_gint, ev_gstr, ev_bin, ev_neg, ev_cmp, ev_chain, ev_and, ev_or, ev_not, ev_ite, ev_tup, ev_lst, ev_ix, ev_call, ev_blt, ev_isi, ev_meth, ev_slc, evL, evI, ixO, itemsO, lisO, ixN, binO, binIO, cmpO, cmpIO, isBl, isInt, bltO, methO, eqO, isNon, isNonE, slcO, isiO, tyN, isSub, knownTy, tO, tsO, wipeP, G4, G3, G2, tha, thb, payB, hw, h1, h2, h3, hlo, kw2, kw3]
                  · refine seqE (iteG (g4_ok d) false (by simp [ev_var, ev_int, ev_bl, ev_non, ev_str, ev_gint, ev_gstr, ev_bin, ev_neg, ev_cmp, ev_chain, ev_and, ev_or, ev_not, ev_ite, ev_tup, ev_lst, ev_ix, ev_call, ev_blt, ev_isi, ev_meth, ev_slc, evL, evI, ixO, itemsO, lisO, ixN, binO, binIO, cmpO, cmpIO, isBl, isInt, bltO, methO, eqO, isNon, isNonE, slcO, isiO, tyN, isSub, knownTy, tO, tsO, wipeP, hok, sk3, h3]) (fun z => by cases z) (fun _ => nopE (F := wF tbl (d + 4)) ?_))
                    refine seqE (retG (g4_ok d) (v := .bl (payB w sh (.tup [.str wd, a, b, c]))) ?_ hq)
                    by_cases h4 : wd = "on"
                    · by_cases hlo : lotB 0 (w - 1) a = true <;> simp [ev_var, ev_int, ev_bl, ev_non, ev_str, ev_gint, ev_gstr, ev_bin, ev_neg, ev_cmp, ev_chain, ev_and, ev_or, ev_not, ev_ite, ev_tup, ev_lst, ev_ix, ev_call, ev_blt, ev_isi, ev_meth, ev_slc, evL, evI, ixO, itemsO, lisO, ixN, binO, binIO, cmpO, cmpIO, isBl, isInt, bltO, methO, eqO, isNon, isNonE, slcO, isiO, tyN, isSub, knownTy, tO, tsO, wipeP, G4, G3, G2, tha, thb, payB, hw, h1, h2, h3, hlo, sk4, h4, kw4, kw5, kw6]
                    · simp [ev_var, ev_int, ev_bl, ev_non, ev_str, ev_gint, ev_gstr, ev_bin, ev_neg, ev_cmp, ev_chain, ev_and, ev_or, ev_not, ev_ite, ev_tup, ev_lst, ev_ix, ev_call, ev_blt, ev_isi, ev_meth, ev_slc, evL, evI, ixO, itemsO, lisO, ixN, binO, binIO, cmpO, cmpIO, isBl, isInt, bltO, methO, eqO, isNon, isNonE, slcO, isiO, tyN, isSub, knownTy, tO, tsO, wipeP, payB, h1, h2, h3, h4, hok, sk4]
          · have hw : wiB (-1000) 1000 z = false := by simpa [ev_var, ev_int, ev_bl, ev_non, ev_str, ev_gint, ev_gstr, ev_bin, ev_neg, ev_cmp, ev_chain, ev_and, ev_or, ev_not, ev_ite, ev_tup, ev_lst, ev_ix, ev_call, ev_blt, ev_isi, ev_meth, ev_slc, evL, evI, ixO, itemsO, lisO, ixN, binO, binIO, cmpO, cmpIO, isBl, isInt, bltO, methO, eqO, isNon, isNonE, slcO, isiO, tyN, isSub, knownTy, tO, tsO, wipeP] using hw
            refine stop (by simp [ev_var, ev_int, ev_bl, ev_non, ev_str, ev_gint, ev_gstr, ev_bin, ev_neg, ev_cmp, ev_chain, ev_and, ev_or, ev_not, ev_ite, ev_tup, ev_lst, ev_ix, ev_call, ev_blt, ev_isi, ev_meth, ev_slc, evL, evI, ixO, itemsO, lisO, ixN, binO, binIO, cmpO, cmpIO, isBl, isInt, bltO, methO, eqO, isNon, isNonE, slcO, isiO, tyN, isSub, knownTy, tO, tsO, wipeP, ↓hlast, hlen, G4, G3, thz, hw]) ?_
            match r, hz with
            | [], hz =>
              obtain rfl : b = z := by simpa [ev_var, ev_int, ev_bl, ev_non, ev_str, ev_gint, ev_gstr, ev_bin, ev_neg, ev_cmp, ev_chain, ev_and, ev_or, ev_not, ev_ite, ev_tup, ev_lst, ev_ix, ev_call, ev_blt, ev_isi, ev_meth, ev_slc, evL, evI, ixO, itemsO, lisO, ixN, binO, binIO, cmpO, cmpIO, isBl, isInt, bltO, methO, eqO, isNon, isNonE, slcO, isiO, tyN, isSub, knownTy, tO, tsO, wipeP] using hz
              simp [ev_var, ev_int, ev_bl, ev_non, ev_str, ev_gint, ev_gstr, ev_bin, ev_neg, ev_cmp, ev_chain, ev_and, ev_or, ev_not, ev_ite, ev_tup, ev_lst, ev_ix, ev_call, ev_blt, ev_isi, ev_meth, ev_slc, evL, evI, ixO, itemsO, lisO, ixN, binO, binIO, cmpO, cmpIO, isBl, isInt, bltO, methO, eqO, isNon, isNonE, slcO, isiO, tyN, isSub, knownTy, tO, tsO, wipeP, payB, hw]
            | [c], hz =>
              obtain rfl : c = z := by simpa [ev_var, ev_int, ev_bl, ev_non, ev_str, ev_gint, ev_gstr, ev_bin, ev_neg, ev_cmp, ev_chain, ev_and, ev_or, ev_not, ev_ite, ev_tup, ev_lst, ev_ix, ev_call, ev_blt, ev_isi, ev_meth, ev_slc, evL, evI, ixO, itemsO, lisO, ixN, binO, binIO, cmpO, cmpIO, isBl, isInt, bltO, methO, eqO, isNon, isNonE, slcO, isiO, tyN, isSub, knownTy, tO, tsO, wipeP] using hz
              simp [ev_var, ev_int, ev_bl, ev_non, ev_str, ev_gint, ev_gstr, ev_bin, ev_neg, ev_cmp, ev_chain, ev_and, ev_or, ev_not, ev_ite, ev_tup, ev_lst, ev_ix, ev_call, ev_blt, ev_isi, ev_meth, ev_slc, evL, evI, ixO, itemsO, lisO, ixN, binO, binIO, cmpO, cmpIO, isBl, isInt, bltO, methO, eqO, isNon, isNonE, slcO, isiO, tyN, isSub, knownTy, tO, tsO, wipeP, payB, hw]
            | c :: e :: r, hz => exact pay_no (by simp [ev_var, ev_int, ev_bl, ev_non, ev_str, ev_gint, ev_gstr, ev_bin, ev_neg, ev_cmp, ev_chain, ev_and, ev_or, ev_not, ev_ite, ev_tup, ev_lst, ev_ix, ev_call, ev_blt, ev_isi, ev_meth, ev_slc, evL, evI, ixO, itemsO, lisO, ixN, binO, binIO, cmpO, cmpIO, isBl, isInt, bltO, methO, eqO, isNon, isNonE, slcO, isiO, tyN, isSub, knownTy, tO, tsO, wipeP]) (by simp [ev_var, ev_int, ev_bl, ev_non, ev_str, ev_gint, ev_gstr, ev_bin, ev_neg, ev_cmp, ev_chain, ev_and, ev_or, ev_not, ev_ite, ev_tup, ev_lst, ev_ix, ev_call, ev_blt, ev_isi, ev_meth, ev_slc, evL, evI, ixO, itemsO, lisO, ixN, binO, binIO, cmpO, cmpIO, isBl, isInt, bltO, methO, eqO, isNon, isNonE, slcO, isiO, tyN, isSub, knownTy, tO, tsO, wipeP])
        · refine stop (by
            cases y <;> first | exact absurd ⟨_, rfl⟩ hs | (cases thy; done) | simp [ev_var, ev_int, ev_bl, ev_non, ev_str, ev_gint, ev_gstr, ev_bin, ev_neg, ev_cmp, ev_chain, ev_and, ev_or, ev_not, ev_ite, ev_tup, ev_lst, ev_ix, ev_call, ev_blt, ev_isi, ev_meth, ev_slc, evL, evI, ixO, itemsO, lisO, ixN, binO, binIO, cmpO, cmpIO, isBl, isInt, bltO, methO, eqO, isNon, isNonE, slcO, isiO, tyN, isSub, knownTy, tO, tsO, wipeP, hlen]) ?_
          unfold payB
          split <;> first | rfl | simp_all [ev_var, ev_int, ev_bl, ev_non, ev_str, ev_gint, ev_gstr, ev_bin, ev_neg, ev_cmp, ev_chain, ev_and, ev_or, ev_not, ev_ite, ev_tup, ev_lst, ev_ix, ev_call, ev_blt, ev_isi, ev_meth, ev_slc, evL, evI, ixO, itemsO, lisO, ixN, binO, binIO, cmpO, cmpIO, isBl, isInt, bltO, methO, eqO, isNon, isNonE, slcO, isiO, tyN, isSub, knownTy, tO, tsO, wipeP]
    all_goals exact stop (by simp [ev_var, ev_int, ev_bl, ev_non, ev_str, ev_gint, ev_gstr, ev_bin, ev_neg, ev_cmp, ev_chain, ev_and, ev_or, ev_not, ev_ite, ev_tup, ev_lst, ev_ix, ev_call, ev_blt, ev_isi, ev_meth, ev_slc, evL, evI, ixO, itemsO, lisO, ixN, binO, binIO, cmpO, cmpIO, isBl, isInt, bltO, methO, eqO, isNon, isNonE, slcO, isiO, tyN, isSub, knownTy, tO, tsO, wipeP]) (by simp [ev_var, ev_int, ev_bl, ev_non, ev_str, ev_gint, ev_gstr, ev_bin, ev_neg, ev_cmp, ev_chain, ev_and, ev_or, ev_not, ev_ite, ev_tup, ev_lst, ev_ix, ev_call, ev_blt, ev_isi, ev_meth, ev_slc, evL, evI, ixO, itemsO, lisO, ixN, binO, binIO, cmpO, cmpIO, isBl, isInt, bltO, methO, eqO, isNon, isNonE, slcO, isiO, tyN, isSub, knownTy, tO, tsO, wipeP, payB])
  · exact g4_ok (d + 1) _ _ _ h st Q X hq
  · exact g4_ok (d + 1) _ _ _ h st Q X hq
  · cases h
def G6 : Orc := fun f xs => match f, xs with
  | 16, [.int w, .int sh, x] => if thB x then some (.bl (tarB w sh x)) else none
  | 11, xs => G4 11 xs
  | _, _ => none
theorem g6_ok (d : Nat) : GOkF G6 (wF tbl (d + 6)) := fun f xs v h st Q X hq => by
  unfold G6 at h
  split at h
  · rename_i w sh x
    obtain ⟨hx, h⟩ := Den.is h
    cases h
    by_cases hs : szB 1 12 x = true
    · cases x <;> first | (cases hs; done) | skip
      rename_i xs
      obtain ⟨hl, hm⟩ := th_len hx
      have h1 := g_all (d := d) (G := G5) (st := st) (env := [some (.int w), some (.int sh), some (.tup xs), none]) (own := [("rule", 3)]) (tg := 3) (it := .seq (.var 2)) (e := .call 18 (.cons (.var 0) (.cons (.var 1) (.cons (.var 3) .nil)))) (k := payB w sh) (xs := xs) (by simp [ev_var, ev_int, ev_bl, ev_non, ev_str, ev_gint, ev_gstr, ev_bin, ev_neg, ev_cmp, ev_chain, ev_and, ev_or, ev_not, ev_ite, ev_tup, ev_lst, ev_ix, ev_call, ev_blt, ev_isi, ev_meth, ev_slc, evL, evI, ixO, itemsO, lisO, ixN, binO, binIO, cmpO, cmpIO, isBl, isInt, bltO, methO, eqO, isNon, isNonE, slcO, isiO, tyN, isSub, knownTy, tO, tsO, wipeP]) hl fun x hx => ⟨_, by simp [ev_var, ev_int, ev_bl, ev_non, ev_str, ev_gint, ev_gstr, ev_bin, ev_neg, ev_cmp, ev_chain, ev_and, ev_or, ev_not, ev_ite, ev_tup, ev_lst, ev_ix, ev_call, ev_blt, ev_isi, ev_meth, ev_slc, evL, evI, ixO, itemsO, lisO, ixN, binO, binIO, cmpO, cmpIO, isBl, isInt, bltO, methO, eqO, isNon, isNonE, slcO, isiO, tyN, isSub, knownTy, tO, tsO, wipeP]; rfl, by simp [ev_var, ev_int, ev_bl, ev_non, ev_str, ev_gint, ev_gstr, ev_bin, ev_neg, ev_cmp, ev_chain, ev_and, ev_or, ev_not, ev_ite, ev_tup, ev_lst, ev_ix, ev_call, ev_blt, ev_isi, ev_meth, ev_slc, evL, evI, ixO, itemsO, lisO, ixN, binO, binIO, cmpO, cmpIO, isBl, isInt, bltO, methO, eqO, isNon, isNonE, slcO, isiO, tyN, isSub, knownTy, tO, tsO, wipeP, G5, hm x hx]⟩
      refine wF_runE 3 4 b16 [some (.int w), some (.int sh), some (.tup xs), none] rfl rfl (by decide) rfl (seqE (retG (g5_ok d) (v := .bl (tarB w sh (.tup xs))) ?_ hq))
      simp [ev_var, ev_int, ev_bl, ev_non, ev_str, ev_gint, ev_gstr, ev_bin, ev_neg, ev_cmp, ev_chain, ev_and, ev_or, ev_not, ev_ite, ev_tup, ev_lst, ev_ix, ev_call, ev_blt, ev_isi, ev_meth, ev_slc, evL, evI, ixO, itemsO, lisO, ixN, binO, binIO, cmpO, cmpIO, isBl, isInt, bltO, methO, eqO, isNon, isNonE, slcO, isiO, tyN, isSub, knownTy, tO, tsO, wipeP, ↓h1, G5, G4, G3, G2, hx, hs, tarB]
    · have hs : szB 1 12 x = false := by simpa [ev_var, ev_int, ev_bl, ev_non, ev_str, ev_gint, ev_gstr, ev_bin, ev_neg, ev_cmp, ev_chain, ev_and, ev_or, ev_not, ev_ite, ev_tup, ev_lst, ev_ix, ev_call, ev_blt, ev_isi, ev_meth, ev_slc, evL, evI, ixO, itemsO, lisO, ixN, binO, binIO, cmpO, cmpIO, isBl, isInt, bltO, methO, eqO, isNon, isNonE, slcO, isiO, tyN, isSub, knownTy, tO, tsO, wipeP] using hs
      refine wF_runE 3 4 b16 [some (.int w), some (.int sh), some x, none] rfl rfl (by decide) rfl (seqE (retG (g5_ok d) (v := .bl (tarB w sh x)) ?_ hq))
      have e : tarB w sh x = false := by
        cases x <;> first | rfl | skip
        simp only [tarB, hs, Bool.false_and]
      simp [ev_var, ev_int, ev_bl, ev_non, ev_str, ev_gint, ev_gstr, ev_bin, ev_neg, ev_cmp, ev_chain, ev_and, ev_or, ev_not, ev_ite, ev_tup, ev_lst, ev_ix, ev_call, ev_blt, ev_isi, ev_meth, ev_slc, evL, evI, ixO, itemsO, lisO, ixN, binO, binIO, cmpO, cmpIO, isBl, isInt, bltO, methO, eqO, isNon, isNonE, slcO, isiO, tyN, isSub, knownTy, tO, tsO, wipeP, G5, G4, G3, G2, hx, hs, e]
  · exact g4_ok (d + 2) _ _ _ h st Q X hq
  · cases h
abbrev szs (w s : Int) : Bool := wiB 1 28 (.int w) && wiB 1 6 (.int s)
/-- check_tariff -/
theorem pc23 {w sh : Int} {x : PV} (hs : szs w sh = true) (hx : thB x = true) (ht : tarB w sh x = true) (d : Nat) : PC tbl (d + 7) 23 [.int w, .int sh, x] .non := fun st Q X hq => by
  refine wF_runE 3 3 b23 [some (.int w), some (.int sh), some x] rfl rfl (by decide) rfl (seqE (exprG (g6_ok d) (v := .non) (by rw [szs, Bool.and_eq_true] at hs; simp [ev_var, ev_int, ev_bl, ev_non, ev_str, ev_gint, ev_gstr, ev_bin, ev_neg, ev_cmp, ev_chain, ev_and, ev_or, ev_not, ev_ite, ev_tup, ev_lst, ev_ix, ev_call, ev_blt, ev_isi, ev_meth, ev_slc, evL, evI, ixO, itemsO, lisO, ixN, binO, binIO, cmpO, cmpIO, isBl, isInt, bltO, methO, eqO, isNon, isNonE, slcO, isiO, tyN, isSub, knownTy, tO, tsO, wipeP, G6, G4, hs]) ?_))
  exact seqE (iteG (g6_ok d) false (by simp [ev_var, ev_int, ev_bl, ev_non, ev_str, ev_gint, ev_gstr, ev_bin, ev_neg, ev_cmp, ev_chain, ev_and, ev_or, ev_not, ev_ite, ev_tup, ev_lst, ev_ix, ev_call, ev_blt, ev_isi, ev_meth, ev_slc, evL, evI, ixO, itemsO, lisO, ixN, binO, binIO, cmpO, cmpIO, isBl, isInt, bltO, methO, eqO, isNon, isNonE, slcO, isiO, tyN, isSub, knownTy, tO, tsO, wipeP, G6, hx, ht]) (fun z => by cases z) (fun _ => nopE (F := wF tbl (d + 6)) (nopE (F := wF tbl (d + 6)) hq)))
end K69

/-! K69m: pay rules; what a day brings by the law's own look, and by what is kept in mind. -/
namespace K69
open Den
inductive PR where
  | each (ls : List Int) (a : Int)
  | row (rs : List (List Int)) (a : Int)
  | over (ls : List Int) (m a : Int)
  | on (ds ls : List Int) (a : Int)
def PR.v : PR → PV
  | .each ls a => .tup [.str "each", vi ls, .int a]
  | .row rs a => .tup [.str "row", vb rs, .int a]
  | .over ls m a => .tup [.str "over", vi ls, .int m, .int a]
  | .on ds ls a => .tup [.str "on", vi ds, vi ls, .int a]
/-- the first day of the present week, and the place in it of the day behind n days -/
def wk (w : Nat) (line : List Int) : List Int := line.drop (line.length - line.length % w)
/-- what the last day of a line brings; last: that day's letter, ahead: the days before -/
def brings (w : Nat) (ahead : List Int) (last : Int) : PR → Int
  | .each ls a => if last ∈ ls then a else 0
  | .row rs a => if rs.length ≤ ahead.length + 1 ∧ (((ahead ++ [last]).drop (ahead.length + 1 - rs.length)).zip rs).all (fun p => decide (p.1 ∈ p.2)) = true then a else 0
  | .over ls m a => if last ∈ ls ∧ m < ((((ahead ++ [last]).drop (ahead.length - ahead.length % w)).filter fun l => decide (l ∈ ls)).length : Int) then a else 0
  | .on ds ls a => if ((ahead.length % w : Nat) : Int) ∈ ds ∧ last ∈ ls then a else 0
/-- what a pay rule keeps in mind -/
inductive Kp where
  | no
  | row (ls : List Int)
  | cnt (n : Int)
def Kp.v : Kp → PV
  | .no => .tup []
  | .row ls => vi ls
  | .cnt n => .int n
def keeps (w : Nat) (line : List Int) : PR → Kp
  | .each _ _ => .no
  | .on _ _ _ => .no
  | .row rs _ => .row (line.drop (line.length + 1 - rs.length))
  | .over ls m _ => .cnt (min m (((wk w line).filter fun l => decide (l ∈ ls)).length : Int))
/-- a day more -/
def ledR (w : Nat) (day : Nat) (last : Int) : PR → Kp → Kp × Int
  | .each ls a, _ => (.no, if last ∈ ls then a else 0)
  | .on ds ls a, _ => (.no, if ((day : Nat) : Int) ∈ ds ∧ last ∈ ls then a else 0)
  | .row rs a, .row ls => (.row ((ls ++ [last]).drop ((ls ++ [last]).length - (rs.length - 1))), if (ls ++ [last]).length = rs.length ∧ ((ls ++ [last]).zip rs).all (fun p => decide (p.1 ∈ p.2)) = true then a else 0)
  | .over ls m a, .cnt n => (.cnt (if day + 1 = w then 0 else if last ∈ ls then min m (n + 1) else n), if last ∈ ls ∧ n = m then a else 0)
  | _, k => (k, 0)
def PR.ok : PR → Prop
  | .row rs _ => 2 ≤ rs.length
  | .over _ m _ => 0 ≤ m
  | _ => True
theorem led_is {w : Nat} (hw : 0 < w) (line : List Int) (last : Int) (r : PR) (hr : r.ok) : ledR w (line.length % w) last r (keeps w line r) = (keeps w (line ++ [last]) r, brings w line last r) := by
  cases r with
  | each ls a => rfl
  | on ds ls a => rfl
  | row rs a =>
    have h2 : 2 ≤ rs.length := hr
    have hL : (line ++ [last]).length = line.length + 1 := by simp
    have e1 : line.drop (line.length + 1 - rs.length) ++ [last] = (line ++ [last]).drop (line.length + 1 - rs.length) := by
      rw [List.drop_append_of_le_length (by omega)]
    simp only [ledR, keeps, brings]
    rw [e1]
    have hlen : ((line ++ [last]).drop (line.length + 1 - rs.length)).length = min rs.length (line.length + 1) := by
      rw [List.length_drop, hL]; omega
    have e2 : ((line ++ [last]).drop (line.length + 1 - rs.length)).drop (((line ++ [last]).drop (line.length + 1 - rs.length)).length - (rs.length - 1)) = (line ++ [last]).drop ((line ++ [last]).length + 1 - rs.length) := by
      rw [hlen, List.drop_drop, hL]
      congr 1
      omega
    rw [e2, hlen]
    have e3 : (min rs.length (line.length + 1) = rs.length) = (rs.length ≤ line.length + 1) := by
      apply propext
      constructor <;> intro h <;> omega
    simp only [e3]
  | over ls m a =>
    have hm : 0 ≤ m := hr
    have hL : (line ++ [last]).length = line.length + 1 := by simp
    have hmod : line.length % w < w := Nat.mod_lt _ hw
    have hle : line.length % w ≤ line.length := Nat.mod_le _ _
    have eb : (line ++ [last]).drop (line.length - line.length % w) = wk w line ++ [last] := by
      unfold wk
      rw [List.drop_append_of_le_length (by omega)]
    simp only [ledR, keeps, brings]
    rw [eb]
    generalize hc : ((wk w line).filter fun l => decide (l ∈ ls)).length = c
    have ec : ((wk w line ++ [last]).filter fun l => decide (l ∈ ls)).length = if last ∈ ls then c + 1 else c := by
      rw [List.filter_append, List.length_append, hc]
      by_cases h : last ∈ ls <;> simp [h]
    rw [ec]
    have ek : (((wk w (line ++ [last])).filter fun l => decide (l ∈ ls)).length : Int) = if line.length % w + 1 = w then 0 else if last ∈ ls then (c : Int) + 1 else c := by
      by_cases h : line.length % w + 1 = w
      · rw [if_pos h]
        have : (line.length + 1) % w = 0 := by
          rw [Nat.add_mod, ← Nat.add_mod, ← Nat.mod_add_mod, h, Nat.mod_self]
        unfold wk
        rw [hL, this, Nat.sub_zero, ← hL, List.drop_length]
        rfl
      · rw [if_neg h]
        have h1 : (line.length + 1) % w = line.length % w + 1 := by
          rw [← Nat.mod_add_mod]
          exact Nat.mod_eq_of_lt (by omega)
        have : wk w (line ++ [last]) = wk w line ++ [last] := by
          rw [← eb]
          show (line ++ [last]).drop _ = _
          rw [hL, h1]
          congr 1
          omega
        rw [this, ec]
        by_cases h : last ∈ ls <;> simp [h]
    rw [ek]
    by_cases h1 : line.length % w + 1 = w
    · rw [if_pos h1, if_pos h1]
      by_cases h2 : last ∈ ls
      · simp only [h2, if_true, true_and]
        simp only [show (min m (c : Int) = m) = (m < ((c + 1 : Nat) : Int)) from propext ⟨fun h => by omega, fun h => by omega⟩, show min m 0 = 0 by omega]
      · simp only [h2, if_false, false_and]
        rw [show min m 0 = 0 by omega]
    · rw [if_neg h1, if_neg h1]
      by_cases h2 : last ∈ ls
      · simp only [h2, if_true, true_and]
        simp only [show (min m (c : Int) = m) = (m < ((c + 1 : Nat) : Int)) from propext ⟨fun h => by omega, fun h => by omega⟩, show min m (min m (c : Int) + 1) = min m ((c : Int) + 1) by omega]
      · simp only [h2, if_false, false_and]
theorem keeps_nil (w : Nat) (r : PR) (hr : r.ok) : keeps w [] r = match r with
  | .row _ _ => .row []
  | .over _ _ _ => .cnt 0
  | _ => .no := by
  cases r with
  | each ls a => rfl
  | on ds ls a => rfl
  | row rs a => simp [keeps]
  | over ls m a =>
    have hm : 0 ≤ m := hr
    simp [keeps, wk]
    omega
/-- what each day of a line brings in all -/
def daySum (w : Nat) (t : List PR) (ahead : List Int) (last : Int) : Int := (t.map (brings w ahead last)).sum
def pays (w : Nat) (t : List PR) : List Int → List Int → List Int
  | _, [] => []
  | ahead, l :: ls => daySum w t ahead l :: pays w t (ahead ++ [l]) ls
theorem pays_len (w : Nat) (t : List PR) : ∀ (ls ahead : List Int), (pays w t ahead ls).length = ls.length
  | [], _ => rfl
  | l :: ls, ahead => by rw [pays, List.length_cons, List.length_cons, pays_len w t ls]
theorem pays_eq (w : Nat) (t : List PR) : ∀ (ls ahead : List Int), pays w t ahead ls = (List.range ls.length).map fun i => daySum w t (ahead ++ ls.take i) (ls.getD i 0)
  | [], _ => rfl
  | l :: ls, ahead => by
    rw [pays, List.length_cons, List.range_succ_eq_map, List.map_cons, pays_eq w t ls, List.map_map]
    simp [Function.comp_def, List.append_assoc]
end K69

/-! K69d: what the law draws: lots, pay rules, tariffs. -/
namespace K69
open Den
/-- all but the hand is as it was -/
def Sb (S S' : Store) : Prop := S'.length = S.length ∧ ∀ m, 0 < m → S'[m]? = S[m]?
theorem Sb.refl {S : Store} : Sb S S := ⟨rfl, fun _ _ => rfl⟩
theorem Sb.trans {S T U : Store} (a : Sb S T) (b : Sb T U) : Sb S U := ⟨b.1.trans a.1, fun m h => (b.2 m h).trans (a.2 m h)⟩
theorem Sb.set {S : Store} {T : SO} : Sb S (S.set 0 T) := ⟨by simp [ev_var, ev_int, ev_bl, ev_non, ev_str, ev_gint, ev_gstr, ev_bin, ev_neg, ev_cmp, ev_chain, ev_and, ev_or, ev_not, ev_ite, ev_tup, ev_lst, ev_ix, ev_call, ev_blt, ev_isi, ev_meth, ev_slc, evL, evI, ixO, itemsO, lisO, ixN, binO, binIO, cmpO, cmpIO, isBl, isInt, bltO, methO, eqO, isNon, isNonE, slcO, isiO, tyN, isSub, knownTy, tO, tsO, wipeP], fun m h => set_ne h⟩
theorem hand_le {S : Store} {n n' : Nat} (h : HandAt S 0 n) (hn : n ≤ n') : HandAt S 0 n' := by
  obtain ⟨cells, i, a, b, c, e, h1, h2, h3, h4, h5, h6, h7⟩ := h
  exact ⟨cells, i, a, b, c, e, h1, h2, h3, h4, h5, h6, by omega⟩
theorem q_draw (d : Nat) {S : Store} {n : Nat} {many : Int} {Q : PV → Store → Prop} {X : PX → Store → Prop} (hh : HandAt S 0 n) (hn1 : n < 1000000) (h0 : 0 < many) (h1 : many < 1000000) (hQ : ∀ (r : Int) (S' : Store), 0 ≤ r → r < many → HandAt S' 0 (n + 1) → Sb S S' → Q (.int r) S') :
    wF tbl (d + 1) 1 [.ref 0, .int many] S Q X := p_draw hn d S 0 n many hh hn1 h0 h1 fun r T a b c => hQ r _ a b c Sb.set
theorem q_some (d : Nat) {S : Store} {n : Nat} {things : List PV} {Q : PV → Store → Prop} {X : PX → Store → Prop} (hh : HandAt S 0 n) (hn1 : n < 1000000) (h0 : 0 < things.length) (h1 : things.length < 1000)
    (hQ : ∀ x ∈ things, ∀ S' : Store, HandAt S' 0 (n + 1) → Sb S S' → Q x S') : wF tbl (d + 2) 2 [.ref 0, .lst things] S Q X := p_some hn d S n things hh hn1 h0 h1 fun x hx T h => hQ x hx _ h Sb.set
/-- calls within an expression -/
theorem c_draw {d n : Nat} {many : Int} {hd m : E} {p : PSt} {Q : QV} {X : QX} (hv : ev noG hd p = some (.ref 0)) (hm : ev noG m p = some (.int many)) (hh : HandAt p.st 0 n) (hn1 : n < 1000000) (h0 : 0 < many) (h1 : many < 1000000)
    (hQ : ∀ (r : Int) (S' : Store), 0 ≤ r → r < many → HandAt S' 0 (n + 1) → Sb p.st S' → Q (.int r) { p with st := S' }) : wE (wF tbl (d + 1)) (.call 1 (.cons hd (.cons m .nil))) p Q X := by
  rw [wE]
  exact l0 (v := [.ref 0, .int many]) (by simp [ev_var, ev_int, ev_bl, ev_non, ev_str, ev_gint, ev_gstr, ev_bin, ev_neg, ev_cmp, ev_chain, ev_and, ev_or, ev_not, ev_ite, ev_tup, ev_lst, ev_ix, ev_call, ev_blt, ev_isi, ev_meth, ev_slc, evL, evI, ixO, itemsO, lisO, ixN, binO, binIO, cmpO, cmpIO, isBl, isInt, bltO, methO, eqO, isNon, isNonE, slcO, isiO, tyN, isSub, knownTy, tO, tsO, wipeP, hv, hm]) (q_draw d hh hn1 h0 h1 hQ)
theorem c_some {d n : Nat} {things : List PV} {hd m : E} {p : PSt} {Q : QV} {X : QX} (hv : ev noG hd p = some (.ref 0)) (hm : ev noG m p = some (.lst things)) (hh : HandAt p.st 0 n) (hn1 : n < 1000000) (h0 : 0 < things.length) (h1 : things.length < 1000)
    (hQ : ∀ x ∈ things, ∀ S' : Store, HandAt S' 0 (n + 1) → Sb p.st S' → Q x { p with st := S' }) : wE (wF tbl (d + 2)) (.call 2 (.cons hd (.cons m .nil))) p Q X := by
  rw [wE]
  exact l0 (v := [.ref 0, .lst things]) (by simp [ev_var, ev_int, ev_bl, ev_non, ev_str, ev_gint, ev_gstr, ev_bin, ev_neg, ev_cmp, ev_chain, ev_and, ev_or, ev_not, ev_ite, ev_tup, ev_lst, ev_ix, ev_call, ev_blt, ev_isi, ev_meth, ev_slc, evL, evI, ixO, itemsO, lisO, ixN, binO, binIO, cmpO, cmpIO, isBl, isInt, bltO, methO, eqO, isNon, isNonE, slcO, isiO, tyN, isSub, knownTy, tO, tsO, wipeP, hv, hm]) (q_some d hh hn1 h0 h1 hQ)
/-- a lot -/
structure LotOk (lo hi : Int) (ls : List Int) : Prop where
  ne : ls ≠ []
  in_ : ∀ t ∈ ls, lo ≤ t ∧ t ≤ hi
  up : ls.Pairwise (· < ·)
theorem asc_of : ∀ {ls : List Int}, ls.Pairwise (· < ·) → ascI ls = true
  | [], _ => rfl
  | [x], _ => by simp [ev_var, ev_int, ev_bl, ev_non, ev_str, ev_gint, ev_gstr, ev_bin, ev_neg, ev_cmp, ev_chain, ev_and, ev_or, ev_not, ev_ite, ev_tup, ev_lst, ev_ix, ev_call, ev_blt, ev_isi, ev_meth, ev_slc, evL, evI, ixO, itemsO, lisO, ixN, binO, binIO, cmpO, cmpIO, isBl, isInt, bltO, methO, eqO, isNon, isNonE, slcO, isiO, tyN, isSub, knownTy, tO, tsO, wipeP, ascI]
  | x :: y :: l, h => by
    have h' := List.pairwise_cons.mp h
    have := asc_of h'.2
    unfold ascI at this ⊢
    simp only [List.tail_cons, List.zip_cons_cons, List.all_cons, Bool.and_eq_true, decide_eq_true_eq] at this ⊢
    exact ⟨h'.1 y List.mem_cons_self, this⟩
theorem asc_len : ∀ {ls : List Int} {lo hi : Int}, ls.Pairwise (· < ·) → (∀ t ∈ ls, lo ≤ t ∧ t ≤ hi) → lo ≤ hi + 1 → (ls.length : Int) ≤ hi - lo + 1
  | [], lo, hi, _, _, h => by simp [ev_var, ev_int, ev_bl, ev_non, ev_str, ev_gint, ev_gstr, ev_bin, ev_neg, ev_cmp, ev_chain, ev_and, ev_or, ev_not, ev_ite, ev_tup, ev_lst, ev_ix, ev_call, ev_blt, ev_isi, ev_meth, ev_slc, evL, evI, ixO, itemsO, lisO, ixN, binO, binIO, cmpO, cmpIO, isBl, isInt, bltO, methO, eqO, isNon, isNonE, slcO, isiO, tyN, isSub, knownTy, tO, tsO, wipeP]; omega
  | x :: l, lo, hi, h, hi', hl => by
    have h' := List.pairwise_cons.mp h
    have hx := hi' x List.mem_cons_self
    have := asc_len (lo := x + 1) (hi := hi) h'.2 (fun t ht => ⟨by have := h'.1 t ht; omega, (hi' t (List.mem_cons_of_mem _ ht)).2⟩) (by omega)
    simp only [List.length_cons]
    omega
theorem th_vi {ls : List Int} (h : ls.length ≤ 1000) : thB (vi ls) = true := by
  simp only [thB, Bool.and_eq_true, decide_eq_true_eq]
  refine ⟨by simpa [ev_var, ev_int, ev_bl, ev_non, ev_str, ev_gint, ev_gstr, ev_bin, ev_neg, ev_cmp, ev_chain, ev_and, ev_or, ev_not, ev_ite, ev_tup, ev_lst, ev_ix, ev_call, ev_blt, ev_isi, ev_meth, ev_slc, evL, evI, ixO, itemsO, lisO, ixN, binO, binIO, cmpO, cmpIO, isBl, isInt, bltO, methO, eqO, isNon, isNonE, slcO, isiO, tyN, isSub, knownTy, tO, tsO, wipeP] using h, thsB_of fun x hx => ?_⟩
  obtain ⟨z, _, rfl⟩ := List.mem_map.mp hx
  rfl
theorem allI (ns : List Int) : allInt (ns.map .int) = some ns := allInt_map ns
theorem lot_yes {lo hi : Int} {ls : List Int} (h : LotOk lo hi ls) : lotB lo hi (vi ls) = true := by
  obtain ⟨t, ht⟩ := List.exists_mem_of_ne_nil ls h.ne
  have h1 := h.in_ t ht
  have hl := asc_len h.up h.in_ (by omega)
  have hp : 0 < ls.length := List.length_pos_iff.mpr h.ne
  have e1 : szB 1 (hi - lo + 1) (.tup (ls.map .int)) = true := by
    simp only [szB, List.length_map, Bool.and_eq_true, decide_eq_true_eq]
    omega
  have e2 : (ls.map PV.int).all (wiB lo hi) = true := by
    rw [List.all_map, List.all_eq_true]
    intro t ht
    have := h.in_ t ht
    simp [ev_var, ev_int, ev_bl, ev_non, ev_str, ev_gint, ev_gstr, ev_bin, ev_neg, ev_cmp, ev_chain, ev_and, ev_or, ev_not, ev_ite, ev_tup, ev_lst, ev_ix, ev_call, ev_blt, ev_isi, ev_meth, ev_slc, evL, evI, ixO, itemsO, lisO, ixN, binO, binIO, cmpO, cmpIO, isBl, isInt, bltO, methO, eqO, isNon, isNonE, slcO, isiO, tyN, isSub, knownTy, tO, tsO, wipeP, wiB, this]
  have e3 : ascB (ls.map PV.int) = true := by
    unfold ascB
    rw [allI]
    exact asc_of h.up
  simp only [lotB, e1, e2, e3, Bool.and_self]
/-- _law_lot -/
theorem q_lot (d : Nat) {S : Store} {n : Nat} {many : Nat} {Q : PV → Store → Prop} {X : PX → Store → Prop} (hh : HandAt S 0 n) (hn1 : n < 900000) (h0 : 0 < many) (h1 : many ≤ 30) (hQ : ∀ (ls : List Int) (S' : Store), LotOk 0 ((many : Int) - 1) ls → HandAt S' 0 (n + 31) → Sb S S' → Q (vi ls) S') :
    wF tbl (d + 2) 7 [.ref 0, .int many] S Q X := by
  refine wF_runE 2 4 b7 [some (.ref 0), some (.int many), none, none] rfl rfl (by decide) rfl (seqE ?_)
  rw [wS, wE]
  refine i_rng (k := (many : Int)) (by simp [ev_var, ev_int, ev_bl, ev_non, ev_str, ev_gint, ev_gstr, ev_bin, ev_neg, ev_cmp, ev_chain, ev_and, ev_or, ev_not, ev_ite, ev_tup, ev_lst, ev_ix, ev_call, ev_blt, ev_isi, ev_meth, ev_slc, evL, evI, ixO, itemsO, lisO, ixN, binO, binIO, cmpO, cmpIO, isBl, isInt, bltO, methO, eqO, isNon, isNonE, slcO, isiO, tyN, isSub, knownTy, tO, tsO, wipeP]) (by omega) (by omega) ?_
  refine lc_ind (fun xs acc p => ∃ (ks : List Nat) (ls : List Int) (n' : Nat) (S' : Store), xs = ks.map (fun k => PV.int (k : Nat)) ∧ acc = ls.map .int ∧ ks.Pairwise (· < ·) ∧ (∀ k ∈ ks, k < many) ∧ ls.Pairwise (· < ·) ∧ (∀ t ∈ ls, 0 ≤ t ∧ t ≤ (many : Int) - 1 ∧ ∀ k ∈ ks, t < (k : Int)) ∧ ls.length ≤ 1000 ∧ ls.length + ks.length ≤ 30 ∧ HandAt S' 0 n' ∧ n' + ks.length ≤ n + 30 ∧ Sb S S' ∧
    p = ⟨[some (.ref 0), some (.int many), none, none], S'⟩) ?_ ?_ _ _ _ ?_
  · rintro acc p ⟨ks, ls, n', S', e1, rfl, _, _, h5, h6, h7, h7', h8, h9, h10, rfl⟩
    obtain rfl : ks = [] := by cases ks with | nil => rfl | cons _ _ => cases e1
    refine ⟨trivial, by simp [ev_var, ev_int, ev_bl, ev_non, ev_str, ev_gint, ev_gstr, ev_bin, ev_neg, ev_cmp, ev_chain, ev_and, ev_or, ev_not, ev_ite, ev_tup, ev_lst, ev_ix, ev_call, ev_blt, ev_isi, ev_meth, ev_slc, evL, evI, ixO, itemsO, lisO, ixN, binO, binIO, cmpO, cmpIO, isBl, isInt, bltO, methO, eqO, isNon, isNonE, slcO, isiO, tyN, isSub, knownTy, tO, tsO, wipeP, szOk]; omega, ?_⟩
    show wT _ _ ⟨[some (.ref 0), some (.int many), none, none], S'⟩ _
    rw [wT]
    refine ⟨by simp [ev_var, ev_int, ev_bl, ev_non, ev_str, ev_gint, ev_gstr, ev_bin, ev_neg, ev_cmp, ev_chain, ev_and, ev_or, ev_not, ev_ite, ev_tup, ev_lst, ev_ix, ev_call, ev_blt, ev_isi, ev_meth, ev_slc, evL, evI, ixO, itemsO, lisO, ixN, binO, binIO, cmpO, cmpIO, isBl, isInt, bltO, methO, eqO, isNon, isNonE, slcO, isiO, tyN, isSub, knownTy, tO, tsO, wipeP], ?_⟩
    show wS _ _ ⟨[some (.ref 0), some (.int many), some (.lst (ls.map .int)), none], S'⟩ _
    refine seqE ?_
    rw [wS, wE]
    by_cases hne : ls = []
    · subst hne
      refine e0 (v := .bl false) (by simp [ev_var, ev_int, ev_bl, ev_non, ev_str, ev_gint, ev_gstr, ev_bin, ev_neg, ev_cmp, ev_chain, ev_and, ev_or, ev_not, ev_ite, ev_tup, ev_lst, ev_ix, ev_call, ev_blt, ev_isi, ev_meth, ev_slc, evL, evI, ixO, itemsO, lisO, ixN, binO, binIO, cmpO, cmpIO, isBl, isInt, bltO, methO, eqO, isNon, isNonE, slcO, isiO, tyN, isSub, knownTy, tO, tsO, wipeP]) ⟨false, rfl, ?_⟩
      rw [if_neg Bool.false_ne_true]
      rw [wE, wL]
      refine c_draw (n := n') (many := many) (by simp [ev_var, ev_int, ev_bl, ev_non, ev_str, ev_gint, ev_gstr, ev_bin, ev_neg, ev_cmp, ev_chain, ev_and, ev_or, ev_not, ev_ite, ev_tup, ev_lst, ev_ix, ev_call, ev_blt, ev_isi, ev_meth, ev_slc, evL, evI, ixO, itemsO, lisO, ixN, binO, binIO, cmpO, cmpIO, isBl, isInt, bltO, methO, eqO, isNon, isNonE, slcO, isiO, tyN, isSub, knownTy, tO, tsO, wipeP]) (by simp [ev_var, ev_int, ev_bl, ev_non, ev_str, ev_gint, ev_gstr, ev_bin, ev_neg, ev_cmp, ev_chain, ev_and, ev_or, ev_not, ev_ite, ev_tup, ev_lst, ev_ix, ev_call, ev_blt, ev_isi, ev_meth, ev_slc, evL, evI, ixO, itemsO, lisO, ixN, binO, binIO, cmpO, cmpIO, isBl, isInt, bltO, methO, eqO, isNon, isNonE, slcO, isiO, tyN, isSub, knownTy, tO, tsO, wipeP]) h8 (by omega) (by omega) (by omega) fun r S2 r0 r1 hh2 sb2 => ?_
      rw [wL]
      refine ⟨by simp [ev_var, ev_int, ev_bl, ev_non, ev_str, ev_gint, ev_gstr, ev_bin, ev_neg, ev_cmp, ev_chain, ev_and, ev_or, ev_not, ev_ite, ev_tup, ev_lst, ev_ix, ev_call, ev_blt, ev_isi, ev_meth, ev_slc, evL, evI, ixO, itemsO, lisO, ixN, binO, binIO, cmpO, cmpIO, isBl, isInt, bltO, methO, eqO, isNon, isNonE, slcO, isiO, tyN, isSub, knownTy, tO, tsO, wipeP, szOk], ?_⟩
      exact hQ [r] S2 ⟨by simp [ev_var, ev_int, ev_bl, ev_non, ev_str, ev_gint, ev_gstr, ev_bin, ev_neg, ev_cmp, ev_chain, ev_and, ev_or, ev_not, ev_ite, ev_tup, ev_lst, ev_ix, ev_call, ev_blt, ev_isi, ev_meth, ev_slc, evL, evI, ixO, itemsO, lisO, ixN, binO, binIO, cmpO, cmpIO, isBl, isInt, bltO, methO, eqO, isNon, isNonE, slcO, isiO, tyN, isSub, knownTy, tO, tsO, wipeP], fun t ht => by rw [List.mem_singleton.mp ht]; omega, by simp [ev_var, ev_int, ev_bl, ev_non, ev_str, ev_gint, ev_gstr, ev_bin, ev_neg, ev_cmp, ev_chain, ev_and, ev_or, ev_not, ev_ite, ev_tup, ev_lst, ev_ix, ev_call, ev_blt, ev_isi, ev_meth, ev_slc, evL, evI, ixO, itemsO, lisO, ixN, binO, binIO, cmpO, cmpIO, isBl, isInt, bltO, methO, eqO, isNon, isNonE, slcO, isiO, tyN, isSub, knownTy, tO, tsO, wipeP]⟩ (hand_le hh2 (by simp [ev_var, ev_int, ev_bl, ev_non, ev_str, ev_gint, ev_gstr, ev_bin, ev_neg, ev_cmp, ev_chain, ev_and, ev_or, ev_not, ev_ite, ev_tup, ev_lst, ev_ix, ev_call, ev_blt, ev_isi, ev_meth, ev_slc, evL, evI, ixO, itemsO, lisO, ixN, binO, binIO, cmpO, cmpIO, isBl, isInt, bltO, methO, eqO, isNon, isNonE, slcO, isiO, tyN, isSub, knownTy, tO, tsO, wipeP] at h9; omega)) (h10.trans sb2)
    · have hp : 0 < ls.length := List.length_pos_iff.mpr hne
      refine e0 (v := .bl true) (by simp [ev_var, ev_int, ev_bl, ev_non, ev_str, ev_gint, ev_gstr, ev_bin, ev_neg, ev_cmp, ev_chain, ev_and, ev_or, ev_not, ev_ite, ev_tup, ev_lst, ev_ix, ev_call, ev_blt, ev_isi, ev_meth, ev_slc, evL, evI, ixO, itemsO, lisO, ixN, binO, binIO, cmpO, cmpIO, isBl, isInt, bltO, methO, eqO, isNon, isNonE, slcO, isiO, tyN, isSub, knownTy, tO, tsO, wipeP, hne]; omega) ⟨true, rfl, ?_⟩
      rw [if_pos rfl]
      refine e0 (v := vi ls) (by simp [ev_var, ev_int, ev_bl, ev_non, ev_str, ev_gint, ev_gstr, ev_bin, ev_neg, ev_cmp, ev_chain, ev_and, ev_or, ev_not, ev_ite, ev_tup, ev_lst, ev_ix, ev_call, ev_blt, ev_isi, ev_meth, ev_slc, evL, evI, ixO, itemsO, lisO, ixN, binO, binIO, cmpO, cmpIO, isBl, isInt, bltO, methO, eqO, isNon, isNonE, slcO, isiO, tyN, isSub, knownTy, tO, tsO, wipeP]) ?_
      exact hQ ls S' ⟨hne, fun t ht => ⟨(h6 t ht).1, (h6 t ht).2.1⟩, h5⟩ (hand_le h8 (by simp [ev_var, ev_int, ev_bl, ev_non, ev_str, ev_gint, ev_gstr, ev_bin, ev_neg, ev_cmp, ev_chain, ev_and, ev_or, ev_not, ev_ite, ev_tup, ev_lst, ev_ix, ev_call, ev_blt, ev_isi, ev_meth, ev_slc, evL, evI, ixO, itemsO, lisO, ixN, binO, binIO, cmpO, cmpIO, isBl, isInt, bltO, methO, eqO, isNon, isNonE, slcO, isiO, tyN, isSub, knownTy, tO, tsO, wipeP] at h9; omega)) h10
  · rintro x xs acc p R ⟨ks, ls, n', S', e1, rfl, h3, h4, h5, h6, h7, h7', h8, h9, h10, rfl⟩ hR1 hR2
    cases ks with
    | nil => cases e1
    | cons k ks =>
      cases e1
      have h3' := List.pairwise_cons.mp h3
      have hk := h4 k List.mem_cons_self
      simp only [List.length_cons] at h9 h7'
      refine ⟨trivial, by simp [ev_var, ev_int, ev_bl, ev_non, ev_str, ev_gint, ev_gstr, ev_bin, ev_neg, ev_cmp, ev_chain, ev_and, ev_or, ev_not, ev_ite, ev_tup, ev_lst, ev_ix, ev_call, ev_blt, ev_isi, ev_meth, ev_slc, evL, evI, ixO, itemsO, lisO, ixN, binO, binIO, cmpO, cmpIO, isBl, isInt, bltO, methO, eqO, isNon, isNonE, slcO, isiO, tyN, isSub, knownTy, tO, tsO, wipeP]; omega, tO_ok _ _ _ [some (.ref 0), some (.int many), none, some (.int (k : Nat))] _ (by simp [ev_var, ev_int, ev_bl, ev_non, ev_str, ev_gint, ev_gstr, ev_bin, ev_neg, ev_cmp, ev_chain, ev_and, ev_or, ev_not, ev_ite, ev_tup, ev_lst, ev_ix, ev_call, ev_blt, ev_isi, ev_meth, ev_slc, evL, evI, ixO, itemsO, lisO, ixN, binO, binIO, cmpO, cmpIO, isBl, isInt, bltO, methO, eqO, isNon, isNonE, slcO, isiO, tyN, isSub, knownTy, tO, tsO, wipeP]) ?_⟩
      rw [wE]
      refine c_draw (n := n') (many := 2) (by simp [ev_var, ev_int, ev_bl, ev_non, ev_str, ev_gint, ev_gstr, ev_bin, ev_neg, ev_cmp, ev_chain, ev_and, ev_or, ev_not, ev_ite, ev_tup, ev_lst, ev_ix, ev_call, ev_blt, ev_isi, ev_meth, ev_slc, evL, evI, ixO, itemsO, lisO, ixN, binO, binIO, cmpO, cmpIO, isBl, isInt, bltO, methO, eqO, isNon, isNonE, slcO, isiO, tyN, isSub, knownTy, tO, tsO, wipeP]) (by simp [ev_var, ev_int, ev_bl, ev_non, ev_str, ev_gint, ev_gstr, ev_bin, ev_neg, ev_cmp, ev_chain, ev_and, ev_or, ev_not, ev_ite, ev_tup, ev_lst, ev_ix, ev_call, ev_blt, ev_isi, ev_meth, ev_slc, evL, evI, ixO, itemsO, lisO, ixN, binO, binIO, cmpO, cmpIO, isBl, isInt, bltO, methO, eqO, isNon, isNonE, slcO, isiO, tyN, isSub, knownTy, tO, tsO, wipeP]) h8 (by omega) (by decide) (by decide) fun r S2 r0 r1 hh2 sb2 => ?_
      refine e0 (v := .int 0) (by simp [ev_var, ev_int, ev_bl, ev_non, ev_str, ev_gint, ev_gstr, ev_bin, ev_neg, ev_cmp, ev_chain, ev_and, ev_or, ev_not, ev_ite, ev_tup, ev_lst, ev_ix, ev_call, ev_blt, ev_isi, ev_meth, ev_slc, evL, evI, ixO, itemsO, lisO, ixN, binO, binIO, cmpO, cmpIO, isBl, isInt, bltO, methO, eqO, isNon, isNonE, slcO, isiO, tyN, isSub, knownTy, tO, tsO, wipeP]) ?_
      refine ⟨decide (r = 0), rfl, ?_⟩
      by_cases hr : r = 0
      · rw [if_pos (decide_eq_true hr)]
        refine e0 (v := .int (k : Nat)) (by simp [ev_var, ev_int, ev_bl, ev_non, ev_str, ev_gint, ev_gstr, ev_bin, ev_neg, ev_cmp, ev_chain, ev_and, ev_or, ev_not, ev_ite, ev_tup, ev_lst, ev_ix, ev_call, ev_blt, ev_isi, ev_meth, ev_slc, evL, evI, ixO, itemsO, lisO, ixN, binO, binIO, cmpO, cmpIO, isBl, isInt, bltO, methO, eqO, isNon, isNonE, slcO, isiO, tyN, isSub, knownTy, tO, tsO, wipeP]) ?_
        refine hR2 _ _ ⟨ks, ls ++ [(k : Int)], n' + 1, S2, rfl, by simp [ev_var, ev_int, ev_bl, ev_non, ev_str, ev_gint, ev_gstr, ev_bin, ev_neg, ev_cmp, ev_chain, ev_and, ev_or, ev_not, ev_ite, ev_tup, ev_lst, ev_ix, ev_call, ev_blt, ev_isi, ev_meth, ev_slc, evL, evI, ixO, itemsO, lisO, ixN, binO, binIO, cmpO, cmpIO, isBl, isInt, bltO, methO, eqO, isNon, isNonE, slcO, isiO, tyN, isSub, knownTy, tO, tsO, wipeP], h3'.2, fun j hj => h4 j (List.mem_cons_of_mem _ hj), ?_, fun t ht => ?_, by simp [ev_var, ev_int, ev_bl, ev_non, ev_str, ev_gint, ev_gstr, ev_bin, ev_neg, ev_cmp, ev_chain, ev_and, ev_or, ev_not, ev_ite, ev_tup, ev_lst, ev_ix, ev_call, ev_blt, ev_isi, ev_meth, ev_slc, evL, evI, ixO, itemsO, lisO, ixN, binO, binIO, cmpO, cmpIO, isBl, isInt, bltO, methO, eqO, isNon, isNonE, slcO, isiO, tyN, isSub, knownTy, tO, tsO, wipeP]; omega, by simp [ev_var, ev_int, ev_bl, ev_non, ev_str, ev_gint, ev_gstr, ev_bin, ev_neg, ev_cmp, ev_chain, ev_and, ev_or, ev_not, ev_ite, ev_tup, ev_lst, ev_ix, ev_call, ev_blt, ev_isi, ev_meth, ev_slc, evL, evI, ixO, itemsO, lisO, ixN, binO, binIO, cmpO, cmpIO, isBl, isInt, bltO, methO, eqO, isNon, isNonE, slcO, isiO, tyN, isSub, knownTy, tO, tsO, wipeP]; omega, hh2, by omega, h10.trans sb2, rfl⟩
        · rw [List.pairwise_append]
          refine ⟨h5, by simp [ev_var, ev_int, ev_bl, ev_non, ev_str, ev_gint, ev_gstr, ev_bin, ev_neg, ev_cmp, ev_chain, ev_and, ev_or, ev_not, ev_ite, ev_tup, ev_lst, ev_ix, ev_call, ev_blt, ev_isi, ev_meth, ev_slc, evL, evI, ixO, itemsO, lisO, ixN, binO, binIO, cmpO, cmpIO, isBl, isInt, bltO, methO, eqO, isNon, isNonE, slcO, isiO, tyN, isSub, knownTy, tO, tsO, wipeP], fun t ht j hj => ?_⟩
          rw [List.mem_singleton.mp hj]
          exact (h6 t ht).2.2 k List.mem_cons_self
        · rcases List.mem_append.mp ht with z | z
          · exact ⟨(h6 t z).1, (h6 t z).2.1, fun j hj => (h6 t z).2.2 j (List.mem_cons_of_mem _ hj)⟩
          · rw [List.mem_singleton.mp z]
            exact ⟨by omega, by omega, fun j hj => by have := h3'.1 j hj; omega⟩
      · rw [if_neg (by simp [ev_var, ev_int, ev_bl, ev_non, ev_str, ev_gint, ev_gstr, ev_bin, ev_neg, ev_cmp, ev_chain, ev_and, ev_or, ev_not, ev_ite, ev_tup, ev_lst, ev_ix, ev_call, ev_blt, ev_isi, ev_meth, ev_slc, evL, evI, ixO, itemsO, lisO, ixN, binO, binIO, cmpO, cmpIO, isBl, isInt, bltO, methO, eqO, isNon, isNonE, slcO, isiO, tyN, isSub, knownTy, tO, tsO, wipeP, hr])]
        exact hR1 _ ⟨ks, ls, n' + 1, S2, rfl, rfl, h3'.2, fun j hj => h4 j (List.mem_cons_of_mem _ hj), h5, fun t ht => ⟨(h6 t ht).1, (h6 t ht).2.1, fun j hj => (h6 t ht).2.2 j (List.mem_cons_of_mem _ hj)⟩, h7, by omega, hh2, by omega, h10.trans sb2, rfl⟩
  · refine ⟨List.range many, [], n, S, ?_, rfl, List.pairwise_lt_range, fun k hk => List.mem_range.mp hk, by simp [ev_var, ev_int, ev_bl, ev_non, ev_str, ev_gint, ev_gstr, ev_bin, ev_neg, ev_cmp, ev_chain, ev_and, ev_or, ev_not, ev_ite, ev_tup, ev_lst, ev_ix, ev_call, ev_blt, ev_isi, ev_meth, ev_slc, evL, evI, ixO, itemsO, lisO, ixN, binO, binIO, cmpO, cmpIO, isBl, isInt, bltO, methO, eqO, isNon, isNonE, slcO, isiO, tyN, isSub, knownTy, tO, tsO, wipeP], fun t ht => (by cases ht), by simp [ev_var, ev_int, ev_bl, ev_non, ev_str, ev_gint, ev_gstr, ev_bin, ev_neg, ev_cmp, ev_chain, ev_and, ev_or, ev_not, ev_ite, ev_tup, ev_lst, ev_ix, ev_call, ev_blt, ev_isi, ev_meth, ev_slc, evL, evI, ixO, itemsO, lisO, ixN, binO, binIO, cmpO, cmpIO, isBl, isInt, bltO, methO, eqO, isNon, isNonE, slcO, isiO, tyN, isSub, knownTy, tO, tsO, wipeP], by simp [ev_var, ev_int, ev_bl, ev_non, ev_str, ev_gint, ev_gstr, ev_bin, ev_neg, ev_cmp, ev_chain, ev_and, ev_or, ev_not, ev_ite, ev_tup, ev_lst, ev_ix, ev_call, ev_blt, ev_isi, ev_meth, ev_slc, evL, evI, ixO, itemsO, lisO, ixN, binO, binIO, cmpO, cmpIO, isBl, isInt, bltO, methO, eqO, isNon, isNonE, slcO, isiO, tyN, isSub, knownTy, tO, tsO, wipeP]; omega, hh, by simp [ev_var, ev_int, ev_bl, ev_non, ev_str, ev_gint, ev_gstr, ev_bin, ev_neg, ev_cmp, ev_chain, ev_and, ev_or, ev_not, ev_ite, ev_tup, ev_lst, ev_ix, ev_call, ev_blt, ev_isi, ev_meth, ev_slc, evL, evI, ixO, itemsO, lisO, ixN, binO, binIO, cmpO, cmpIO, isBl, isInt, bltO, methO, eqO, isNon, isNonE, slcO, isiO, tyN, isSub, knownTy, tO, tsO, wipeP]; omega, Sb.refl, rfl⟩
    unfold rngL
    simp [ev_var, ev_int, ev_bl, ev_non, ev_str, ev_gint, ev_gstr, ev_bin, ev_neg, ev_cmp, ev_chain, ev_and, ev_or, ev_not, ev_ite, ev_tup, ev_lst, ev_ix, ev_call, ev_blt, ev_isi, ev_meth, ev_slc, evL, evI, ixO, itemsO, lisO, ixN, binO, binIO, cmpO, cmpIO, isBl, isInt, bltO, methO, eqO, isNon, isNonE, slcO, isiO, tyN, isSub, knownTy, tO, tsO, wipeP]
/-- a drawn pay rule -/
def PrOk (w sh : Int) : PR → Prop
  | .each ls a => LotOk 0 sh ls ∧ -1000 ≤ a ∧ a ≤ 1000
  | .row rs a => 2 ≤ rs.length ∧ rs.length ≤ 6 ∧ (∀ r ∈ rs, LotOk 0 sh r) ∧ -1000 ≤ a ∧ a ≤ 1000
  | .over ls m a => LotOk 0 sh ls ∧ 0 ≤ m ∧ m ≤ 28 ∧ -1000 ≤ a ∧ a ≤ 1000
  | .on ds ls a => LotOk 0 (w - 1) ds ∧ LotOk 0 sh ls ∧ -1000 ≤ a ∧ a ≤ 1000
theorem wF_lotC {d n : Nat} {many : Nat} {hd m : E} {p : PSt} {Q : QV} {X : QX} (hv : ev noG hd p = some (.ref 0)) (hm : ev noG m p = some (.int (many : Int))) (hh : HandAt p.st 0 n) (hn1 : n < 900000) (h0 : 0 < many) (h1 : many ≤ 30)
    (hQ : ∀ (ls : List Int) (S' : Store), LotOk 0 ((many : Int) - 1) ls → HandAt S' 0 (n + 31) → Sb p.st S' → Q (vi ls) { p with st := S' }) : wE (wF tbl (d + 2)) (.call 7 (.cons hd (.cons m .nil))) p Q X := by
  rw [wE]
  exact l0 (v := [.ref 0, .int (many : Int)]) (by simp [ev_var, ev_int, ev_bl, ev_non, ev_str, ev_gint, ev_gstr, ev_bin, ev_neg, ev_cmp, ev_chain, ev_and, ev_or, ev_not, ev_ite, ev_tup, ev_lst, ev_ix, ev_call, ev_blt, ev_isi, ev_meth, ev_slc, evL, evI, ixO, itemsO, lisO, ixN, binO, binIO, cmpO, cmpIO, isBl, isInt, bltO, methO, eqO, isNon, isNonE, slcO, isiO, tyN, isSub, knownTy, tO, tsO, wipeP, hv, hm]) (q_lot d hh hn1 h0 h1 hQ)
/-- _law_pay_rule -/
theorem q_rule (d : Nat) {S : Store} {n : Nat} {w sh : Nat} {Q : PV → Store → Prop} {X : PX → Store → Prop} (hh : HandAt S 0 n) (hn1 : n < 800000) (hw : 0 < w) (hw2 : w ≤ 28) (hs : 0 < sh) (hs2 : sh ≤ 6) (hQ : ∀ (r : PR) (S' : Store), PrOk w sh r → HandAt S' 0 (n + 200) → Sb S S' → Q r.v S') :
    wF tbl (d + 3) 6 [.ref 0, .int w, .int sh] S Q X := by
  refine wF_runE 3 7 b6 [some (.ref 0), some (.int w), some (.int sh), none, none, none, none] rfl rfl (by decide) rfl (seqE ?_)
  rw [wS]
  refine c_some (n := n) (things := [.int 1, .int 2, .int (-1), .int 7, .int (-30), .int 1000, .int (-1000), .int 5]) (by simp [ev_var, ev_int, ev_bl, ev_non, ev_str, ev_gint, ev_gstr, ev_bin, ev_neg, ev_cmp, ev_chain, ev_and, ev_or, ev_not, ev_ite, ev_tup, ev_lst, ev_ix, ev_call, ev_blt, ev_isi, ev_meth, ev_slc, evL, evI, ixO, itemsO, lisO, ixN, binO, binIO, cmpO, cmpIO, isBl, isInt, bltO, methO, eqO, isNon, isNonE, slcO, isiO, tyN, isSub, knownTy, tO, tsO, wipeP]) (by simp [ev_var, ev_int, ev_bl, ev_non, ev_str, ev_gint, ev_gstr, ev_bin, ev_neg, ev_cmp, ev_chain, ev_and, ev_or, ev_not, ev_ite, ev_tup, ev_lst, ev_ix, ev_call, ev_blt, ev_isi, ev_meth, ev_slc, evL, evI, ixO, itemsO, lisO, ixN, binO, binIO, cmpO, cmpIO, isBl, isInt, bltO, methO, eqO, isNon, isNonE, slcO, isiO, tyN, isSub, knownTy, tO, tsO, wipeP]) hh (by omega) (by simp [ev_var, ev_int, ev_bl, ev_non, ev_str, ev_gint, ev_gstr, ev_bin, ev_neg, ev_cmp, ev_chain, ev_and, ev_or, ev_not, ev_ite, ev_tup, ev_lst, ev_ix, ev_call, ev_blt, ev_isi, ev_meth, ev_slc, evL, evI, ixO, itemsO, lisO, ixN, binO, binIO, cmpO, cmpIO, isBl, isInt, bltO, methO, eqO, isNon, isNonE, slcO, isiO, tyN, isSub, knownTy, tO, tsO, wipeP]) (by simp [ev_var, ev_int, ev_bl, ev_non, ev_str, ev_gint, ev_gstr, ev_bin, ev_neg, ev_cmp, ev_chain, ev_and, ev_or, ev_not, ev_ite, ev_tup, ev_lst, ev_ix, ev_call, ev_blt, ev_isi, ev_meth, ev_slc, evL, evI, ixO, itemsO, lisO, ixN, binO, binIO, cmpO, cmpIO, isBl, isInt, bltO, methO, eqO, isNon, isNonE, slcO, isiO, tyN, isSub, knownTy, tO, tsO, wipeP]) fun x hx S1 h1 sb1 => ?_
  obtain ⟨a, rfl, ha1, ha2⟩ : ∃ a : Int, x = .int a ∧ -1000 ≤ a ∧ a ≤ 1000 := by
    simp only [List.mem_cons, List.not_mem_nil, or_false] at hx
    rcases hx with rfl | rfl | rfl | rfl | rfl | rfl | rfl | rfl <;> exact ⟨_, rfl, by decide, by decide⟩
  have es : ((sh : Int) + 1) = ((sh + 1 : Nat) : Int) := by omega
  refine wF_lotC (n := n + 1) (many := sh + 1) (by simp [ev_var, ev_int, ev_bl, ev_non, ev_str, ev_gint, ev_gstr, ev_bin, ev_neg, ev_cmp, ev_chain, ev_and, ev_or, ev_not, ev_ite, ev_tup, ev_lst, ev_ix, ev_call, ev_blt, ev_isi, ev_meth, ev_slc, evL, evI, ixO, itemsO, lisO, ixN, binO, binIO, cmpO, cmpIO, isBl, isInt, bltO, methO, eqO, isNon, isNonE, slcO, isiO, tyN, isSub, knownTy, tO, tsO, wipeP]) (by simp [ev_var, ev_int, ev_bl, ev_non, ev_str, ev_gint, ev_gstr, ev_bin, ev_neg, ev_cmp, ev_chain, ev_and, ev_or, ev_not, ev_ite, ev_tup, ev_lst, ev_ix, ev_call, ev_blt, ev_isi, ev_meth, ev_slc, evL, evI, ixO, itemsO, lisO, ixN, binO, binIO, cmpO, cmpIO, isBl, isInt, bltO, methO, eqO, isNon, isNonE, slcO, isiO, tyN, isSub, knownTy, tO, tsO, wipeP]) h1 (by omega) (by omega) (by omega) fun ls S2 l2 h2 sb2 => ?_
  have l2 : LotOk 0 (sh : Int) ls := by
    have e : ((sh + 1 : Nat) : Int) - 1 = sh := by omega
    rw [e] at l2; exact l2
  refine ⟨by simp [ev_var, ev_int, ev_bl, ev_non, ev_str, ev_gint, ev_gstr, ev_bin, ev_neg, ev_cmp, ev_chain, ev_and, ev_or, ev_not, ev_ite, ev_tup, ev_lst, ev_ix, ev_call, ev_blt, ev_isi, ev_meth, ev_slc, evL, evI, ixO, itemsO, lisO, ixN, binO, binIO, cmpO, cmpIO, isBl, isInt, bltO, methO, eqO, isNon, isNonE, slcO, isiO, tyN, isSub, knownTy, tO, tsO, wipeP], by simp [ev_var, ev_int, ev_bl, ev_non, ev_str, ev_gint, ev_gstr, ev_bin, ev_neg, ev_cmp, ev_chain, ev_and, ev_or, ev_not, ev_ite, ev_tup, ev_lst, ev_ix, ev_call, ev_blt, ev_isi, ev_meth, ev_slc, evL, evI, ixO, itemsO, lisO, ixN, binO, binIO, cmpO, cmpIO, isBl, isInt, bltO, methO, eqO, isNon, isNonE, slcO, isiO, tyN, isSub, knownTy, tO, tsO, wipeP], ?_⟩
  show wS _ _ ⟨[some (.ref 0), some (.int w), some (.int sh), none, some (.int a), some (vi ls), none], S2⟩ _
  refine seqE ?_
  rw [wS]
  refine c_draw (n := n + 32) (many := 4) (by simp [ev_var, ev_int, ev_bl, ev_non, ev_str, ev_gint, ev_gstr, ev_bin, ev_neg, ev_cmp, ev_chain, ev_and, ev_or, ev_not, ev_ite, ev_tup, ev_lst, ev_ix, ev_call, ev_blt, ev_isi, ev_meth, ev_slc, evL, evI, ixO, itemsO, lisO, ixN, binO, binIO, cmpO, cmpIO, isBl, isInt, bltO, methO, eqO, isNon, isNonE, slcO, isiO, tyN, isSub, knownTy, tO, tsO, wipeP]) (by simp [ev_var, ev_int, ev_bl, ev_non, ev_str, ev_gint, ev_gstr, ev_bin, ev_neg, ev_cmp, ev_chain, ev_and, ev_or, ev_not, ev_ite, ev_tup, ev_lst, ev_ix, ev_call, ev_blt, ev_isi, ev_meth, ev_slc, evL, evI, ixO, itemsO, lisO, ixN, binO, binIO, cmpO, cmpIO, isBl, isInt, bltO, methO, eqO, isNon, isNonE, slcO, isiO, tyN, isSub, knownTy, tO, tsO, wipeP]) h2 (by omega) (by decide) (by decide) fun k S3 k0 k1 h3 sb3 => ?_
  rw [wT]
  refine ⟨by simp [ev_var, ev_int, ev_bl, ev_non, ev_str, ev_gint, ev_gstr, ev_bin, ev_neg, ev_cmp, ev_chain, ev_and, ev_or, ev_not, ev_ite, ev_tup, ev_lst, ev_ix, ev_call, ev_blt, ev_isi, ev_meth, ev_slc, evL, evI, ixO, itemsO, lisO, ixN, binO, binIO, cmpO, cmpIO, isBl, isInt, bltO, methO, eqO, isNon, isNonE, slcO, isiO, tyN, isSub, knownTy, tO, tsO, wipeP], ?_⟩
  show wS _ _ ⟨[some (.ref 0), some (.int w), some (.int sh), some (.int k), some (.int a), some (vi ls), none], S3⟩ _
  have sb03 : Sb S S3 := sb1.trans (sb2.trans sb3)
  by_cases e0' : k = 0
  · refine seqE (iteG noG_ok true (by simp [ev_var, ev_int, ev_bl, ev_non, ev_str, ev_gint, ev_gstr, ev_bin, ev_neg, ev_cmp, ev_chain, ev_and, ev_or, ev_not, ev_ite, ev_tup, ev_lst, ev_ix, ev_call, ev_blt, ev_isi, ev_meth, ev_slc, evL, evI, ixO, itemsO, lisO, ixN, binO, binIO, cmpO, cmpIO, isBl, isInt, bltO, methO, eqO, isNon, isNonE, slcO, isiO, tyN, isSub, knownTy, tO, tsO, wipeP, e0']) (fun _ => ?_) (fun z => by cases z))
    refine seqE (retG noG_ok (v := (PR.each ls a).v) (by simp [ev_var, ev_int, ev_bl, ev_non, ev_str, ev_gint, ev_gstr, ev_bin, ev_neg, ev_cmp, ev_chain, ev_and, ev_or, ev_not, ev_ite, ev_tup, ev_lst, ev_ix, ev_call, ev_blt, ev_isi, ev_meth, ev_slc, evL, evI, ixO, itemsO, lisO, ixN, binO, binIO, cmpO, cmpIO, isBl, isInt, bltO, methO, eqO, isNon, isNonE, slcO, isiO, tyN, isSub, knownTy, tO, tsO, wipeP, PR.v]) ?_)
    exact hQ (.each ls a) S3 ⟨l2, ha1, ha2⟩ (hand_le h3 (by omega)) sb03
  refine seqE (iteG noG_ok false (by simp [ev_var, ev_int, ev_bl, ev_non, ev_str, ev_gint, ev_gstr, ev_bin, ev_neg, ev_cmp, ev_chain, ev_and, ev_or, ev_not, ev_ite, ev_tup, ev_lst, ev_ix, ev_call, ev_blt, ev_isi, ev_meth, ev_slc, evL, evI, ixO, itemsO, lisO, ixN, binO, binIO, cmpO, cmpIO, isBl, isInt, bltO, methO, eqO, isNon, isNonE, slcO, isiO, tyN, isSub, knownTy, tO, tsO, wipeP, e0']) (fun z => by cases z) (fun _ => nopE (F := wF tbl (d + 2)) ?_))
  by_cases e1 : k = 1
  · refine seqE (iteG noG_ok true (by simp [ev_var, ev_int, ev_bl, ev_non, ev_str, ev_gint, ev_gstr, ev_bin, ev_neg, ev_cmp, ev_chain, ev_and, ev_or, ev_not, ev_ite, ev_tup, ev_lst, ev_ix, ev_call, ev_blt, ev_isi, ev_meth, ev_slc, evL, evI, ixO, itemsO, lisO, ixN, binO, binIO, cmpO, cmpIO, isBl, isInt, bltO, methO, eqO, isNon, isNonE, slcO, isiO, tyN, isSub, knownTy, tO, tsO, wipeP, e1]) (fun _ => ?_) (fun z => by cases z))
    refine seqE ?_
    rw [wS, wE, wL]
    refine e0 (v := .str "row") (by simp [ev_var, ev_int, ev_bl, ev_non, ev_str, ev_gint, ev_gstr, ev_bin, ev_neg, ev_cmp, ev_chain, ev_and, ev_or, ev_not, ev_ite, ev_tup, ev_lst, ev_ix, ev_call, ev_blt, ev_isi, ev_meth, ev_slc, evL, evI, ixO, itemsO, lisO, ixN, binO, binIO, cmpO, cmpIO, isBl, isInt, bltO, methO, eqO, isNon, isNonE, slcO, isiO, tyN, isSub, knownTy, tO, tsO, wipeP]) ?_
    rw [wL, wE, wL, wE, wI, wE, wE]
    refine c_draw (n := n + 33) (many := 2) (by simp [ev_var, ev_int, ev_bl, ev_non, ev_str, ev_gint, ev_gstr, ev_bin, ev_neg, ev_cmp, ev_chain, ev_and, ev_or, ev_not, ev_ite, ev_tup, ev_lst, ev_ix, ev_call, ev_blt, ev_isi, ev_meth, ev_slc, evL, evI, ixO, itemsO, lisO, ixN, binO, binIO, cmpO, cmpIO, isBl, isInt, bltO, methO, eqO, isNon, isNonE, slcO, isiO, tyN, isSub, knownTy, tO, tsO, wipeP]) (by simp [ev_var, ev_int, ev_bl, ev_non, ev_str, ev_gint, ev_gstr, ev_bin, ev_neg, ev_cmp, ev_chain, ev_and, ev_or, ev_not, ev_ite, ev_tup, ev_lst, ev_ix, ev_call, ev_blt, ev_isi, ev_meth, ev_slc, evL, evI, ixO, itemsO, lisO, ixN, binO, binIO, cmpO, cmpIO, isBl, isInt, bltO, methO, eqO, isNon, isNonE, slcO, isiO, tyN, isSub, knownTy, tO, tsO, wipeP]) h3 (by omega) (by decide) (by decide) fun j S4 j0 j1 h4 sb4 => ?_
    show ∃ m, PV.int (2 + j) = .int m ∧ _
    refine ⟨2 + j, rfl, rngOk_of (rng_small (by omega) (by omega)), ?_⟩
    refine lc_ind (fun xs acc p => ∃ (ks : List Nat) (rs : List (List Int)) (n' : Nat) (S' : Store), xs = ks.map (fun k => PV.int (k : Nat)) ∧ acc = rs.map vi ∧ (∀ r ∈ rs, LotOk 0 (sh : Int) r) ∧ ((rs.length + ks.length : Nat) : Int) = 2 + j ∧ HandAt S' 0 n' ∧ n' + 31 * ks.length ≤ n + 134 ∧ Sb S S' ∧
      p = ⟨[some (.ref 0), some (.int w), some (.int sh), some (.int k), some (.int a), some (vi ls), none], S'⟩) ?_ ?_ _ _ _ ?_
    · rintro acc p ⟨ks, rs, n', S', e1, rfl, q1, q2, q3, q4, q5, rfl⟩
      obtain rfl : ks = [] := by cases ks with | nil => rfl | cons _ _ => cases e1
      simp only [List.length_nil, Nat.add_zero] at q2
      refine ⟨trivial, by simp [ev_var, ev_int, ev_bl, ev_non, ev_str, ev_gint, ev_gstr, ev_bin, ev_neg, ev_cmp, ev_chain, ev_and, ev_or, ev_not, ev_ite, ev_tup, ev_lst, ev_ix, ev_call, ev_blt, ev_isi, ev_meth, ev_slc, evL, evI, ixO, itemsO, lisO, ixN, binO, binIO, cmpO, cmpIO, isBl, isInt, bltO, methO, eqO, isNon, isNonE, slcO, isiO, tyN, isSub, knownTy, tO, tsO, wipeP, szOk]; omega, ?_⟩
      rw [if_neg Bool.false_ne_true]
      dsimp only
      rw [wL]
      show wL _ _ ⟨[some (.ref 0), some (.int w), some (.int sh), some (.int k), some (.int a), some (vi ls), none], S'⟩ _ _
      rw [wL]
      refine e0 (v := .int a) (by simp [ev_var, ev_int, ev_bl, ev_non, ev_str, ev_gint, ev_gstr, ev_bin, ev_neg, ev_cmp, ev_chain, ev_and, ev_or, ev_not, ev_ite, ev_tup, ev_lst, ev_ix, ev_call, ev_blt, ev_isi, ev_meth, ev_slc, evL, evI, ixO, itemsO, lisO, ixN, binO, binIO, cmpO, cmpIO, isBl, isInt, bltO, methO, eqO, isNon, isNonE, slcO, isiO, tyN, isSub, knownTy, tO, tsO, wipeP]) ?_
      rw [wL]
      refine ⟨by simp [ev_var, ev_int, ev_bl, ev_non, ev_str, ev_gint, ev_gstr, ev_bin, ev_neg, ev_cmp, ev_chain, ev_and, ev_or, ev_not, ev_ite, ev_tup, ev_lst, ev_ix, ev_call, ev_blt, ev_isi, ev_meth, ev_slc, evL, evI, ixO, itemsO, lisO, ixN, binO, binIO, cmpO, cmpIO, isBl, isInt, bltO, methO, eqO, isNon, isNonE, slcO, isiO, tyN, isSub, knownTy, tO, tsO, wipeP, szOk], ?_⟩
      exact hQ (.row rs a) S' ⟨by omega, by omega, q1, ha1, ha2⟩ (hand_le q3 (by omega)) q5
    · rintro x xs acc p R ⟨ks, rs, n', S', e1, rfl, q1, q2, q3, q4, q5, rfl⟩ hR1 hR2
      cases ks with
      | nil => cases e1
      | cons t ks =>
        cases e1
        simp only [List.length_cons] at q2 q4
        refine ⟨trivial, by simp [ev_var, ev_int, ev_bl, ev_non, ev_str, ev_gint, ev_gstr, ev_bin, ev_neg, ev_cmp, ev_chain, ev_and, ev_or, ev_not, ev_ite, ev_tup, ev_lst, ev_ix, ev_call, ev_blt, ev_isi, ev_meth, ev_slc, evL, evI, ixO, itemsO, lisO, ixN, binO, binIO, cmpO, cmpIO, isBl, isInt, bltO, methO, eqO, isNon, isNonE, slcO, isiO, tyN, isSub, knownTy, tO, tsO, wipeP]; omega, tO_ok _ _ _ [some (.ref 0), some (.int w), some (.int sh), some (.int k), some (.int a), some (vi ls), some (.int (t : Nat))] _ (by simp [ev_var, ev_int, ev_bl, ev_non, ev_str, ev_gint, ev_gstr, ev_bin, ev_neg, ev_cmp, ev_chain, ev_and, ev_or, ev_not, ev_ite, ev_tup, ev_lst, ev_ix, ev_call, ev_blt, ev_isi, ev_meth, ev_slc, evL, evI, ixO, itemsO, lisO, ixN, binO, binIO, cmpO, cmpIO, isBl, isInt, bltO, methO, eqO, isNon, isNonE, slcO, isiO, tyN, isSub, knownTy, tO, tsO, wipeP]) ?_⟩
        refine e0 (v := .bl true) (by simp [ev_var, ev_int, ev_bl, ev_non, ev_str, ev_gint, ev_gstr, ev_bin, ev_neg, ev_cmp, ev_chain, ev_and, ev_or, ev_not, ev_ite, ev_tup, ev_lst, ev_ix, ev_call, ev_blt, ev_isi, ev_meth, ev_slc, evL, evI, ixO, itemsO, lisO, ixN, binO, binIO, cmpO, cmpIO, isBl, isInt, bltO, methO, eqO, isNon, isNonE, slcO, isiO, tyN, isSub, knownTy, tO, tsO, wipeP]) ⟨true, rfl, ?_⟩
        rw [if_pos rfl]
        refine wF_lotC (n := n') (many := sh + 1) (by simp [ev_var, ev_int, ev_bl, ev_non, ev_str, ev_gint, ev_gstr, ev_bin, ev_neg, ev_cmp, ev_chain, ev_and, ev_or, ev_not, ev_ite, ev_tup, ev_lst, ev_ix, ev_call, ev_blt, ev_isi, ev_meth, ev_slc, evL, evI, ixO, itemsO, lisO, ixN, binO, binIO, cmpO, cmpIO, isBl, isInt, bltO, methO, eqO, isNon, isNonE, slcO, isiO, tyN, isSub, knownTy, tO, tsO, wipeP]) (by simp [ev_var, ev_int, ev_bl, ev_non, ev_str, ev_gint, ev_gstr, ev_bin, ev_neg, ev_cmp, ev_chain, ev_and, ev_or, ev_not, ev_ite, ev_tup, ev_lst, ev_ix, ev_call, ev_blt, ev_isi, ev_meth, ev_slc, evL, evI, ixO, itemsO, lisO, ixN, binO, binIO, cmpO, cmpIO, isBl, isInt, bltO, methO, eqO, isNon, isNonE, slcO, isiO, tyN, isSub, knownTy, tO, tsO, wipeP]) q3 (by omega) (by omega) (by omega) fun r S5 l5 h5 sb5 => ?_
        refine hR2 _ _ ⟨ks, rs ++ [r], n' + 31, S5, rfl, by simp [ev_var, ev_int, ev_bl, ev_non, ev_str, ev_gint, ev_gstr, ev_bin, ev_neg, ev_cmp, ev_chain, ev_and, ev_or, ev_not, ev_ite, ev_tup, ev_lst, ev_ix, ev_call, ev_blt, ev_isi, ev_meth, ev_slc, evL, evI, ixO, itemsO, lisO, ixN, binO, binIO, cmpO, cmpIO, isBl, isInt, bltO, methO, eqO, isNon, isNonE, slcO, isiO, tyN, isSub, knownTy, tO, tsO, wipeP], fun y hy => ?_, by simp [ev_var, ev_int, ev_bl, ev_non, ev_str, ev_gint, ev_gstr, ev_bin, ev_neg, ev_cmp, ev_chain, ev_and, ev_or, ev_not, ev_ite, ev_tup, ev_lst, ev_ix, ev_call, ev_blt, ev_isi, ev_meth, ev_slc, evL, evI, ixO, itemsO, lisO, ixN, binO, binIO, cmpO, cmpIO, isBl, isInt, bltO, methO, eqO, isNon, isNonE, slcO, isiO, tyN, isSub, knownTy, tO, tsO, wipeP]; omega, h5, by omega, q5.trans sb5, rfl⟩
        rcases List.mem_append.mp hy with z | z
        · exact q1 y z
        · rw [List.mem_singleton.mp z]
          have e : ((sh + 1 : Nat) : Int) - 1 = sh := by omega
          rw [e] at l5; exact l5
    · refine ⟨List.range (2 + j).toNat, [], n + 34, S4, ?_, rfl, fun r hr => (by cases hr), by simp [ev_var, ev_int, ev_bl, ev_non, ev_str, ev_gint, ev_gstr, ev_bin, ev_neg, ev_cmp, ev_chain, ev_and, ev_or, ev_not, ev_ite, ev_tup, ev_lst, ev_ix, ev_call, ev_blt, ev_isi, ev_meth, ev_slc, evL, evI, ixO, itemsO, lisO, ixN, binO, binIO, cmpO, cmpIO, isBl, isInt, bltO, methO, eqO, isNon, isNonE, slcO, isiO, tyN, isSub, knownTy, tO, tsO, wipeP]; omega, h4, by simp [ev_var, ev_int, ev_bl, ev_non, ev_str, ev_gint, ev_gstr, ev_bin, ev_neg, ev_cmp, ev_chain, ev_and, ev_or, ev_not, ev_ite, ev_tup, ev_lst, ev_ix, ev_call, ev_blt, ev_isi, ev_meth, ev_slc, evL, evI, ixO, itemsO, lisO, ixN, binO, binIO, cmpO, cmpIO, isBl, isInt, bltO, methO, eqO, isNon, isNonE, slcO, isiO, tyN, isSub, knownTy, tO, tsO, wipeP]; omega, sb03.trans sb4, rfl⟩
      unfold rngL
      simp [ev_var, ev_int, ev_bl, ev_non, ev_str, ev_gint, ev_gstr, ev_bin, ev_neg, ev_cmp, ev_chain, ev_and, ev_or, ev_not, ev_ite, ev_tup, ev_lst, ev_ix, ev_call, ev_blt, ev_isi, ev_meth, ev_slc, evL, evI, ixO, itemsO, lisO, ixN, binO, binIO, cmpO, cmpIO, isBl, isInt, bltO, methO, eqO, isNon, isNonE, slcO, isiO, tyN, isSub, knownTy, tO, tsO, wipeP]
  refine seqE (iteG noG_ok false (by simp [ev_var, ev_int, ev_bl, ev_non, ev_str, ev_gint, ev_gstr, ev_bin, ev_neg, ev_cmp, ev_chain, ev_and, ev_or, ev_not, ev_ite, ev_tup, ev_lst, ev_ix, ev_call, ev_blt, ev_isi, ev_meth, ev_slc, evL, evI, ixO, itemsO, lisO, ixN, binO, binIO, cmpO, cmpIO, isBl, isInt, bltO, methO, eqO, isNon, isNonE, slcO, isiO, tyN, isSub, knownTy, tO, tsO, wipeP, e1]) (fun z => by cases z) (fun _ => nopE (F := wF tbl (d + 2)) ?_))
  by_cases e2 : k = 2
  · refine seqE (iteG noG_ok true (by simp [ev_var, ev_int, ev_bl, ev_non, ev_str, ev_gint, ev_gstr, ev_bin, ev_neg, ev_cmp, ev_chain, ev_and, ev_or, ev_not, ev_ite, ev_tup, ev_lst, ev_ix, ev_call, ev_blt, ev_isi, ev_meth, ev_slc, evL, evI, ixO, itemsO, lisO, ixN, binO, binIO, cmpO, cmpIO, isBl, isInt, bltO, methO, eqO, isNon, isNonE, slcO, isiO, tyN, isSub, knownTy, tO, tsO, wipeP, e2]) (fun _ => ?_) (fun z => by cases z))
    refine seqE ?_
    rw [wS, wE, wL]
    refine e0 (v := .str "over") (by simp [ev_var, ev_int, ev_bl, ev_non, ev_str, ev_gint, ev_gstr, ev_bin, ev_neg, ev_cmp, ev_chain, ev_and, ev_or, ev_not, ev_ite, ev_tup, ev_lst, ev_ix, ev_call, ev_blt, ev_isi, ev_meth, ev_slc, evL, evI, ixO, itemsO, lisO, ixN, binO, binIO, cmpO, cmpIO, isBl, isInt, bltO, methO, eqO, isNon, isNonE, slcO, isiO, tyN, isSub, knownTy, tO, tsO, wipeP]) ?_
    rw [wL]
    refine e0 (v := vi ls) (by simp [ev_var, ev_int, ev_bl, ev_non, ev_str, ev_gint, ev_gstr, ev_bin, ev_neg, ev_cmp, ev_chain, ev_and, ev_or, ev_not, ev_ite, ev_tup, ev_lst, ev_ix, ev_call, ev_blt, ev_isi, ev_meth, ev_slc, evL, evI, ixO, itemsO, lisO, ixN, binO, binIO, cmpO, cmpIO, isBl, isInt, bltO, methO, eqO, isNon, isNonE, slcO, isiO, tyN, isSub, knownTy, tO, tsO, wipeP]) ?_
    rw [wL]
    refine c_draw (n := n + 33) (many := (w : Int) + 1) (by simp [ev_var, ev_int, ev_bl, ev_non, ev_str, ev_gint, ev_gstr, ev_bin, ev_neg, ev_cmp, ev_chain, ev_and, ev_or, ev_not, ev_ite, ev_tup, ev_lst, ev_ix, ev_call, ev_blt, ev_isi, ev_meth, ev_slc, evL, evI, ixO, itemsO, lisO, ixN, binO, binIO, cmpO, cmpIO, isBl, isInt, bltO, methO, eqO, isNon, isNonE, slcO, isiO, tyN, isSub, knownTy, tO, tsO, wipeP]) (by simp [ev_var, ev_int, ev_bl, ev_non, ev_str, ev_gint, ev_gstr, ev_bin, ev_neg, ev_cmp, ev_chain, ev_and, ev_or, ev_not, ev_ite, ev_tup, ev_lst, ev_ix, ev_call, ev_blt, ev_isi, ev_meth, ev_slc, evL, evI, ixO, itemsO, lisO, ixN, binO, binIO, cmpO, cmpIO, isBl, isInt, bltO, methO, eqO, isNon, isNonE, slcO, isiO, tyN, isSub, knownTy, tO, tsO, wipeP]) h3 (by omega) (by omega) (by omega) fun m S4 m0 m1 h4 sb4 => ?_
    rw [wL]
    refine e0 (v := .int a) (by simp [ev_var, ev_int, ev_bl, ev_non, ev_str, ev_gint, ev_gstr, ev_bin, ev_neg, ev_cmp, ev_chain, ev_and, ev_or, ev_not, ev_ite, ev_tup, ev_lst, ev_ix, ev_call, ev_blt, ev_isi, ev_meth, ev_slc, evL, evI, ixO, itemsO, lisO, ixN, binO, binIO, cmpO, cmpIO, isBl, isInt, bltO, methO, eqO, isNon, isNonE, slcO, isiO, tyN, isSub, knownTy, tO, tsO, wipeP]) ?_
    rw [wL]
    refine ⟨by simp [ev_var, ev_int, ev_bl, ev_non, ev_str, ev_gint, ev_gstr, ev_bin, ev_neg, ev_cmp, ev_chain, ev_and, ev_or, ev_not, ev_ite, ev_tup, ev_lst, ev_ix, ev_call, ev_blt, ev_isi, ev_meth, ev_slc, evL, evI, ixO, itemsO, lisO, ixN, binO, binIO, cmpO, cmpIO, isBl, isInt, bltO, methO, eqO, isNon, isNonE, slcO, isiO, tyN, isSub, knownTy, tO, tsO, wipeP, szOk], ?_⟩
    exact hQ (.over ls m a) S4 ⟨l2, m0, by omega, ha1, ha2⟩ (hand_le h4 (by omega)) (sb03.trans sb4)
  refine seqE (iteG noG_ok false (by simp [ev_var, ev_int, ev_bl, ev_non, ev_str, ev_gint, ev_gstr, ev_bin, ev_neg, ev_cmp, ev_chain, ev_and, ev_or, ev_not, ev_ite, ev_tup, ev_lst, ev_ix, ev_call, ev_blt, ev_isi, ev_meth, ev_slc, evL, evI, ixO, itemsO, lisO, ixN, binO, binIO, cmpO, cmpIO, isBl, isInt, bltO, methO, eqO, isNon, isNonE, slcO, isiO, tyN, isSub, knownTy, tO, tsO, wipeP, e2]) (fun z => by cases z) (fun _ => nopE (F := wF tbl (d + 2)) ?_))
  refine seqE ?_
  rw [wS, wE, wL]
  refine e0 (v := .str "on") (by simp [ev_var, ev_int, ev_bl, ev_non, ev_str, ev_gint, ev_gstr, ev_bin, ev_neg, ev_cmp, ev_chain, ev_and, ev_or, ev_not, ev_ite, ev_tup, ev_lst, ev_ix, ev_call, ev_blt, ev_isi, ev_meth, ev_slc, evL, evI, ixO, itemsO, lisO, ixN, binO, binIO, cmpO, cmpIO, isBl, isInt, bltO, methO, eqO, isNon, isNonE, slcO, isiO, tyN, isSub, knownTy, tO, tsO, wipeP]) ?_
  rw [wL]
  refine wF_lotC (n := n + 33) (many := w) (by simp [ev_var, ev_int, ev_bl, ev_non, ev_str, ev_gint, ev_gstr, ev_bin, ev_neg, ev_cmp, ev_chain, ev_and, ev_or, ev_not, ev_ite, ev_tup, ev_lst, ev_ix, ev_call, ev_blt, ev_isi, ev_meth, ev_slc, evL, evI, ixO, itemsO, lisO, ixN, binO, binIO, cmpO, cmpIO, isBl, isInt, bltO, methO, eqO, isNon, isNonE, slcO, isiO, tyN, isSub, knownTy, tO, tsO, wipeP]) (by simp [ev_var, ev_int, ev_bl, ev_non, ev_str, ev_gint, ev_gstr, ev_bin, ev_neg, ev_cmp, ev_chain, ev_and, ev_or, ev_not, ev_ite, ev_tup, ev_lst, ev_ix, ev_call, ev_blt, ev_isi, ev_meth, ev_slc, evL, evI, ixO, itemsO, lisO, ixN, binO, binIO, cmpO, cmpIO, isBl, isInt, bltO, methO, eqO, isNon, isNonE, slcO, isiO, tyN, isSub, knownTy, tO, tsO, wipeP]) h3 (by omega) hw (by omega) fun ds S4 l4 h4 sb4 => ?_
  rw [wL]
  refine e0 (v := vi ls) (by simp [ev_var, ev_int, ev_bl, ev_non, ev_str, ev_gint, ev_gstr, ev_bin, ev_neg, ev_cmp, ev_chain, ev_and, ev_or, ev_not, ev_ite, ev_tup, ev_lst, ev_ix, ev_call, ev_blt, ev_isi, ev_meth, ev_slc, evL, evI, ixO, itemsO, lisO, ixN, binO, binIO, cmpO, cmpIO, isBl, isInt, bltO, methO, eqO, isNon, isNonE, slcO, isiO, tyN, isSub, knownTy, tO, tsO, wipeP]) ?_
  rw [wL]
  refine e0 (v := .int a) (by simp [ev_var, ev_int, ev_bl, ev_non, ev_str, ev_gint, ev_gstr, ev_bin, ev_neg, ev_cmp, ev_chain, ev_and, ev_or, ev_not, ev_ite, ev_tup, ev_lst, ev_ix, ev_call, ev_blt, ev_isi, ev_meth, ev_slc, evL, evI, ixO, itemsO, lisO, ixN, binO, binIO, cmpO, cmpIO, isBl, isInt, bltO, methO, eqO, isNon, isNonE, slcO, isiO, tyN, isSub, knownTy, tO, tsO, wipeP]) ?_
  rw [wL]
  refine ⟨by simp [ev_var, ev_int, ev_bl, ev_non, ev_str, ev_gint, ev_gstr, ev_bin, ev_neg, ev_cmp, ev_chain, ev_and, ev_or, ev_not, ev_ite, ev_tup, ev_lst, ev_ix, ev_call, ev_blt, ev_isi, ev_meth, ev_slc, evL, evI, ixO, itemsO, lisO, ixN, binO, binIO, cmpO, cmpIO, isBl, isInt, bltO, methO, eqO, isNon, isNonE, slcO, isiO, tyN, isSub, knownTy, tO, tsO, wipeP, szOk], ?_⟩
  exact hQ (.on ds ls a) S4 ⟨l4, l2, ha1, ha2⟩ (hand_le h4 (by omega)) (sb03.trans sb4)
/-- _law_tariff -/
theorem q_tariff (d : Nat) {S : Store} {n : Nat} {w sh most : Nat} {Q : PV → Store → Prop} {X : PX → Store → Prop} (hh : HandAt S 0 n) (hn1 : n < 700000) (hw : 0 < w) (hw2 : w ≤ 28) (hs : 0 < sh) (hs2 : sh ≤ 6) (hm0 : 0 < most) (hm : most ≤ 12) (hQ : ∀ (t : List PR) (S' : Store), t ≠ [] → t.length ≤ 12 → (∀ r ∈ t, PrOk w sh r) → HandAt S' 0 (n + 2500) → Sb S S' → Q (.tup (t.map PR.v)) S') :
    wF tbl (d + 4) 5 [.ref 0, .int w, .int sh, .int most] S Q X := by
  refine wF_runE 4 5 b5 [some (.ref 0), some (.int w), some (.int sh), some (.int most), none] rfl rfl (by decide) rfl (seqE ?_)
  rw [wS, wE, wL, wE, wI, wE, wE]
  refine c_draw (n := n) (many := most) (by simp [ev_var, ev_int, ev_bl, ev_non, ev_str, ev_gint, ev_gstr, ev_bin, ev_neg, ev_cmp, ev_chain, ev_and, ev_or, ev_not, ev_ite, ev_tup, ev_lst, ev_ix, ev_call, ev_blt, ev_isi, ev_meth, ev_slc, evL, evI, ixO, itemsO, lisO, ixN, binO, binIO, cmpO, cmpIO, isBl, isInt, bltO, methO, eqO, isNon, isNonE, slcO, isiO, tyN, isSub, knownTy, tO, tsO, wipeP]) (by simp [ev_var, ev_int, ev_bl, ev_non, ev_str, ev_gint, ev_gstr, ev_bin, ev_neg, ev_cmp, ev_chain, ev_and, ev_or, ev_not, ev_ite, ev_tup, ev_lst, ev_ix, ev_call, ev_blt, ev_isi, ev_meth, ev_slc, evL, evI, ixO, itemsO, lisO, ixN, binO, binIO, cmpO, cmpIO, isBl, isInt, bltO, methO, eqO, isNon, isNonE, slcO, isiO, tyN, isSub, knownTy, tO, tsO, wipeP]) hh (by omega) (by omega) (by omega) fun j S1 j0 j1 h1 sb1 => ?_
  show ∃ m, PV.int (1 + j) = .int m ∧ _
  refine ⟨1 + j, rfl, rngOk_of (rng_small (by omega) (by omega)), ?_⟩
  refine lc_ind (fun xs acc p => ∃ (ks : List Nat) (t : List PR) (n' : Nat) (S' : Store), xs = ks.map (fun k => PV.int (k : Nat)) ∧ acc = t.map PR.v ∧ (∀ r ∈ t, PrOk w sh r) ∧ ((t.length + ks.length : Nat) : Int) = 1 + j ∧ HandAt S' 0 n' ∧ n' + 200 * ks.length ≤ n + 2500 ∧ Sb S S' ∧
    p = ⟨[some (.ref 0), some (.int w), some (.int sh), some (.int most), none], S'⟩) ?_ ?_ _ _ _ ?_
  · rintro acc p ⟨ks, t, n', S', e1, rfl, q1, q2, q3, q4, q5, rfl⟩
    obtain rfl : ks = [] := by cases ks with | nil => rfl | cons _ _ => cases e1
    simp only [List.length_nil, Nat.add_zero] at q2
    refine ⟨trivial, by simp [ev_var, ev_int, ev_bl, ev_non, ev_str, ev_gint, ev_gstr, ev_bin, ev_neg, ev_cmp, ev_chain, ev_and, ev_or, ev_not, ev_ite, ev_tup, ev_lst, ev_ix, ev_call, ev_blt, ev_isi, ev_meth, ev_slc, evL, evI, ixO, itemsO, lisO, ixN, binO, binIO, cmpO, cmpIO, isBl, isInt, bltO, methO, eqO, isNon, isNonE, slcO, isiO, tyN, isSub, knownTy, tO, tsO, wipeP, szOk]; omega, ?_⟩
    rw [if_neg Bool.false_ne_true]
    dsimp only
    rw [wL]
    exact hQ t S' (fun z => by rw [z] at q2; simp [ev_var, ev_int, ev_bl, ev_non, ev_str, ev_gint, ev_gstr, ev_bin, ev_neg, ev_cmp, ev_chain, ev_and, ev_or, ev_not, ev_ite, ev_tup, ev_lst, ev_ix, ev_call, ev_blt, ev_isi, ev_meth, ev_slc, evL, evI, ixO, itemsO, lisO, ixN, binO, binIO, cmpO, cmpIO, isBl, isInt, bltO, methO, eqO, isNon, isNonE, slcO, isiO, tyN, isSub, knownTy, tO, tsO, wipeP] at q2; omega) (by omega) q1 (hand_le q3 (by omega)) q5
  · rintro x xs acc p R ⟨ks, t, n', S', e1, rfl, q1, q2, q3, q4, q5, rfl⟩ hR1 hR2
    cases ks with
    | nil => cases e1
    | cons y ks =>
      cases e1
      simp only [List.length_cons] at q2 q4
      refine ⟨trivial, by simp [ev_var, ev_int, ev_bl, ev_non, ev_str, ev_gint, ev_gstr, ev_bin, ev_neg, ev_cmp, ev_chain, ev_and, ev_or, ev_not, ev_ite, ev_tup, ev_lst, ev_ix, ev_call, ev_blt, ev_isi, ev_meth, ev_slc, evL, evI, ixO, itemsO, lisO, ixN, binO, binIO, cmpO, cmpIO, isBl, isInt, bltO, methO, eqO, isNon, isNonE, slcO, isiO, tyN, isSub, knownTy, tO, tsO, wipeP]; omega, tO_ok _ _ _ [some (.ref 0), some (.int w), some (.int sh), some (.int most), some (.int (y : Nat))] _ (by simp [ev_var, ev_int, ev_bl, ev_non, ev_str, ev_gint, ev_gstr, ev_bin, ev_neg, ev_cmp, ev_chain, ev_and, ev_or, ev_not, ev_ite, ev_tup, ev_lst, ev_ix, ev_call, ev_blt, ev_isi, ev_meth, ev_slc, evL, evI, ixO, itemsO, lisO, ixN, binO, binIO, cmpO, cmpIO, isBl, isInt, bltO, methO, eqO, isNon, isNonE, slcO, isiO, tyN, isSub, knownTy, tO, tsO, wipeP]) ?_⟩
      refine e0 (v := .bl true) (by simp [ev_var, ev_int, ev_bl, ev_non, ev_str, ev_gint, ev_gstr, ev_bin, ev_neg, ev_cmp, ev_chain, ev_and, ev_or, ev_not, ev_ite, ev_tup, ev_lst, ev_ix, ev_call, ev_blt, ev_isi, ev_meth, ev_slc, evL, evI, ixO, itemsO, lisO, ixN, binO, binIO, cmpO, cmpIO, isBl, isInt, bltO, methO, eqO, isNon, isNonE, slcO, isiO, tyN, isSub, knownTy, tO, tsO, wipeP]) ⟨true, rfl, ?_⟩
      rw [if_pos rfl, wE]
      refine l0 (v := [.ref 0, .int w, .int sh]) (by simp [ev_var, ev_int, ev_bl, ev_non, ev_str, ev_gint, ev_gstr, ev_bin, ev_neg, ev_cmp, ev_chain, ev_and, ev_or, ev_not, ev_ite, ev_tup, ev_lst, ev_ix, ev_call, ev_blt, ev_isi, ev_meth, ev_slc, evL, evI, ixO, itemsO, lisO, ixN, binO, binIO, cmpO, cmpIO, isBl, isInt, bltO, methO, eqO, isNon, isNonE, slcO, isiO, tyN, isSub, knownTy, tO, tsO, wipeP]) ?_
      refine q_rule d q3 (by omega) hw hw2 hs hs2 fun r S2 hr h2 sb2 => ?_
      refine hR2 _ _ ⟨ks, t ++ [r], n' + 200, S2, rfl, by simp [ev_var, ev_int, ev_bl, ev_non, ev_str, ev_gint, ev_gstr, ev_bin, ev_neg, ev_cmp, ev_chain, ev_and, ev_or, ev_not, ev_ite, ev_tup, ev_lst, ev_ix, ev_call, ev_blt, ev_isi, ev_meth, ev_slc, evL, evI, ixO, itemsO, lisO, ixN, binO, binIO, cmpO, cmpIO, isBl, isInt, bltO, methO, eqO, isNon, isNonE, slcO, isiO, tyN, isSub, knownTy, tO, tsO, wipeP], fun y hy => ?_, by simp [ev_var, ev_int, ev_bl, ev_non, ev_str, ev_gint, ev_gstr, ev_bin, ev_neg, ev_cmp, ev_chain, ev_and, ev_or, ev_not, ev_ite, ev_tup, ev_lst, ev_ix, ev_call, ev_blt, ev_isi, ev_meth, ev_slc, evL, evI, ixO, itemsO, lisO, ixN, binO, binIO, cmpO, cmpIO, isBl, isInt, bltO, methO, eqO, isNon, isNonE, slcO, isiO, tyN, isSub, knownTy, tO, tsO, wipeP]; omega, h2, by omega, q5.trans sb2, rfl⟩
      rcases List.mem_append.mp hy with z | z
      · exact q1 y z
      · rw [List.mem_singleton.mp z]; exact hr
  · refine ⟨List.range (1 + j).toNat, [], n + 1, S1, ?_, rfl, fun r hr => (by cases hr), by simp [ev_var, ev_int, ev_bl, ev_non, ev_str, ev_gint, ev_gstr, ev_bin, ev_neg, ev_cmp, ev_chain, ev_and, ev_or, ev_not, ev_ite, ev_tup, ev_lst, ev_ix, ev_call, ev_blt, ev_isi, ev_meth, ev_slc, evL, evI, ixO, itemsO, lisO, ixN, binO, binIO, cmpO, cmpIO, isBl, isInt, bltO, methO, eqO, isNon, isNonE, slcO, isiO, tyN, isSub, knownTy, tO, tsO, wipeP]; omega, h1, by simp [ev_var, ev_int, ev_bl, ev_non, ev_str, ev_gint, ev_gstr, ev_bin, ev_neg, ev_cmp, ev_chain, ev_and, ev_or, ev_not, ev_ite, ev_tup, ev_lst, ev_ix, ev_call, ev_blt, ev_isi, ev_meth, ev_slc, evL, evI, ixO, itemsO, lisO, ixN, binO, binIO, cmpO, cmpIO, isBl, isInt, bltO, methO, eqO, isNon, isNonE, slcO, isiO, tyN, isSub, knownTy, tO, tsO, wipeP]; omega, sb1, rfl⟩
    unfold rngL
    simp [ev_var, ev_int, ev_bl, ev_non, ev_str, ev_gint, ev_gstr, ev_bin, ev_neg, ev_cmp, ev_chain, ev_and, ev_or, ev_not, ev_ite, ev_tup, ev_lst, ev_ix, ev_call, ev_blt, ev_isi, ev_meth, ev_slc, evL, evI, ixO, itemsO, lisO, ixN, binO, binIO, cmpO, cmpIO, isBl, isInt, bltO, methO, eqO, isNon, isNonE, slcO, isiO, tyN, isSub, knownTy, tO, tsO, wipeP]
end K69

/-! K69l: what the program's days bring and keep; what the law's look says. -/
namespace K69
open Den
theorem in_any (t : Int) (ls : List Int) : ((ls.map PV.int).any fun z => PySem.PyData.eqv z.d (PV.int t).d) = decide (t ∈ ls) := by
  induction ls with
  | nil => rfl
  | cons x l ih =>
    rw [List.map_cons, List.any_cons, ih]
    simp only [PV.d, PySem.PyData.eqv, List.mem_cons]
    by_cases h : x = t
    · subst h; simp [ev_var, ev_int, ev_bl, ev_non, ev_str, ev_gint, ev_gstr, ev_bin, ev_neg, ev_cmp, ev_chain, ev_and, ev_or, ev_not, ev_ite, ev_tup, ev_lst, ev_ix, ev_call, ev_blt, ev_isi, ev_meth, ev_slc, evL, evI, ixO, itemsO, lisO, ixN, binO, binIO, cmpO, cmpIO, isBl, isInt, bltO, methO, eqO, isNon, isNonE, slcO, isiO, tyN, isSub, knownTy, tO, tsO, wipeP]
    · have h' : ¬ t = x := fun e => h e.symm
      simp [ev_var, ev_int, ev_bl, ev_non, ev_str, ev_gint, ev_gstr, ev_bin, ev_neg, ev_cmp, ev_chain, ev_and, ev_or, ev_not, ev_ite, ev_tup, ev_lst, ev_ix, ev_call, ev_blt, ev_isi, ev_meth, ev_slc, evL, evI, ixO, itemsO, lisO, ixN, binO, binIO, cmpO, cmpIO, isBl, isInt, bltO, methO, eqO, isNon, isNonE, slcO, isiO, tyN, isSub, knownTy, tO, tsO, wipeP, h, h']
theorem all_flat (ls : List Int) : (ls.map PV.int).all flat = true := by
  rw [List.all_map, List.all_eq_true]; intro x _; rfl
/-- t in lot -/
theorem ev_in {G : Orc} {a b : E} {p : PSt} {t : Int} {ls : List Int} (h1 : ev G a p = some (.int t)) (h2 : ev G b p = some (vi ls)) : ev G (.cmp .In a b) p = some (.bl (decide (t ∈ ls))) := by
  rw [ev_cmp, h1, h2]
  simp only [Option.bind_some, cmpO, itemsO]
  rw [if_pos ⟨rfl, all_flat ls⟩, in_any]
  rfl
theorem zip_rows : ∀ (ls : List Int) (rs : List (List Int)), zipL (ls.map PV.int) (rs.map vi) = (ls.zip rs).map fun p => .tup [.int p.1, vi p.2]
  | [], rs => by cases rs <;> rfl
  | x :: ls, [] => rfl
  | x :: ls, r :: rs => by simp only [List.map_cons, zipL, List.zip_cons_cons, zip_rows ls rs]
theorem cutP_drop {xs : List PV} {n : Int} (h : 0 ≤ n) : cutP xs (some n) none = xs.drop n.toNat := by
  have e1 : sIx xs.length 0 (some n) = min n.toNat xs.length := by
    simp only [sIx]
    rw [if_neg (by omega)]
  have e2 : sIx xs.length xs.length none = xs.length := by unfold sIx; rfl
  unfold cutP
  rw [e1, e2]
  by_cases hc : n.toNat ≤ xs.length
  · rw [Nat.min_eq_left hc, List.take_of_length_le (by simp [ev_var, ev_int, ev_bl, ev_non, ev_str, ev_gint, ev_gstr, ev_bin, ev_neg, ev_cmp, ev_chain, ev_and, ev_or, ev_not, ev_ite, ev_tup, ev_lst, ev_ix, ev_call, ev_blt, ev_isi, ev_meth, ev_slc, evL, evI, ixO, itemsO, lisO, ixN, binO, binIO, cmpO, cmpIO, isBl, isInt, bltO, methO, eqO, isNon, isNonE, slcO, isiO, tyN, isSub, knownTy, tO, tsO, wipeP])]
  · rw [Nat.min_eq_right (by omega), List.drop_length, List.drop_of_length_le (by omega)]
    simp [ev_var, ev_int, ev_bl, ev_non, ev_str, ev_gint, ev_gstr, ev_bin, ev_neg, ev_cmp, ev_chain, ev_and, ev_or, ev_not, ev_ite, ev_tup, ev_lst, ev_ix, ev_call, ev_blt, ev_isi, ev_meth, ev_slc, evL, evI, ixO, itemsO, lisO, ixN, binO, binIO, cmpO, cmpIO, isBl, isInt, bltO, methO, eqO, isNon, isNonE, slcO, isiO, tyN, isSub, knownTy, tO, tsO, wipeP]
theorem cutP_last {xs : List PV} {n : Int} (h : n < 0) : cutP xs (some n) none = xs.drop (n + xs.length).toNat := by
  have e1 : sIx xs.length 0 (some n) = (n + xs.length).toNat := by
    simp only [sIx]
    rw [if_pos h]
  have e2 : sIx xs.length xs.length none = xs.length := by unfold sIx; rfl
  unfold cutP
  rw [e1, e2, List.take_of_length_le (by simp [ev_var, ev_int, ev_bl, ev_non, ev_str, ev_gint, ev_gstr, ev_bin, ev_neg, ev_cmp, ev_chain, ev_and, ev_or, ev_not, ev_ite, ev_tup, ev_lst, ev_ix, ev_call, ev_blt, ev_isi, ev_meth, ev_slc, evL, evI, ixO, itemsO, lisO, ixN, binO, binIO, cmpO, cmpIO, isBl, isInt, bltO, methO, eqO, isNon, isNonE, slcO, isiO, tyN, isSub, knownTy, tO, tsO, wipeP])]
theorem drop_vi (ls : List Int) (n : Nat) : (ls.map PV.int).drop n = (ls.drop n).map PV.int := by rw [List.map_drop]
/-! ### one day, by the program -/
/-- led_row -/
theorem pc29 {rs : List (List Int)} {a : Int} {last : Int} {ls : List Int} (h2 : 2 ≤ rs.length) (h6 : rs.length ≤ 6) (hl : ls.length ≤ 100) (w day : Nat) (d : Nat) : PC tbl (d + 1) 29 [(PR.row rs a).v, .int last, vi ls] (.tup [(ledR w day last (.row rs a) (.row ls)).1.v, .int (ledR w day last (.row rs a) (.row ls)).2]) := fun st Q X hq => by
  refine wF_runE 3 8 b29 [some (PR.row rs a).v, some (.int last), some (vi ls), none, none, none, none, none] rfl rfl (by decide) rfl (seqE (asgG noG_ok (v := vi (ls ++ [last])) ?_ (by simp [ev_var, ev_int, ev_bl, ev_non, ev_str, ev_gint, ev_gstr, ev_bin, ev_neg, ev_cmp, ev_chain, ev_and, ev_or, ev_not, ev_ite, ev_tup, ev_lst, ev_ix, ev_call, ev_blt, ev_isi, ev_meth, ev_slc, evL, evI, ixO, itemsO, lisO, ixN, binO, binIO, cmpO, cmpIO, isBl, isInt, bltO, methO, eqO, isNon, isNonE, slcO, isiO, tyN, isSub, knownTy, tO, tsO, wipeP]) ?_))
  · have : ls.length + 1 ≤ 16777216 := by omega
    simp [ev_var, ev_int, ev_bl, ev_non, ev_str, ev_gint, ev_gstr, ev_bin, ev_neg, ev_cmp, ev_chain, ev_and, ev_or, ev_not, ev_ite, ev_tup, ev_lst, ev_ix, ev_call, ev_blt, ev_isi, ev_meth, ev_slc, evL, evI, ixO, itemsO, lisO, ixN, binO, binIO, cmpO, cmpIO, isBl, isInt, bltO, methO, eqO, isNon, isNonE, slcO, isiO, tyN, isSub, knownTy, tO, tsO, wipeP, this]
  refine seqE (asgG noG_ok (v := vb rs) (by simp [ev_var, ev_int, ev_bl, ev_non, ev_str, ev_gint, ev_gstr, ev_bin, ev_neg, ev_cmp, ev_chain, ev_and, ev_or, ev_not, ev_ite, ev_tup, ev_lst, ev_ix, ev_call, ev_blt, ev_isi, ev_meth, ev_slc, evL, evI, ixO, itemsO, lisO, ixN, binO, binIO, cmpO, cmpIO, isBl, isInt, bltO, methO, eqO, isNon, isNonE, slcO, isiO, tyN, isSub, knownTy, tO, tsO, wipeP, PR.v]) (by simp [ev_var, ev_int, ev_bl, ev_non, ev_str, ev_gint, ev_gstr, ev_bin, ev_neg, ev_cmp, ev_chain, ev_and, ev_or, ev_not, ev_ite, ev_tup, ev_lst, ev_ix, ev_call, ev_blt, ev_isi, ev_meth, ev_slc, evL, evI, ixO, itemsO, lisO, ixN, binO, binIO, cmpO, cmpIO, isBl, isInt, bltO, methO, eqO, isNon, isNonE, slcO, isiO, tyN, isSub, knownTy, tO, tsO, wipeP]) ?_)
  show wS _ _ ⟨[some (PR.row rs a).v, some (.int last), some (vi ls), some (vi (ls ++ [last])), some (vb rs), none, none, none], st⟩ _
  have h1 := ev_lcA (G := noG) (p := ⟨[some (PR.row rs a).v, some (.int last), some (vi ls), some (vi (ls ++ [last])), some (vb rs), none, none, none], st⟩) (own := [("one", 6), ("lot", 7)]) (tg := .tup (.cons (.name 6) (.cons (.name 7) .nil))) (it := .zip (.var 3) (.var 4)) (e := .cmp .In (.var 6) (.var 7)) (fun p : Int × List Int => .tup [.int p.1, vi p.2]) (fun p => .bl (decide (p.1 ∈ p.2))) ((ls ++ [last]).zip rs) (by
    have := zip_rows (ls ++ [last]) rs
    rw [List.map_append] at this
    simp [ev_var, ev_int, ev_bl, ev_non, ev_str, ev_gint, ev_gstr, ev_bin, ev_neg, ev_cmp, ev_chain, ev_and, ev_or, ev_not, ev_ite, ev_tup, ev_lst, ev_ix, ev_call, ev_blt, ev_isi, ev_meth, ev_slc, evL, evI, ixO, itemsO, lisO, ixN, binO, binIO, cmpO, cmpIO, isBl, isInt, bltO, methO, eqO, isNon, isNonE, slcO, isiO, tyN, isSub, knownTy, tO, tsO, wipeP, isTup]
    simpa [ev_var, ev_int, ev_bl, ev_non, ev_str, ev_gint, ev_gstr, ev_bin, ev_neg, ev_cmp, ev_chain, ev_and, ev_or, ev_not, ev_ite, ev_tup, ev_lst, ev_ix, ev_call, ev_blt, ev_isi, ev_meth, ev_slc, evL, evI, ixO, itemsO, lisO, ixN, binO, binIO, cmpO, cmpIO, isBl, isInt, bltO, methO, eqO, isNon, isNonE, slcO, isiO, tyN, isSub, knownTy, tO, tsO, wipeP] using this) (by simp [ev_var, ev_int, ev_bl, ev_non, ev_str, ev_gint, ev_gstr, ev_bin, ev_neg, ev_cmp, ev_chain, ev_and, ev_or, ev_not, ev_ite, ev_tup, ev_lst, ev_ix, ev_call, ev_blt, ev_isi, ev_meth, ev_slc, evL, evI, ixO, itemsO, lisO, ixN, binO, binIO, cmpO, cmpIO, isBl, isInt, bltO, methO, eqO, isNon, isNonE, slcO, isiO, tyN, isSub, knownTy, tO, tsO, wipeP]; omega) fun p hp => ⟨_, by simp [ev_var, ev_int, ev_bl, ev_non, ev_str, ev_gint, ev_gstr, ev_bin, ev_neg, ev_cmp, ev_chain, ev_and, ev_or, ev_not, ev_ite, ev_tup, ev_lst, ev_ix, ev_call, ev_blt, ev_isi, ev_meth, ev_slc, evL, evI, ixO, itemsO, lisO, ixN, binO, binIO, cmpO, cmpIO, isBl, isInt, bltO, methO, eqO, isNon, isNonE, slcO, isiO, tyN, isSub, knownTy, tO, tsO, wipeP]; rfl, ev_in (t := p.1) (by simp [ev_var, ev_int, ev_bl, ev_non, ev_str, ev_gint, ev_gstr, ev_bin, ev_neg, ev_cmp, ev_chain, ev_and, ev_or, ev_not, ev_ite, ev_tup, ev_lst, ev_ix, ev_call, ev_blt, ev_isi, ev_meth, ev_slc, evL, evI, ixO, itemsO, lisO, ixN, binO, binIO, cmpO, cmpIO, isBl, isInt, bltO, methO, eqO, isNon, isNonE, slcO, isiO, tyN, isSub, knownTy, tO, tsO, wipeP]) (by simp [ev_var, ev_int, ev_bl, ev_non, ev_str, ev_gint, ev_gstr, ev_bin, ev_neg, ev_cmp, ev_chain, ev_and, ev_or, ev_not, ev_ite, ev_tup, ev_lst, ev_ix, ev_call, ev_blt, ev_isi, ev_meth, ev_slc, evL, evI, ixO, itemsO, lisO, ixN, binO, binIO, cmpO, cmpIO, isBl, isInt, bltO, methO, eqO, isNon, isNonE, slcO, isiO, tyN, isSub, knownTy, tO, tsO, wipeP])⟩
  have a1 := ev_all (m := false) (k := fun p : Int × List Int => decide (p.1 ∈ p.2)) h1
  refine seqE (asgG noG_ok (v := .bl (decide ((ls ++ [last]).length = rs.length) && ((ls ++ [last]).zip rs).all fun p => decide (p.1 ∈ p.2))) ?_ (by simp [ev_var, ev_int, ev_bl, ev_non, ev_str, ev_gint, ev_gstr, ev_bin, ev_neg, ev_cmp, ev_chain, ev_and, ev_or, ev_not, ev_ite, ev_tup, ev_lst, ev_ix, ev_call, ev_blt, ev_isi, ev_meth, ev_slc, evL, evI, ixO, itemsO, lisO, ixN, binO, binIO, cmpO, cmpIO, isBl, isInt, bltO, methO, eqO, isNon, isNonE, slcO, isiO, tyN, isSub, knownTy, tO, tsO, wipeP]) ?_)
  · by_cases hc : ls.length + 1 = rs.length
    · have hc' : (ls.length : Int) + 1 = rs.length := by omega
      simp [ev_var, ev_int, ev_bl, ev_non, ev_str, ev_gint, ev_gstr, ev_bin, ev_neg, ev_cmp, ev_chain, ev_and, ev_or, ev_not, ev_ite, ev_tup, ev_lst, ev_ix, ev_call, ev_blt, ev_isi, ev_meth, ev_slc, evL, evI, ixO, itemsO, lisO, ixN, binO, binIO, cmpO, cmpIO, isBl, isInt, bltO, methO, eqO, isNon, isNonE, slcO, isiO, tyN, isSub, knownTy, tO, tsO, wipeP, ↓a1, hc, hc']
    · have hc' : ¬ (ls.length : Int) + 1 = rs.length := by omega
      simp [ev_var, ev_int, ev_bl, ev_non, ev_str, ev_gint, ev_gstr, ev_bin, ev_neg, ev_cmp, ev_chain, ev_and, ev_or, ev_not, ev_ite, ev_tup, ev_lst, ev_ix, ev_call, ev_blt, ev_isi, ev_meth, ev_slc, evL, evI, ixO, itemsO, lisO, ixN, binO, binIO, cmpO, cmpIO, isBl, isInt, bltO, methO, eqO, isNon, isNonE, slcO, isiO, tyN, isSub, knownTy, tO, tsO, wipeP, ↓a1, hc, hc']
  show wS _ _ ⟨[some (PR.row rs a).v, some (.int last), some (vi ls), some (vi (ls ++ [last])), some (vb rs), some (.bl (decide ((ls ++ [last]).length = rs.length) && ((ls ++ [last]).zip rs).all fun p => decide (p.1 ∈ p.2))), none, none], st⟩ _
  refine seqE (retG noG_ok (v := .tup [(ledR w day last (.row rs a) (.row ls)).1.v, .int (ledR w day last (.row rs a) (.row ls)).2]) ?_ hq)
  have ec : cutP ((ls ++ [last]).map PV.int) (some (-((rs.length : Int) - 1))) none = ((ls ++ [last]).drop ((ls ++ [last]).length - (rs.length - 1))).map PV.int := by
    rw [cutP_last (by omega), ← drop_vi]
    congr 1
    simp [ev_var, ev_int, ev_bl, ev_non, ev_str, ev_gint, ev_gstr, ev_bin, ev_neg, ev_cmp, ev_chain, ev_and, ev_or, ev_not, ev_ite, ev_tup, ev_lst, ev_ix, ev_call, ev_blt, ev_isi, ev_meth, ev_slc, evL, evI, ixO, itemsO, lisO, ixN, binO, binIO, cmpO, cmpIO, isBl, isInt, bltO, methO, eqO, isNon, isNonE, slcO, isiO, tyN, isSub, knownTy, tO, tsO, wipeP]
    omega
  have es : ev noG (.slc false (.var 3) (.neg (.bin .Sub false (.blt .len false (.cons (.var 4) .nil)) (.int 1))) .non) ⟨[some (PR.row rs a).v, some (.int last), some (vi ls), some (vi (ls ++ [last])), some (vb rs), some (.bl (decide ((ls ++ [last]).length = rs.length) && ((ls ++ [last]).zip rs).all fun p => decide (p.1 ∈ p.2))), none, none], st⟩ = some (vi ((ls ++ [last]).drop ((ls ++ [last]).length - (rs.length - 1)))) := by
    rw [show vi ((ls ++ [last]).drop ((ls ++ [last]).length - (rs.length - 1))) = .tup (cutP ((ls ++ [last]).map PV.int) (some (-((rs.length : Int) - 1))) none) by rw [ec]]
    simp [ev_var, ev_int, ev_bl, ev_non, ev_str, ev_gint, ev_gstr, ev_bin, ev_neg, ev_cmp, ev_chain, ev_and, ev_or, ev_not, ev_ite, ev_tup, ev_lst, ev_ix, ev_call, ev_blt, ev_isi, ev_meth, ev_slc, evL, evI, ixO, itemsO, lisO, ixN, binO, binIO, cmpO, cmpIO, isBl, isInt, bltO, methO, eqO, isNon, isNonE, slcO, isiO, tyN, isSub, knownTy, tO, tsO, wipeP]
  have ei : ev noG (.ite (.var 5) (.ix (.var 0) (.int 2)) (.int 0)) ⟨[some (PR.row rs a).v, some (.int last), some (vi ls), some (vi (ls ++ [last])), some (vb rs), some (.bl (decide ((ls ++ [last]).length = rs.length) && ((ls ++ [last]).zip rs).all fun p => decide (p.1 ∈ p.2))), none, none], st⟩ = some (.int (ledR w day last (.row rs a) (.row ls)).2) := by
    simp only [ledR]
    generalize hX : (((ls ++ [last]).zip rs).all fun p => decide (p.1 ∈ p.2)) = X
    by_cases hc : ls.length + 1 = rs.length <;> cases X <;> simp [ev_var, ev_int, ev_bl, ev_non, ev_str, ev_gint, ev_gstr, ev_bin, ev_neg, ev_cmp, ev_chain, ev_and, ev_or, ev_not, ev_ite, ev_tup, ev_lst, ev_ix, ev_call, ev_blt, ev_isi, ev_meth, ev_slc, evL, evI, ixO, itemsO, lisO, ixN, binO, binIO, cmpO, cmpIO, isBl, isInt, bltO, methO, eqO, isNon, isNonE, slcO, isiO, tyN, isSub, knownTy, tO, tsO, wipeP, hc, PR.v]
  rw [ev_tup, evL, es, evL, ei, evL]
  simp [ev_var, ev_int, ev_bl, ev_non, ev_str, ev_gint, ev_gstr, ev_bin, ev_neg, ev_cmp, ev_chain, ev_and, ev_or, ev_not, ev_ite, ev_tup, ev_lst, ev_ix, ev_call, ev_blt, ev_isi, ev_meth, ev_slc, evL, evI, ixO, itemsO, lisO, ixN, binO, binIO, cmpO, cmpIO, isBl, isInt, bltO, methO, eqO, isNon, isNonE, slcO, isiO, tyN, isSub, knownTy, tO, tsO, wipeP, ledR, Kp.v]
/-- led_over -/
theorem pc30 {ls : List Int} {m a : Int} {last n : Int} {w day : Nat} (hw : 0 < w) (d : Nat) : PC tbl (d + 1) 30 [(PR.over ls m a).v, .int w, .int day, .int last, .int n] (.tup [(ledR w day last (.over ls m a) (.cnt n)).1.v, .int (ledR w day last (.over ls m a) (.cnt n)).2]) := fun st Q X hq => by
  have h1 := ev_in (G := noG) (a := .var 3) (b := .ix (.var 0) (.int 1)) (p := ⟨[some (PR.over ls m a).v, some (.int w), some (.int day), some (.int last), some (.int n), none, none, none], st⟩) (t := last) (ls := ls) (by simp [ev_var, ev_int, ev_bl, ev_non, ev_str, ev_gint, ev_gstr, ev_bin, ev_neg, ev_cmp, ev_chain, ev_and, ev_or, ev_not, ev_ite, ev_tup, ev_lst, ev_ix, ev_call, ev_blt, ev_isi, ev_meth, ev_slc, evL, evI, ixO, itemsO, lisO, ixN, binO, binIO, cmpO, cmpIO, isBl, isInt, bltO, methO, eqO, isNon, isNonE, slcO, isiO, tyN, isSub, knownTy, tO, tsO, wipeP]) (by simp [ev_var, ev_int, ev_bl, ev_non, ev_str, ev_gint, ev_gstr, ev_bin, ev_neg, ev_cmp, ev_chain, ev_and, ev_or, ev_not, ev_ite, ev_tup, ev_lst, ev_ix, ev_call, ev_blt, ev_isi, ev_meth, ev_slc, evL, evI, ixO, itemsO, lisO, ixN, binO, binIO, cmpO, cmpIO, isBl, isInt, bltO, methO, eqO, isNon, isNonE, slcO, isiO, tyN, isSub, knownTy, tO, tsO, wipeP, PR.v])
  refine wF_runE 5 8 b30 [some (PR.over ls m a).v, some (.int w), some (.int day), some (.int last), some (.int n), none, none, none] rfl rfl (by decide) rfl (seqE (asgG noG_ok h1 (by simp [ev_var, ev_int, ev_bl, ev_non, ev_str, ev_gint, ev_gstr, ev_bin, ev_neg, ev_cmp, ev_chain, ev_and, ev_or, ev_not, ev_ite, ev_tup, ev_lst, ev_ix, ev_call, ev_blt, ev_isi, ev_meth, ev_slc, evL, evI, ixO, itemsO, lisO, ixN, binO, binIO, cmpO, cmpIO, isBl, isInt, bltO, methO, eqO, isNon, isNonE, slcO, isiO, tyN, isSub, knownTy, tO, tsO, wipeP]) ?_))
  show wS _ _ ⟨[some (PR.over ls m a).v, some (.int w), some (.int day), some (.int last), some (.int n), some (.bl (decide (last ∈ ls))), none, none], st⟩ _
  have hd : (((day : Int) = (w : Int) - 1)) = (day + 1 = w) := propext ⟨fun h => by omega, fun h => by omega⟩
  refine seqE (asgG noG_ok (v := .int (if last ∈ ls ∧ n = m then a else 0)) ?_ (by simp [ev_var, ev_int, ev_bl, ev_non, ev_str, ev_gint, ev_gstr, ev_bin, ev_neg, ev_cmp, ev_chain, ev_and, ev_or, ev_not, ev_ite, ev_tup, ev_lst, ev_ix, ev_call, ev_blt, ev_isi, ev_meth, ev_slc, evL, evI, ixO, itemsO, lisO, ixN, binO, binIO, cmpO, cmpIO, isBl, isInt, bltO, methO, eqO, isNon, isNonE, slcO, isiO, tyN, isSub, knownTy, tO, tsO, wipeP]) ?_)
  · by_cases h : last ∈ ls <;> by_cases h2 : n = m <;> simp [ev_var, ev_int, ev_bl, ev_non, ev_str, ev_gint, ev_gstr, ev_bin, ev_neg, ev_cmp, ev_chain, ev_and, ev_or, ev_not, ev_ite, ev_tup, ev_lst, ev_ix, ev_call, ev_blt, ev_isi, ev_meth, ev_slc, evL, evI, ixO, itemsO, lisO, ixN, binO, binIO, cmpO, cmpIO, isBl, isInt, bltO, methO, eqO, isNon, isNonE, slcO, isiO, tyN, isSub, knownTy, tO, tsO, wipeP, h, h2, PR.v]
  refine seqE (asgG noG_ok (v := .int (if last ∈ ls then min m (n + 1) else n)) ?_ (by simp [ev_var, ev_int, ev_bl, ev_non, ev_str, ev_gint, ev_gstr, ev_bin, ev_neg, ev_cmp, ev_chain, ev_and, ev_or, ev_not, ev_ite, ev_tup, ev_lst, ev_ix, ev_call, ev_blt, ev_isi, ev_meth, ev_slc, evL, evI, ixO, itemsO, lisO, ixN, binO, binIO, cmpO, cmpIO, isBl, isInt, bltO, methO, eqO, isNon, isNonE, slcO, isiO, tyN, isSub, knownTy, tO, tsO, wipeP]) ?_)
  · by_cases h : last ∈ ls
    · simp [ev_var, ev_int, ev_bl, ev_non, ev_str, ev_gint, ev_gstr, ev_bin, ev_neg, ev_cmp, ev_chain, ev_and, ev_or, ev_not, ev_ite, ev_tup, ev_lst, ev_ix, ev_call, ev_blt, ev_isi, ev_meth, ev_slc, evL, evI, ixO, itemsO, lisO, ixN, binO, binIO, cmpO, cmpIO, isBl, isInt, bltO, methO, eqO, isNon, isNonE, slcO, isiO, tyN, isSub, knownTy, tO, tsO, wipeP, h, PR.v]
      omega
    · simp [ev_var, ev_int, ev_bl, ev_non, ev_str, ev_gint, ev_gstr, ev_bin, ev_neg, ev_cmp, ev_chain, ev_and, ev_or, ev_not, ev_ite, ev_tup, ev_lst, ev_ix, ev_call, ev_blt, ev_isi, ev_meth, ev_slc, evL, evI, ixO, itemsO, lisO, ixN, binO, binIO, cmpO, cmpIO, isBl, isInt, bltO, methO, eqO, isNon, isNonE, slcO, isiO, tyN, isSub, knownTy, tO, tsO, wipeP, h, PR.v]
  refine seqE (retG noG_ok (v := .tup [(ledR w day last (.over ls m a) (.cnt n)).1.v, .int (ledR w day last (.over ls m a) (.cnt n)).2]) ?_ hq)
  by_cases h : day + 1 = w
  · simp [ev_var, ev_int, ev_bl, ev_non, ev_str, ev_gint, ev_gstr, ev_bin, ev_neg, ev_cmp, ev_chain, ev_and, ev_or, ev_not, ev_ite, ev_tup, ev_lst, ev_ix, ev_call, ev_blt, ev_isi, ev_meth, ev_slc, evL, evI, ixO, itemsO, lisO, ixN, binO, binIO, cmpO, cmpIO, isBl, isInt, bltO, methO, eqO, isNon, isNonE, slcO, isiO, tyN, isSub, knownTy, tO, tsO, wipeP, ledR, Kp.v, hd, h]
  · simp [ev_var, ev_int, ev_bl, ev_non, ev_str, ev_gint, ev_gstr, ev_bin, ev_neg, ev_cmp, ev_chain, ev_and, ev_or, ev_not, ev_ite, ev_tup, ev_lst, ev_ix, ev_call, ev_blt, ev_isi, ev_meth, ev_slc, evL, evI, ixO, itemsO, lisO, ixN, binO, binIO, cmpO, cmpIO, isBl, isInt, bltO, methO, eqO, isNon, isNonE, slcO, isiO, tyN, isSub, knownTy, tO, tsO, wipeP, ledR, Kp.v, hd, h]
theorem sk5 : ¬ ("row" : PySem.Str) = "over" := by decide +kernel
theorem sk6 : ¬ ("each" : PySem.Str) = "over" := by decide +kernel
/-- led_pay_rule -/
theorem pc28 {w : Nat} {sh : Int} (hw : 0 < w) (r : PR) (hr : PrOk w sh r) (line : List Int) (hl : line.length ≤ 900) (last : Int) (d : Nat) :
    PC tbl (d + 2) 28 [r.v, .int w, .int ((line.length % w : Nat) : Int), .int last, (keeps w line r).v] (.tup [(keeps w (line ++ [last]) r).v, .int (brings w line last r)]) := fun st Q X hq => by
  have hok : r.ok := by cases r <;> simp only [PR.ok, PrOk] at hr ⊢ <;> first | exact hr.1 | exact hr.2.1
  have hled := led_is hw line last r hok
  cases r with
  | each ls a =>
    have h1 := ev_in (G := noG) (a := .var 3) (b := .ix (.var 0) (.int 1)) (p := ⟨[some (PR.each ls a).v, some (.int w), some (.int ((line.length % w : Nat) : Int)), some (.int last), some (keeps w line (.each ls a)).v], st⟩) (t := last) (ls := ls) (by simp [ev_var, ev_int, ev_bl, ev_non, ev_str, ev_gint, ev_gstr, ev_bin, ev_neg, ev_cmp, ev_chain, ev_and, ev_or, ev_not, ev_ite, ev_tup, ev_lst, ev_ix, ev_call, ev_blt, ev_isi, ev_meth, ev_slc, evL, evI, ixO, itemsO, lisO, ixN, binO, binIO, cmpO, cmpIO, isBl, isInt, bltO, methO, eqO, isNon, isNonE, slcO, isiO, tyN, isSub, knownTy, tO, tsO, wipeP]) (by simp [ev_var, ev_int, ev_bl, ev_non, ev_str, ev_gint, ev_gstr, ev_bin, ev_neg, ev_cmp, ev_chain, ev_and, ev_or, ev_not, ev_ite, ev_tup, ev_lst, ev_ix, ev_call, ev_blt, ev_isi, ev_meth, ev_slc, evL, evI, ixO, itemsO, lisO, ixN, binO, binIO, cmpO, cmpIO, isBl, isInt, bltO, methO, eqO, isNon, isNonE, slcO, isiO, tyN, isSub, knownTy, tO, tsO, wipeP, PR.v])
    refine wF_runE 5 5 b28 [some (PR.each ls a).v, some (.int w), some (.int ((line.length % w : Nat) : Int)), some (.int last), some (keeps w line (.each ls a)).v] rfl rfl (by decide) rfl ?_
    refine seqE (iteG noG_ok true (by simp [ev_var, ev_int, ev_bl, ev_non, ev_str, ev_gint, ev_gstr, ev_bin, ev_neg, ev_cmp, ev_chain, ev_and, ev_or, ev_not, ev_ite, ev_tup, ev_lst, ev_ix, ev_call, ev_blt, ev_isi, ev_meth, ev_slc, evL, evI, ixO, itemsO, lisO, ixN, binO, binIO, cmpO, cmpIO, isBl, isInt, bltO, methO, eqO, isNon, isNonE, slcO, isiO, tyN, isSub, knownTy, tO, tsO, wipeP, PR.v, sk1]) (fun _ => ?_) (fun z => by cases z))
    refine seqE (retG noG_ok (v := .tup [(keeps w (line ++ [last]) (.each ls a)).v, .int (brings w line last (.each ls a))]) ?_ hq)
    generalize hD : ((line.length % w : Nat) : Int) = D at h1 ⊢
    simp only [PR.v, keeps, Kp.v] at h1 ⊢
    by_cases h : last ∈ ls <;> simp [ev_var, ev_int, ev_bl, ev_non, ev_str, ev_gint, ev_gstr, ev_bin, ev_neg, ev_cmp, ev_chain, ev_and, ev_or, ev_not, ev_ite, ev_tup, ev_lst, ev_ix, ev_call, ev_blt, ev_isi, ev_meth, ev_slc, evL, evI, ixO, itemsO, lisO, ixN, binO, binIO, cmpO, cmpIO, isBl, isInt, bltO, methO, eqO, isNon, isNonE, slcO, isiO, tyN, isSub, knownTy, tO, tsO, wipeP, ↓h1, h, brings]
  | row rs a =>
    obtain ⟨h2, h6, _⟩ := hr
    refine wF_runE 5 5 b28 [some (PR.row rs a).v, some (.int w), some (.int ((line.length % w : Nat) : Int)), some (.int last), some (keeps w line (.row rs a)).v] rfl rfl (by decide) rfl ?_
    refine seqE (iteG noG_ok false (by simp [ev_var, ev_int, ev_bl, ev_non, ev_str, ev_gint, ev_gstr, ev_bin, ev_neg, ev_cmp, ev_chain, ev_and, ev_or, ev_not, ev_ite, ev_tup, ev_lst, ev_ix, ev_call, ev_blt, ev_isi, ev_meth, ev_slc, evL, evI, ixO, itemsO, lisO, ixN, binO, binIO, cmpO, cmpIO, isBl, isInt, bltO, methO, eqO, isNon, isNonE, slcO, isiO, tyN, isSub, knownTy, tO, tsO, wipeP, PR.v, sk1, sk2, kw1]) (fun z => by cases z) (fun _ => nopE (F := wF tbl (d + 1)) ?_))
    refine seqE (iteG noG_ok true (by simp [ev_var, ev_int, ev_bl, ev_non, ev_str, ev_gint, ev_gstr, ev_bin, ev_neg, ev_cmp, ev_chain, ev_and, ev_or, ev_not, ev_ite, ev_tup, ev_lst, ev_ix, ev_call, ev_blt, ev_isi, ev_meth, ev_slc, evL, evI, ixO, itemsO, lisO, ixN, binO, binIO, cmpO, cmpIO, isBl, isInt, bltO, methO, eqO, isNon, isNonE, slcO, isiO, tyN, isSub, knownTy, tO, tsO, wipeP, PR.v, sk2]) (fun _ => ?_) (fun z => by cases z))
    refine seqE ?_
    rw [wS]
    refine e_pc (pc29 (rs := rs) (a := a) (last := last) (ls := line.drop (line.length + 1 - rs.length)) h2 h6 (by rw [List.length_drop]; omega) w (line.length % w) d) (by simp [ev_var, ev_int, ev_bl, ev_non, ev_str, ev_gint, ev_gstr, ev_bin, ev_neg, ev_cmp, ev_chain, ev_and, ev_or, ev_not, ev_ite, ev_tup, ev_lst, ev_ix, ev_call, ev_blt, ev_isi, ev_meth, ev_slc, evL, evI, ixO, itemsO, lisO, ixN, binO, binIO, cmpO, cmpIO, isBl, isInt, bltO, methO, eqO, isNon, isNonE, slcO, isiO, tyN, isSub, knownTy, tO, tsO, wipeP, keeps, Kp.v]) ?_
    have hled : ledR w (line.length % w) last (.row rs a) (.row (line.drop (line.length + 1 - rs.length))) = _ := hled
    rw [hled]
    exact hq
  | over ls m a =>
    refine wF_runE 5 5 b28 [some (PR.over ls m a).v, some (.int w), some (.int ((line.length % w : Nat) : Int)), some (.int last), some (keeps w line (.over ls m a)).v] rfl rfl (by decide) rfl ?_
    refine seqE (iteG noG_ok false (by simp [ev_var, ev_int, ev_bl, ev_non, ev_str, ev_gint, ev_gstr, ev_bin, ev_neg, ev_cmp, ev_chain, ev_and, ev_or, ev_not, ev_ite, ev_tup, ev_lst, ev_ix, ev_call, ev_blt, ev_isi, ev_meth, ev_slc, evL, evI, ixO, itemsO, lisO, ixN, binO, binIO, cmpO, cmpIO, isBl, isInt, bltO, methO, eqO, isNon, isNonE, slcO, isiO, tyN, isSub, knownTy, tO, tsO, wipeP, PR.v, sk1, sk3, kw2]) (fun z => by cases z) (fun _ => nopE (F := wF tbl (d + 1)) ?_))
    refine seqE (iteG noG_ok false (by simp [ev_var, ev_int, ev_bl, ev_non, ev_str, ev_gint, ev_gstr, ev_bin, ev_neg, ev_cmp, ev_chain, ev_and, ev_or, ev_not, ev_ite, ev_tup, ev_lst, ev_ix, ev_call, ev_blt, ev_isi, ev_meth, ev_slc, evL, evI, ixO, itemsO, lisO, ixN, binO, binIO, cmpO, cmpIO, isBl, isInt, bltO, methO, eqO, isNon, isNonE, slcO, isiO, tyN, isSub, knownTy, tO, tsO, wipeP, PR.v, sk2, sk3, kw3]) (fun z => by cases z) (fun _ => nopE (F := wF tbl (d + 1)) ?_))
    refine seqE (iteG noG_ok true (by simp [ev_var, ev_int, ev_bl, ev_non, ev_str, ev_gint, ev_gstr, ev_bin, ev_neg, ev_cmp, ev_chain, ev_and, ev_or, ev_not, ev_ite, ev_tup, ev_lst, ev_ix, ev_call, ev_blt, ev_isi, ev_meth, ev_slc, evL, evI, ixO, itemsO, lisO, ixN, binO, binIO, cmpO, cmpIO, isBl, isInt, bltO, methO, eqO, isNon, isNonE, slcO, isiO, tyN, isSub, knownTy, tO, tsO, wipeP, PR.v, sk3]) (fun _ => ?_) (fun z => by cases z))
    refine seqE ?_
    rw [wS]
    refine e_pc (pc30 (ls := ls) (m := m) (a := a) (last := last) (n := min m (((wk w line).filter fun l => decide (l ∈ ls)).length : Int)) (w := w) (day := line.length % w) hw d) (by simp [ev_var, ev_int, ev_bl, ev_non, ev_str, ev_gint, ev_gstr, ev_bin, ev_neg, ev_cmp, ev_chain, ev_and, ev_or, ev_not, ev_ite, ev_tup, ev_lst, ev_ix, ev_call, ev_blt, ev_isi, ev_meth, ev_slc, evL, evI, ixO, itemsO, lisO, ixN, binO, binIO, cmpO, cmpIO, isBl, isInt, bltO, methO, eqO, isNon, isNonE, slcO, isiO, tyN, isSub, knownTy, tO, tsO, wipeP, keeps, Kp.v]) ?_
    have hled : ledR w (line.length % w) last (.over ls m a) (.cnt (min m (((wk w line).filter fun l => decide (l ∈ ls)).length : Int))) = _ := hled
    rw [hled]
    exact hq
  | on ds ls a =>
    have h1 := ev_in (G := noG) (a := .var 3) (b := .ix (.var 0) (.int 2)) (p := ⟨[some (PR.on ds ls a).v, some (.int w), some (.int ((line.length % w : Nat) : Int)), some (.int last), some (keeps w line (.on ds ls a)).v], st⟩) (t := last) (ls := ls) (by simp [ev_var, ev_int, ev_bl, ev_non, ev_str, ev_gint, ev_gstr, ev_bin, ev_neg, ev_cmp, ev_chain, ev_and, ev_or, ev_not, ev_ite, ev_tup, ev_lst, ev_ix, ev_call, ev_blt, ev_isi, ev_meth, ev_slc, evL, evI, ixO, itemsO, lisO, ixN, binO, binIO, cmpO, cmpIO, isBl, isInt, bltO, methO, eqO, isNon, isNonE, slcO, isiO, tyN, isSub, knownTy, tO, tsO, wipeP]) (by simp [ev_var, ev_int, ev_bl, ev_non, ev_str, ev_gint, ev_gstr, ev_bin, ev_neg, ev_cmp, ev_chain, ev_and, ev_or, ev_not, ev_ite, ev_tup, ev_lst, ev_ix, ev_call, ev_blt, ev_isi, ev_meth, ev_slc, evL, evI, ixO, itemsO, lisO, ixN, binO, binIO, cmpO, cmpIO, isBl, isInt, bltO, methO, eqO, isNon, isNonE, slcO, isiO, tyN, isSub, knownTy, tO, tsO, wipeP, PR.v])
    have h0 := ev_in (G := noG) (a := .var 2) (b := .ix (.var 0) (.int 1)) (p := ⟨[some (PR.on ds ls a).v, some (.int w), some (.int ((line.length % w : Nat) : Int)), some (.int last), some (keeps w line (.on ds ls a)).v], st⟩) (t := ((line.length % w : Nat) : Int)) (ls := ds) (by simp [ev_var, ev_int, ev_bl, ev_non, ev_str, ev_gint, ev_gstr, ev_bin, ev_neg, ev_cmp, ev_chain, ev_and, ev_or, ev_not, ev_ite, ev_tup, ev_lst, ev_ix, ev_call, ev_blt, ev_isi, ev_meth, ev_slc, evL, evI, ixO, itemsO, lisO, ixN, binO, binIO, cmpO, cmpIO, isBl, isInt, bltO, methO, eqO, isNon, isNonE, slcO, isiO, tyN, isSub, knownTy, tO, tsO, wipeP]) (by simp [ev_var, ev_int, ev_bl, ev_non, ev_str, ev_gint, ev_gstr, ev_bin, ev_neg, ev_cmp, ev_chain, ev_and, ev_or, ev_not, ev_ite, ev_tup, ev_lst, ev_ix, ev_call, ev_blt, ev_isi, ev_meth, ev_slc, evL, evI, ixO, itemsO, lisO, ixN, binO, binIO, cmpO, cmpIO, isBl, isInt, bltO, methO, eqO, isNon, isNonE, slcO, isiO, tyN, isSub, knownTy, tO, tsO, wipeP, PR.v])
    refine wF_runE 5 5 b28 [some (PR.on ds ls a).v, some (.int w), some (.int ((line.length % w : Nat) : Int)), some (.int last), some (keeps w line (.on ds ls a)).v] rfl rfl (by decide) rfl ?_
    refine seqE (iteG noG_ok false (by simp [ev_var, ev_int, ev_bl, ev_non, ev_str, ev_gint, ev_gstr, ev_bin, ev_neg, ev_cmp, ev_chain, ev_and, ev_or, ev_not, ev_ite, ev_tup, ev_lst, ev_ix, ev_call, ev_blt, ev_isi, ev_meth, ev_slc, evL, evI, ixO, itemsO, lisO, ixN, binO, binIO, cmpO, cmpIO, isBl, isInt, bltO, methO, eqO, isNon, isNonE, slcO, isiO, tyN, isSub, knownTy, tO, tsO, wipeP, PR.v, sk1, sk4, kw4]) (fun z => by cases z) (fun _ => nopE (F := wF tbl (d + 1)) ?_))
    refine seqE (iteG noG_ok false (by simp [ev_var, ev_int, ev_bl, ev_non, ev_str, ev_gint, ev_gstr, ev_bin, ev_neg, ev_cmp, ev_chain, ev_and, ev_or, ev_not, ev_ite, ev_tup, ev_lst, ev_ix, ev_call, ev_blt, ev_isi, ev_meth, ev_slc, evL, evI, ixO, itemsO, lisO, ixN, binO, binIO, cmpO, cmpIO, isBl, isInt, bltO, methO, eqO, isNon, isNonE, slcO, isiO, tyN, isSub, knownTy, tO, tsO, wipeP, PR.v, sk2, sk4, kw5]) (fun z => by cases z) (fun _ => nopE (F := wF tbl (d + 1)) ?_))
    refine seqE (iteG noG_ok false (by simp [ev_var, ev_int, ev_bl, ev_non, ev_str, ev_gint, ev_gstr, ev_bin, ev_neg, ev_cmp, ev_chain, ev_and, ev_or, ev_not, ev_ite, ev_tup, ev_lst, ev_ix, ev_call, ev_blt, ev_isi, ev_meth, ev_slc, evL, evI, ixO, itemsO, lisO, ixN, binO, binIO, cmpO, cmpIO, isBl, isInt, bltO, methO, eqO, isNon, isNonE, slcO, isiO, tyN, isSub, knownTy, tO, tsO, wipeP, PR.v, sk3, sk4, kw6]) (fun z => by cases z) (fun _ => nopE (F := wF tbl (d + 1)) ?_))
    refine seqE (retG noG_ok (v := .tup [(keeps w (line ++ [last]) (.on ds ls a)).v, .int (brings w line last (.on ds ls a))]) ?_ hq)
    generalize hD : ((line.length % w : Nat) : Int) = D at h0 h1 ⊢
    simp only [PR.v, keeps, Kp.v, brings, hD] at h1 h0 ⊢
    by_cases h : last ∈ ls <;> by_cases h2 : D ∈ ds <;> simp [ev_var, ev_int, ev_bl, ev_non, ev_str, ev_gint, ev_gstr, ev_bin, ev_neg, ev_cmp, ev_chain, ev_and, ev_or, ev_not, ev_ite, ev_tup, ev_lst, ev_ix, ev_call, ev_blt, ev_isi, ev_meth, ev_slc, evL, evI, ixO, itemsO, lisO, ixN, binO, binIO, cmpO, cmpIO, isBl, isInt, bltO, methO, eqO, isNon, isNonE, slcO, isiO, tyN, isSub, knownTy, tO, tsO, wipeP, ↓h1, ↓h0, h, h2]
abbrev mem (w : Nat) (line : List Int) (t : List PR) : PV := .tup [.int ((line.length % w : Nat) : Int), .tup (t.map fun r => (keeps w line r).v)]
abbrev tv (t : List PR) : PV := .tup (t.map PR.v)
theorem zip_v (t : List PR) (w : Nat) (line : List Int) : zipL (t.map PR.v) (t.map fun r => (keeps w line r).v) = t.map fun r => .tup [r.v, (keeps w line r).v] := by
  induction t with
  | nil => rfl
  | cons r t ih => simp only [List.map_cons, zipL, ih]
/-- led_pay -/
theorem pc27 {w : Nat} {sh : Int} (hw : 0 < w) (t : List PR) (ht : ∀ r ∈ t, PrOk w sh r) (hl12 : t.length ≤ 12) (line : List Int) (hl : line.length ≤ 900) (last : Int) (d : Nat) :
    PC tbl (d + 3) 27 [.int w, tv t, mem w line t, .int last] (.tup [mem w (line ++ [last]) t, .int (daySum w t line last)]) := fun st Q X hq => by
  refine wF_runE 4 10 b27 [some (.int w), some (tv t), some (mem w line t), some (.int last), none, none, none, none, none, none] rfl rfl (by decide) rfl (seqE ?_)
  rw [wS]
  refine e0 (v := mem w line t) (by simp [ev_var, ev_int, ev_bl, ev_non, ev_str, ev_gint, ev_gstr, ev_bin, ev_neg, ev_cmp, ev_chain, ev_and, ev_or, ev_not, ev_ite, ev_tup, ev_lst, ev_ix, ev_call, ev_blt, ev_isi, ev_meth, ev_slc, evL, evI, ixO, itemsO, lisO, ixN, binO, binIO, cmpO, cmpIO, isBl, isInt, bltO, methO, eqO, isNon, isNonE, slcO, isiO, tyN, isSub, knownTy, tO, tsO, wipeP]) ?_
  refine tO_ok _ _ _ [some (.int w), some (tv t), some (mem w line t), some (.int last), none, some (.int ((line.length % w : Nat) : Int)), some (.tup (t.map fun r => (keeps w line r).v)), none, none, none] _ (by simp [ev_var, ev_int, ev_bl, ev_non, ev_str, ev_gint, ev_gstr, ev_bin, ev_neg, ev_cmp, ev_chain, ev_and, ev_or, ev_not, ev_ite, ev_tup, ev_lst, ev_ix, ev_call, ev_blt, ev_isi, ev_meth, ev_slc, evL, evI, ixO, itemsO, lisO, ixN, binO, binIO, cmpO, cmpIO, isBl, isInt, bltO, methO, eqO, isNon, isNonE, slcO, isiO, tyN, isSub, knownTy, tO, tsO, wipeP]) ?_
  refine seqE ?_
  rw [wS]
  refine wE_lcP (g := fun r => .tup [r.v, (keeps w line r).v]) (h := fun r => .tup [(keeps w (line ++ [last]) r).v, .int (brings w line last r)]) t (iP (by simp [ev_var, ev_int, ev_bl, ev_non, ev_str, ev_gint, ev_gstr, ev_bin, ev_neg, ev_cmp, ev_chain, ev_and, ev_or, ev_not, ev_ite, ev_tup, ev_lst, ev_ix, ev_call, ev_blt, ev_isi, ev_meth, ev_slc, evL, evI, ixO, itemsO, lisO, ixN, binO, binIO, cmpO, cmpIO, isBl, isInt, bltO, methO, eqO, isNon, isNonE, slcO, isiO, tyN, isSub, knownTy, tO, tsO, wipeP, isTup, zip_v])) (by omega) (fun r hr => ?_) ?_
  · refine ⟨_, by simp [ev_var, ev_int, ev_bl, ev_non, ev_str, ev_gint, ev_gstr, ev_bin, ev_neg, ev_cmp, ev_chain, ev_and, ev_or, ev_not, ev_ite, ev_tup, ev_lst, ev_ix, ev_call, ev_blt, ev_isi, ev_meth, ev_slc, evL, evI, ixO, itemsO, lisO, ixN, binO, binIO, cmpO, cmpIO, isBl, isInt, bltO, methO, eqO, isNon, isNonE, slcO, isiO, tyN, isSub, knownTy, tO, tsO, wipeP]; rfl, fun R hR => ?_⟩
    exact e_pc (pc28 hw r (ht r hr) line hl last d) (by simp [ev_var, ev_int, ev_bl, ev_non, ev_str, ev_gint, ev_gstr, ev_bin, ev_neg, ev_cmp, ev_chain, ev_and, ev_or, ev_not, ev_ite, ev_tup, ev_lst, ev_ix, ev_call, ev_blt, ev_isi, ev_meth, ev_slc, evL, evI, ixO, itemsO, lisO, ixN, binO, binIO, cmpO, cmpIO, isBl, isInt, bltO, methO, eqO, isNon, isNonE, slcO, isiO, tyN, isSub, knownTy, tO, tsO, wipeP]) hR
  rw [wT]
  refine ⟨by simp [ev_var, ev_int, ev_bl, ev_non, ev_str, ev_gint, ev_gstr, ev_bin, ev_neg, ev_cmp, ev_chain, ev_and, ev_or, ev_not, ev_ite, ev_tup, ev_lst, ev_ix, ev_call, ev_blt, ev_isi, ev_meth, ev_slc, evL, evI, ixO, itemsO, lisO, ixN, binO, binIO, cmpO, cmpIO, isBl, isInt, bltO, methO, eqO, isNon, isNonE, slcO, isiO, tyN, isSub, knownTy, tO, tsO, wipeP], ?_⟩
  show wS _ _ ⟨[some (.int w), some (tv t), some (mem w line t), some (.int last), some (.lst (t.map fun r => .tup [(keeps w (line ++ [last]) r).v, .int (brings w line last r)])), some (.int ((line.length % w : Nat) : Int)), some (.tup (t.map fun r => (keeps w line r).v)), none, none, none], st⟩ _
  have h1 := ev_lcA (G := noG) (p := ⟨[some (.int w), some (tv t), some (mem w line t), some (.int last), some (.lst (t.map fun r => .tup [(keeps w (line ++ [last]) r).v, .int (brings w line last r)])), some (.int ((line.length % w : Nat) : Int)), some (.tup (t.map fun r => (keeps w line r).v)), none, none, none], st⟩) (own := [("pair", 9)]) (tg := .name 9) (it := .seq (.var 4)) (e := .ix (.var 9) (.int 0)) (fun r => .tup [(keeps w (line ++ [last]) r).v, .int (brings w line last r)]) (fun r => (keeps w (line ++ [last]) r).v) t (by simp [ev_var, ev_int, ev_bl, ev_non, ev_str, ev_gint, ev_gstr, ev_bin, ev_neg, ev_cmp, ev_chain, ev_and, ev_or, ev_not, ev_ite, ev_tup, ev_lst, ev_ix, ev_call, ev_blt, ev_isi, ev_meth, ev_slc, evL, evI, ixO, itemsO, lisO, ixN, binO, binIO, cmpO, cmpIO, isBl, isInt, bltO, methO, eqO, isNon, isNonE, slcO, isiO, tyN, isSub, knownTy, tO, tsO, wipeP]) (by omega) fun r hr => ⟨_, by simp [ev_var, ev_int, ev_bl, ev_non, ev_str, ev_gint, ev_gstr, ev_bin, ev_neg, ev_cmp, ev_chain, ev_and, ev_or, ev_not, ev_ite, ev_tup, ev_lst, ev_ix, ev_call, ev_blt, ev_isi, ev_meth, ev_slc, evL, evI, ixO, itemsO, lisO, ixN, binO, binIO, cmpO, cmpIO, isBl, isInt, bltO, methO, eqO, isNon, isNonE, slcO, isiO, tyN, isSub, knownTy, tO, tsO, wipeP]; rfl, by simp [ev_var, ev_int, ev_bl, ev_non, ev_str, ev_gint, ev_gstr, ev_bin, ev_neg, ev_cmp, ev_chain, ev_and, ev_or, ev_not, ev_ite, ev_tup, ev_lst, ev_ix, ev_call, ev_blt, ev_isi, ev_meth, ev_slc, evL, evI, ixO, itemsO, lisO, ixN, binO, binIO, cmpO, cmpIO, isBl, isInt, bltO, methO, eqO, isNon, isNonE, slcO, isiO, tyN, isSub, knownTy, tO, tsO, wipeP]⟩
  have h2 := ev_lcA (G := noG) (p := ⟨[some (.int w), some (tv t), some (mem w line t), some (.int last), some (.lst (t.map fun r => .tup [(keeps w (line ++ [last]) r).v, .int (brings w line last r)])), some (.int ((line.length % w : Nat) : Int)), some (.tup (t.map fun r => (keeps w line r).v)), none, none, none], st⟩) (own := [("pair", 9)]) (tg := .name 9) (it := .seq (.var 4)) (e := .ix (.var 9) (.int 1)) (fun r => .tup [(keeps w (line ++ [last]) r).v, .int (brings w line last r)]) (fun r => .int (brings w line last r)) t (by simp [ev_var, ev_int, ev_bl, ev_non, ev_str, ev_gint, ev_gstr, ev_bin, ev_neg, ev_cmp, ev_chain, ev_and, ev_or, ev_not, ev_ite, ev_tup, ev_lst, ev_ix, ev_call, ev_blt, ev_isi, ev_meth, ev_slc, evL, evI, ixO, itemsO, lisO, ixN, binO, binIO, cmpO, cmpIO, isBl, isInt, bltO, methO, eqO, isNon, isNonE, slcO, isiO, tyN, isSub, knownTy, tO, tsO, wipeP]) (by omega) fun r hr => ⟨_, by simp [ev_var, ev_int, ev_bl, ev_non, ev_str, ev_gint, ev_gstr, ev_bin, ev_neg, ev_cmp, ev_chain, ev_and, ev_or, ev_not, ev_ite, ev_tup, ev_lst, ev_ix, ev_call, ev_blt, ev_isi, ev_meth, ev_slc, evL, evI, ixO, itemsO, lisO, ixN, binO, binIO, cmpO, cmpIO, isBl, isInt, bltO, methO, eqO, isNon, isNonE, slcO, isiO, tyN, isSub, knownTy, tO, tsO, wipeP]; rfl, by simp [ev_var, ev_int, ev_bl, ev_non, ev_str, ev_gint, ev_gstr, ev_bin, ev_neg, ev_cmp, ev_chain, ev_and, ev_or, ev_not, ev_ite, ev_tup, ev_lst, ev_ix, ev_call, ev_blt, ev_isi, ev_meth, ev_slc, evL, evI, ixO, itemsO, lisO, ixN, binO, binIO, cmpO, cmpIO, isBl, isInt, bltO, methO, eqO, isNon, isNonE, slcO, isiO, tyN, isSub, knownTy, tO, tsO, wipeP]⟩
  have h3 : t.map (fun r => PV.int (brings w line last r)) = (t.map (brings w line last)).map .int := by rw [List.map_map]; rfl
  rw [h3] at h2
  refine seqE (retG noG_ok (v := .tup [mem w (line ++ [last]) t, .int (daySum w t line last)]) ?_ hq)
  refine ev_tup2 (ev_tup2 ?_ (ev_tupl h1)) (ev_sum h2)
  have hm : ((line.length : Int) % w + 1) % w = (((line ++ [last]).length % w : Nat) : Int) := by
    rw [List.length_append]
    simp [ev_var, ev_int, ev_bl, ev_non, ev_str, ev_gint, ev_gstr, ev_bin, ev_neg, ev_cmp, ev_chain, ev_and, ev_or, ev_not, ev_ite, ev_tup, ev_lst, ev_ix, ev_call, ev_blt, ev_isi, ev_meth, ev_slc, evL, evI, ixO, itemsO, lisO, ixN, binO, binIO, cmpO, cmpIO, isBl, isInt, bltO, methO, eqO, isNon, isNonE, slcO, isiO, tyN, isSub, knownTy, tO, tsO, wipeP]
  have hw0 : (0 : Int) < w := by omega
  simp [ev_var, ev_int, ev_bl, ev_non, ev_str, ev_gint, ev_gstr, ev_bin, ev_neg, ev_cmp, ev_chain, ev_and, ev_or, ev_not, ev_ite, ev_tup, ev_lst, ev_ix, ev_call, ev_blt, ev_isi, ev_meth, ev_slc, evL, evI, ixO, itemsO, lisO, ixN, binO, binIO, cmpO, cmpIO, isBl, isInt, bltO, methO, eqO, isNon, isNonE, slcO, isiO, tyN, isSub, knownTy, tO, tsO, wipeP, hw]
/-! ### the law's own look -/
theorem cutP_takeV {ls : List Int} {n : Int} (h : 0 ≤ n) : cutP (ls.map PV.int) none (some n) = (ls.take n.toNat).map PV.int := by
  rw [cutP_take h, List.map_take]
/-- _law_brings -/
theorem pc9 {w : Nat} {sh : Int} (hw : 0 < w) (hw2 : w ≤ 28) (r : PR) (hr : PrOk w sh r) (line : List Int) (hl : line.length ≤ 900) (last : Int) (d : Nat) : PC tbl (d + 1) 9 [.int w, r.v, vi (line ++ [last])] (.int (brings w line last r)) := fun st Q X hq => by
  refine wF_runE 3 11 b9 [some (.int w), some r.v, some (vi (line ++ [last])), none, none, none, none, none, none, none, none] rfl rfl (by decide) rfl (seqE ?_)
  have hle : line.length % w ≤ line.length := Nat.mod_le _ _
  rw [wS]
  refine e0 (v := .int last) ?_ (e0 (v := .int ((line.length % w : Nat) : Int)) ?_ ⟨by simp [ev_var, ev_int, ev_bl, ev_non, ev_str, ev_gint, ev_gstr, ev_bin, ev_neg, ev_cmp, ev_chain, ev_and, ev_or, ev_not, ev_ite, ev_tup, ev_lst, ev_ix, ev_call, ev_blt, ev_isi, ev_meth, ev_slc, evL, evI, ixO, itemsO, lisO, ixN, binO, binIO, cmpO, cmpIO, isBl, isInt, bltO, methO, eqO, isNon, isNonE, slcO, isiO, tyN, isSub, knownTy, tO, tsO, wipeP], by simp [ev_var, ev_int, ev_bl, ev_non, ev_str, ev_gint, ev_gstr, ev_bin, ev_neg, ev_cmp, ev_chain, ev_and, ev_or, ev_not, ev_ite, ev_tup, ev_lst, ev_ix, ev_call, ev_blt, ev_isi, ev_meth, ev_slc, evL, evI, ixO, itemsO, lisO, ixN, binO, binIO, cmpO, cmpIO, isBl, isInt, bltO, methO, eqO, isNon, isNonE, slcO, isiO, tyN, isSub, knownTy, tO, tsO, wipeP], ?_⟩)
  · have e1 : (-(1 : Int) + ((line ++ [last]).length : Nat)).toNat = line.length := by simp [ev_var, ev_int, ev_bl, ev_non, ev_str, ev_gint, ev_gstr, ev_bin, ev_neg, ev_cmp, ev_chain, ev_and, ev_or, ev_not, ev_ite, ev_tup, ev_lst, ev_ix, ev_call, ev_blt, ev_isi, ev_meth, ev_slc, evL, evI, ixO, itemsO, lisO, ixN, binO, binIO, cmpO, cmpIO, isBl, isInt, bltO, methO, eqO, isNon, isNonE, slcO, isiO, tyN, isSub, knownTy, tO, tsO, wipeP]; omega
    have e2 : (((line ++ [last]).map PV.int).length : Int) = (line ++ [last]).length := by simp [ev_var, ev_int, ev_bl, ev_non, ev_str, ev_gint, ev_gstr, ev_bin, ev_neg, ev_cmp, ev_chain, ev_and, ev_or, ev_not, ev_ite, ev_tup, ev_lst, ev_ix, ev_call, ev_blt, ev_isi, ev_meth, ev_slc, evL, evI, ixO, itemsO, lisO, ixN, binO, binIO, cmpO, cmpIO, isBl, isInt, bltO, methO, eqO, isNon, isNonE, slcO, isiO, tyN, isSub, knownTy, tO, tsO, wipeP]
    simp only [ev_ix, ev_var, ev_neg, ev_int, ixO, itemsO, isInt, List.getElem?_cons_succ, List.getElem?_cons_zero, Option.bind_some, Option.map_some, id]
    show (Den.ixN _ (-1)).bind _ = _
    unfold Den.ixN
    rw [if_neg (by decide), if_pos (by rw [e2]; simp [ev_var, ev_int, ev_bl, ev_non, ev_str, ev_gint, ev_gstr, ev_bin, ev_neg, ev_cmp, ev_chain, ev_and, ev_or, ev_not, ev_ite, ev_tup, ev_lst, ev_ix, ev_call, ev_blt, ev_isi, ev_meth, ev_slc, evL, evI, ixO, itemsO, lisO, ixN, binO, binIO, cmpO, cmpIO, isBl, isInt, bltO, methO, eqO, isNon, isNonE, slcO, isiO, tyN, isSub, knownTy, tO, tsO, wipeP]; omega), e2, e1]
    simp [ev_var, ev_int, ev_bl, ev_non, ev_str, ev_gint, ev_gstr, ev_bin, ev_neg, ev_cmp, ev_chain, ev_and, ev_or, ev_not, ev_ite, ev_tup, ev_lst, ev_ix, ev_call, ev_blt, ev_isi, ev_meth, ev_slc, evL, evI, ixO, itemsO, lisO, ixN, binO, binIO, cmpO, cmpIO, isBl, isInt, bltO, methO, eqO, isNon, isNonE, slcO, isiO, tyN, isSub, knownTy, tO, tsO, wipeP]
  · have hw0 : (0 : Int) < w := by omega
    simp [ev_var, ev_int, ev_bl, ev_non, ev_str, ev_gint, ev_gstr, ev_bin, ev_neg, ev_cmp, ev_chain, ev_and, ev_or, ev_not, ev_ite, ev_tup, ev_lst, ev_ix, ev_call, ev_blt, ev_isi, ev_meth, ev_slc, evL, evI, ixO, itemsO, lisO, ixN, binO, binIO, cmpO, cmpIO, isBl, isInt, bltO, methO, eqO, isNon, isNonE, slcO, isiO, tyN, isSub, knownTy, tO, tsO, wipeP, hw]
  generalize hD : ((line.length % w : Nat) : Int) = D
  show wS _ _ ⟨[some (.int w), some r.v, some (vi (line ++ [last])), some (.int last), some (.int D), none, none, none, none, none, none], st⟩ _
  cases r with
  | each ls a =>
    have h1 := ev_in (G := noG) (a := .var 3) (b := .ix (.var 1) (.int 1)) (p := ⟨[some (.int w), some (PR.each ls a).v, some (vi (line ++ [last])), some (.int last), some (.int D), none, none, none, none, none, none], st⟩) (t := last) (ls := ls) (by simp [ev_var, ev_int, ev_bl, ev_non, ev_str, ev_gint, ev_gstr, ev_bin, ev_neg, ev_cmp, ev_chain, ev_and, ev_or, ev_not, ev_ite, ev_tup, ev_lst, ev_ix, ev_call, ev_blt, ev_isi, ev_meth, ev_slc, evL, evI, ixO, itemsO, lisO, ixN, binO, binIO, cmpO, cmpIO, isBl, isInt, bltO, methO, eqO, isNon, isNonE, slcO, isiO, tyN, isSub, knownTy, tO, tsO, wipeP]) (by simp [ev_var, ev_int, ev_bl, ev_non, ev_str, ev_gint, ev_gstr, ev_bin, ev_neg, ev_cmp, ev_chain, ev_and, ev_or, ev_not, ev_ite, ev_tup, ev_lst, ev_ix, ev_call, ev_blt, ev_isi, ev_meth, ev_slc, evL, evI, ixO, itemsO, lisO, ixN, binO, binIO, cmpO, cmpIO, isBl, isInt, bltO, methO, eqO, isNon, isNonE, slcO, isiO, tyN, isSub, knownTy, tO, tsO, wipeP, PR.v])
    refine seqE (iteG noG_ok true (by simp [ev_var, ev_int, ev_bl, ev_non, ev_str, ev_gint, ev_gstr, ev_bin, ev_neg, ev_cmp, ev_chain, ev_and, ev_or, ev_not, ev_ite, ev_tup, ev_lst, ev_ix, ev_call, ev_blt, ev_isi, ev_meth, ev_slc, evL, evI, ixO, itemsO, lisO, ixN, binO, binIO, cmpO, cmpIO, isBl, isInt, bltO, methO, eqO, isNon, isNonE, slcO, isiO, tyN, isSub, knownTy, tO, tsO, wipeP, PR.v, sk1]) (fun _ => ?_) (fun z => by cases z))
    refine seqE (retG noG_ok (v := .int (brings w line last (.each ls a))) ?_ hq)
    rw [ev_ite, h1]
    by_cases h : last ∈ ls <;> simp [ev_var, ev_int, ev_bl, ev_non, ev_str, ev_gint, ev_gstr, ev_bin, ev_neg, ev_cmp, ev_chain, ev_and, ev_or, ev_not, ev_ite, ev_tup, ev_lst, ev_ix, ev_call, ev_blt, ev_isi, ev_meth, ev_slc, evL, evI, ixO, itemsO, lisO, ixN, binO, binIO, cmpO, cmpIO, isBl, isInt, bltO, methO, eqO, isNon, isNonE, slcO, isiO, tyN, isSub, knownTy, tO, tsO, wipeP, h, brings, PR.v]
  | row rs a =>
    obtain ⟨h2, h6, _⟩ := hr
    refine seqE (iteG noG_ok false (by simp [ev_var, ev_int, ev_bl, ev_non, ev_str, ev_gint, ev_gstr, ev_bin, ev_neg, ev_cmp, ev_chain, ev_and, ev_or, ev_not, ev_ite, ev_tup, ev_lst, ev_ix, ev_call, ev_blt, ev_isi, ev_meth, ev_slc, evL, evI, ixO, itemsO, lisO, ixN, binO, binIO, cmpO, cmpIO, isBl, isInt, bltO, methO, eqO, isNon, isNonE, slcO, isiO, tyN, isSub, knownTy, tO, tsO, wipeP, PR.v, sk1, sk2, kw1]) (fun z => by cases z) (fun _ => nopE (F := wF tbl d) ?_))
    refine seqE (iteG noG_ok true (by simp [ev_var, ev_int, ev_bl, ev_non, ev_str, ev_gint, ev_gstr, ev_bin, ev_neg, ev_cmp, ev_chain, ev_and, ev_or, ev_not, ev_ite, ev_tup, ev_lst, ev_ix, ev_call, ev_blt, ev_isi, ev_meth, ev_slc, evL, evI, ixO, itemsO, lisO, ixN, binO, binIO, cmpO, cmpIO, isBl, isInt, bltO, methO, eqO, isNon, isNonE, slcO, isiO, tyN, isSub, knownTy, tO, tsO, wipeP, PR.v, sk2]) (fun _ => ?_) (fun z => by cases z))
    have ec : cutP ((line ++ [last]).map PV.int) (some (-(rs.length : Int))) none = ((line ++ [last]).drop (line.length + 1 - rs.length)).map PV.int := by
      rw [cutP_last (by omega), ← drop_vi]
      congr 1
      simp [ev_var, ev_int, ev_bl, ev_non, ev_str, ev_gint, ev_gstr, ev_bin, ev_neg, ev_cmp, ev_chain, ev_and, ev_or, ev_not, ev_ite, ev_tup, ev_lst, ev_ix, ev_call, ev_blt, ev_isi, ev_meth, ev_slc, evL, evI, ixO, itemsO, lisO, ixN, binO, binIO, cmpO, cmpIO, isBl, isInt, bltO, methO, eqO, isNon, isNonE, slcO, isiO, tyN, isSub, knownTy, tO, tsO, wipeP]
      omega
    refine seqE (asgG noG_ok (v := vi ((line ++ [last]).drop (line.length + 1 - rs.length))) ?_ (by simp [ev_var, ev_int, ev_bl, ev_non, ev_str, ev_gint, ev_gstr, ev_bin, ev_neg, ev_cmp, ev_chain, ev_and, ev_or, ev_not, ev_ite, ev_tup, ev_lst, ev_ix, ev_call, ev_blt, ev_isi, ev_meth, ev_slc, evL, evI, ixO, itemsO, lisO, ixN, binO, binIO, cmpO, cmpIO, isBl, isInt, bltO, methO, eqO, isNon, isNonE, slcO, isiO, tyN, isSub, knownTy, tO, tsO, wipeP]) ?_)
    · show _ = some (PV.tup (((line ++ [last]).drop (line.length + 1 - rs.length)).map PV.int))
      rw [← ec]
      simp [ev_var, ev_int, ev_bl, ev_non, ev_str, ev_gint, ev_gstr, ev_bin, ev_neg, ev_cmp, ev_chain, ev_and, ev_or, ev_not, ev_ite, ev_tup, ev_lst, ev_ix, ev_call, ev_blt, ev_isi, ev_meth, ev_slc, evL, evI, ixO, itemsO, lisO, ixN, binO, binIO, cmpO, cmpIO, isBl, isInt, bltO, methO, eqO, isNon, isNonE, slcO, isiO, tyN, isSub, knownTy, tO, tsO, wipeP, PR.v]
    show wS _ _ ⟨[some (.int w), some (PR.row rs a).v, some (vi (line ++ [last])), some (.int last), some (.int D), some (vi ((line ++ [last]).drop (line.length + 1 - rs.length))), none, none, none, none, none], st⟩ _
    have h1 := ev_lcA (G := noG) (p := ⟨[some (.int w), some (PR.row rs a).v, some (vi (line ++ [last])), some (.int last), some (.int D), some (vi ((line ++ [last]).drop (line.length + 1 - rs.length))), none, none, none, none, none], st⟩) (own := [("letter", 9), ("lot", 10)]) (tg := .tup (.cons (.name 9) (.cons (.name 10) .nil))) (it := .zip (.var 5) (.ix (.var 1) (.int 1))) (e := .cmp .In (.var 9) (.var 10)) (fun p : Int × List Int => .tup [.int p.1, vi p.2]) (fun p => .bl (decide (p.1 ∈ p.2))) (((line ++ [last]).drop (line.length + 1 - rs.length)).zip rs) (by
      have := zip_rows ((line ++ [last]).drop (line.length + 1 - rs.length)) rs
      rw [evI, ev_var, ev_ix, ev_var, ev_int]
      show some (zipL _ _) = _
      exact congrArg some this) (by simp [ev_var, ev_int, ev_bl, ev_non, ev_str, ev_gint, ev_gstr, ev_bin, ev_neg, ev_cmp, ev_chain, ev_and, ev_or, ev_not, ev_ite, ev_tup, ev_lst, ev_ix, ev_call, ev_blt, ev_isi, ev_meth, ev_slc, evL, evI, ixO, itemsO, lisO, ixN, binO, binIO, cmpO, cmpIO, isBl, isInt, bltO, methO, eqO, isNon, isNonE, slcO, isiO, tyN, isSub, knownTy, tO, tsO, wipeP]; omega) fun p hp => ⟨_, by simp [ev_var, ev_int, ev_bl, ev_non, ev_str, ev_gint, ev_gstr, ev_bin, ev_neg, ev_cmp, ev_chain, ev_and, ev_or, ev_not, ev_ite, ev_tup, ev_lst, ev_ix, ev_call, ev_blt, ev_isi, ev_meth, ev_slc, evL, evI, ixO, itemsO, lisO, ixN, binO, binIO, cmpO, cmpIO, isBl, isInt, bltO, methO, eqO, isNon, isNonE, slcO, isiO, tyN, isSub, knownTy, tO, tsO, wipeP]; rfl, ev_in (t := p.1) (by simp [ev_var, ev_int, ev_bl, ev_non, ev_str, ev_gint, ev_gstr, ev_bin, ev_neg, ev_cmp, ev_chain, ev_and, ev_or, ev_not, ev_ite, ev_tup, ev_lst, ev_ix, ev_call, ev_blt, ev_isi, ev_meth, ev_slc, evL, evI, ixO, itemsO, lisO, ixN, binO, binIO, cmpO, cmpIO, isBl, isInt, bltO, methO, eqO, isNon, isNonE, slcO, isiO, tyN, isSub, knownTy, tO, tsO, wipeP]) (by simp [ev_var, ev_int, ev_bl, ev_non, ev_str, ev_gint, ev_gstr, ev_bin, ev_neg, ev_cmp, ev_chain, ev_and, ev_or, ev_not, ev_ite, ev_tup, ev_lst, ev_ix, ev_call, ev_blt, ev_isi, ev_meth, ev_slc, evL, evI, ixO, itemsO, lisO, ixN, binO, binIO, cmpO, cmpIO, isBl, isInt, bltO, methO, eqO, isNon, isNonE, slcO, isiO, tyN, isSub, knownTy, tO, tsO, wipeP])⟩
    have a1 := ev_all (m := false) (k := fun p : Int × List Int => decide (p.1 ∈ p.2)) h1
    refine seqE (asgG noG_ok (v := .bl (decide (rs.length ≤ line.length + 1) && (((line ++ [last]).drop (line.length + 1 - rs.length)).zip rs).all fun p => decide (p.1 ∈ p.2))) ?_ (by simp [ev_var, ev_int, ev_bl, ev_non, ev_str, ev_gint, ev_gstr, ev_bin, ev_neg, ev_cmp, ev_chain, ev_and, ev_or, ev_not, ev_ite, ev_tup, ev_lst, ev_ix, ev_call, ev_blt, ev_isi, ev_meth, ev_slc, evL, evI, ixO, itemsO, lisO, ixN, binO, binIO, cmpO, cmpIO, isBl, isInt, bltO, methO, eqO, isNon, isNonE, slcO, isiO, tyN, isSub, knownTy, tO, tsO, wipeP]) ?_)
    · rw [ev_and, a1]
      by_cases hc : rs.length ≤ line.length + 1
      · have hc' : (rs.length : Int) ≤ (line.length : Int) + 1 := by omega
        simp [ev_var, ev_int, ev_bl, ev_non, ev_str, ev_gint, ev_gstr, ev_bin, ev_neg, ev_cmp, ev_chain, ev_and, ev_or, ev_not, ev_ite, ev_tup, ev_lst, ev_ix, ev_call, ev_blt, ev_isi, ev_meth, ev_slc, evL, evI, ixO, itemsO, lisO, ixN, binO, binIO, cmpO, cmpIO, isBl, isInt, bltO, methO, eqO, isNon, isNonE, slcO, isiO, tyN, isSub, knownTy, tO, tsO, wipeP, PR.v, hc, hc']
      · have hc' : ¬ (rs.length : Int) ≤ (line.length : Int) + 1 := by omega
        simp [ev_var, ev_int, ev_bl, ev_non, ev_str, ev_gint, ev_gstr, ev_bin, ev_neg, ev_cmp, ev_chain, ev_and, ev_or, ev_not, ev_ite, ev_tup, ev_lst, ev_ix, ev_call, ev_blt, ev_isi, ev_meth, ev_slc, evL, evI, ixO, itemsO, lisO, ixN, binO, binIO, cmpO, cmpIO, isBl, isInt, bltO, methO, eqO, isNon, isNonE, slcO, isiO, tyN, isSub, knownTy, tO, tsO, wipeP, PR.v, hc, hc']
    refine seqE (retG noG_ok (v := .int (brings w line last (.row rs a))) ?_ hq)
    simp only [brings]
    generalize hX : ((((line ++ [last]).drop (line.length + 1 - rs.length)).zip rs).all fun p => decide (p.1 ∈ p.2)) = X0
    by_cases hc : rs.length ≤ line.length + 1 <;> cases X0 <;> simp [ev_var, ev_int, ev_bl, ev_non, ev_str, ev_gint, ev_gstr, ev_bin, ev_neg, ev_cmp, ev_chain, ev_and, ev_or, ev_not, ev_ite, ev_tup, ev_lst, ev_ix, ev_call, ev_blt, ev_isi, ev_meth, ev_slc, evL, evI, ixO, itemsO, lisO, ixN, binO, binIO, cmpO, cmpIO, isBl, isInt, bltO, methO, eqO, isNon, isNonE, slcO, isiO, tyN, isSub, knownTy, tO, tsO, wipeP, hc, PR.v]
  | over ls m a =>
    refine seqE (iteG noG_ok false (by simp [ev_var, ev_int, ev_bl, ev_non, ev_str, ev_gint, ev_gstr, ev_bin, ev_neg, ev_cmp, ev_chain, ev_and, ev_or, ev_not, ev_ite, ev_tup, ev_lst, ev_ix, ev_call, ev_blt, ev_isi, ev_meth, ev_slc, evL, evI, ixO, itemsO, lisO, ixN, binO, binIO, cmpO, cmpIO, isBl, isInt, bltO, methO, eqO, isNon, isNonE, slcO, isiO, tyN, isSub, knownTy, tO, tsO, wipeP, PR.v, sk1, sk3, kw2]) (fun z => by cases z) (fun _ => nopE (F := wF tbl d) ?_))
    refine seqE (iteG noG_ok false (by simp [ev_var, ev_int, ev_bl, ev_non, ev_str, ev_gint, ev_gstr, ev_bin, ev_neg, ev_cmp, ev_chain, ev_and, ev_or, ev_not, ev_ite, ev_tup, ev_lst, ev_ix, ev_call, ev_blt, ev_isi, ev_meth, ev_slc, evL, evI, ixO, itemsO, lisO, ixN, binO, binIO, cmpO, cmpIO, isBl, isInt, bltO, methO, eqO, isNon, isNonE, slcO, isiO, tyN, isSub, knownTy, tO, tsO, wipeP, PR.v, sk2, sk3, kw3]) (fun z => by cases z) (fun _ => nopE (F := wF tbl d) ?_))
    refine seqE (iteG noG_ok true (by simp [ev_var, ev_int, ev_bl, ev_non, ev_str, ev_gint, ev_gstr, ev_bin, ev_neg, ev_cmp, ev_chain, ev_and, ev_or, ev_not, ev_ite, ev_tup, ev_lst, ev_ix, ev_call, ev_blt, ev_isi, ev_meth, ev_slc, evL, evI, ixO, itemsO, lisO, ixN, binO, binIO, cmpO, cmpIO, isBl, isInt, bltO, methO, eqO, isNon, isNonE, slcO, isiO, tyN, isSub, knownTy, tO, tsO, wipeP, PR.v, sk3]) (fun _ => ?_) (fun z => by cases z))
    have ec : cutP ((line ++ [last]).map PV.int) (some ((line.length : Int) + 1 - 1 - D)) none = ((line ++ [last]).drop (line.length - line.length % w)).map PV.int := by
      rw [cutP_drop (by omega), ← drop_vi]
      congr 1
      omega
    refine seqE (asgG noG_ok (v := vi ((line ++ [last]).drop (line.length - line.length % w))) ?_ (by simp [ev_var, ev_int, ev_bl, ev_non, ev_str, ev_gint, ev_gstr, ev_bin, ev_neg, ev_cmp, ev_chain, ev_and, ev_or, ev_not, ev_ite, ev_tup, ev_lst, ev_ix, ev_call, ev_blt, ev_isi, ev_meth, ev_slc, evL, evI, ixO, itemsO, lisO, ixN, binO, binIO, cmpO, cmpIO, isBl, isInt, bltO, methO, eqO, isNon, isNonE, slcO, isiO, tyN, isSub, knownTy, tO, tsO, wipeP]) ?_)
    · show _ = some (PV.tup (((line ++ [last]).drop (line.length - line.length % w)).map PV.int))
      rw [← ec]
      simp [ev_var, ev_int, ev_bl, ev_non, ev_str, ev_gint, ev_gstr, ev_bin, ev_neg, ev_cmp, ev_chain, ev_and, ev_or, ev_not, ev_ite, ev_tup, ev_lst, ev_ix, ev_call, ev_blt, ev_isi, ev_meth, ev_slc, evL, evI, ixO, itemsO, lisO, ixN, binO, binIO, cmpO, cmpIO, isBl, isInt, bltO, methO, eqO, isNon, isNonE, slcO, isiO, tyN, isSub, knownTy, tO, tsO, wipeP]
    show wS _ _ ⟨[some (.int w), some (PR.over ls m a).v, some (vi (line ++ [last])), some (.int last), some (.int D), none, none, some (vi ((line ++ [last]).drop (line.length - line.length % w))), none, none, none], st⟩ _
    have h1 := ev_lc (G := noG) (p := ⟨[some (.int w), some (PR.over ls m a).v, some (vi (line ++ [last])), some (.int last), some (.int D), none, none, some (vi ((line ++ [last]).drop (line.length - line.length % w))), none, none, none], st⟩) (own := [("letter", 9)]) (tg := .name 9) (it := .seq (.var 7)) (c := .cmp .In (.var 9) (.ix (.var 1) (.int 1))) (e := .var 9) PV.int PV.int (fun t => decide (t ∈ ls)) ((line ++ [last]).drop (line.length - line.length % w)) (by simp [ev_var, ev_int, ev_bl, ev_non, ev_str, ev_gint, ev_gstr, ev_bin, ev_neg, ev_cmp, ev_chain, ev_and, ev_or, ev_not, ev_ite, ev_tup, ev_lst, ev_ix, ev_call, ev_blt, ev_isi, ev_meth, ev_slc, evL, evI, ixO, itemsO, lisO, ixN, binO, binIO, cmpO, cmpIO, isBl, isInt, bltO, methO, eqO, isNon, isNonE, slcO, isiO, tyN, isSub, knownTy, tO, tsO, wipeP]) (by simp [ev_var, ev_int, ev_bl, ev_non, ev_str, ev_gint, ev_gstr, ev_bin, ev_neg, ev_cmp, ev_chain, ev_and, ev_or, ev_not, ev_ite, ev_tup, ev_lst, ev_ix, ev_call, ev_blt, ev_isi, ev_meth, ev_slc, evL, evI, ixO, itemsO, lisO, ixN, binO, binIO, cmpO, cmpIO, isBl, isInt, bltO, methO, eqO, isNon, isNonE, slcO, isiO, tyN, isSub, knownTy, tO, tsO, wipeP]; omega) fun t ht => ⟨_, by simp [ev_var, ev_int, ev_bl, ev_non, ev_str, ev_gint, ev_gstr, ev_bin, ev_neg, ev_cmp, ev_chain, ev_and, ev_or, ev_not, ev_ite, ev_tup, ev_lst, ev_ix, ev_call, ev_blt, ev_isi, ev_meth, ev_slc, evL, evI, ixO, itemsO, lisO, ixN, binO, binIO, cmpO, cmpIO, isBl, isInt, bltO, methO, eqO, isNon, isNonE, slcO, isiO, tyN, isSub, knownTy, tO, tsO, wipeP]; rfl, ev_in (t := t) (ls := ls) (by simp [ev_var, ev_int, ev_bl, ev_non, ev_str, ev_gint, ev_gstr, ev_bin, ev_neg, ev_cmp, ev_chain, ev_and, ev_or, ev_not, ev_ite, ev_tup, ev_lst, ev_ix, ev_call, ev_blt, ev_isi, ev_meth, ev_slc, evL, evI, ixO, itemsO, lisO, ixN, binO, binIO, cmpO, cmpIO, isBl, isInt, bltO, methO, eqO, isNon, isNonE, slcO, isiO, tyN, isSub, knownTy, tO, tsO, wipeP]) (by simp [ev_var, ev_int, ev_bl, ev_non, ev_str, ev_gint, ev_gstr, ev_bin, ev_neg, ev_cmp, ev_chain, ev_and, ev_or, ev_not, ev_ite, ev_tup, ev_lst, ev_ix, ev_call, ev_blt, ev_isi, ev_meth, ev_slc, evL, evI, ixO, itemsO, lisO, ixN, binO, binIO, cmpO, cmpIO, isBl, isInt, bltO, methO, eqO, isNon, isNonE, slcO, isiO, tyN, isSub, knownTy, tO, tsO, wipeP, PR.v]), fun _ => by simp [ev_var, ev_int, ev_bl, ev_non, ev_str, ev_gint, ev_gstr, ev_bin, ev_neg, ev_cmp, ev_chain, ev_and, ev_or, ev_not, ev_ite, ev_tup, ev_lst, ev_ix, ev_call, ev_blt, ev_isi, ev_meth, ev_slc, evL, evI, ixO, itemsO, lisO, ixN, binO, binIO, cmpO, cmpIO, isBl, isInt, bltO, methO, eqO, isNon, isNonE, slcO, isiO, tyN, isSub, knownTy, tO, tsO, wipeP]⟩
    refine seqE (asgG noG_ok (v := .int ((((line ++ [last]).drop (line.length - line.length % w)).filter fun t => decide (t ∈ ls)).length : Int)) (by rw [ev_blt, evL, h1, evL]; simp [ev_var, ev_int, ev_bl, ev_non, ev_str, ev_gint, ev_gstr, ev_bin, ev_neg, ev_cmp, ev_chain, ev_and, ev_or, ev_not, ev_ite, ev_tup, ev_lst, ev_ix, ev_call, ev_blt, ev_isi, ev_meth, ev_slc, evL, evI, ixO, itemsO, lisO, ixN, binO, binIO, cmpO, cmpIO, isBl, isInt, bltO, methO, eqO, isNon, isNonE, slcO, isiO, tyN, isSub, knownTy, tO, tsO, wipeP]) (by simp [ev_var, ev_int, ev_bl, ev_non, ev_str, ev_gint, ev_gstr, ev_bin, ev_neg, ev_cmp, ev_chain, ev_and, ev_or, ev_not, ev_ite, ev_tup, ev_lst, ev_ix, ev_call, ev_blt, ev_isi, ev_meth, ev_slc, evL, evI, ixO, itemsO, lisO, ixN, binO, binIO, cmpO, cmpIO, isBl, isInt, bltO, methO, eqO, isNon, isNonE, slcO, isiO, tyN, isSub, knownTy, tO, tsO, wipeP]) ?_)
    generalize hC : ((((line ++ [last]).drop (line.length - line.length % w)).filter fun t => decide (t ∈ ls)).length : Int) = c0
    show wS _ _ ⟨[some (.int w), some (PR.over ls m a).v, some (vi (line ++ [last])), some (.int last), some (.int D), none, none, some (vi ((line ++ [last]).drop (line.length - line.length % w))), some (.int c0), none, none], st⟩ _
    have h3 := ev_in (G := noG) (a := .var 3) (b := .ix (.var 1) (.int 1)) (p := ⟨[some (.int w), some (PR.over ls m a).v, some (vi (line ++ [last])), some (.int last), some (.int D), none, none, some (vi ((line ++ [last]).drop (line.length - line.length % w))), some (.int c0), none, none], st⟩) (t := last) (ls := ls) (by simp [ev_var, ev_int, ev_bl, ev_non, ev_str, ev_gint, ev_gstr, ev_bin, ev_neg, ev_cmp, ev_chain, ev_and, ev_or, ev_not, ev_ite, ev_tup, ev_lst, ev_ix, ev_call, ev_blt, ev_isi, ev_meth, ev_slc, evL, evI, ixO, itemsO, lisO, ixN, binO, binIO, cmpO, cmpIO, isBl, isInt, bltO, methO, eqO, isNon, isNonE, slcO, isiO, tyN, isSub, knownTy, tO, tsO, wipeP]) (by simp [ev_var, ev_int, ev_bl, ev_non, ev_str, ev_gint, ev_gstr, ev_bin, ev_neg, ev_cmp, ev_chain, ev_and, ev_or, ev_not, ev_ite, ev_tup, ev_lst, ev_ix, ev_call, ev_blt, ev_isi, ev_meth, ev_slc, evL, evI, ixO, itemsO, lisO, ixN, binO, binIO, cmpO, cmpIO, isBl, isInt, bltO, methO, eqO, isNon, isNonE, slcO, isiO, tyN, isSub, knownTy, tO, tsO, wipeP, PR.v])
    refine seqE (retG noG_ok (v := .int (brings w line last (.over ls m a))) ?_ hq)
    rw [ev_ite, ev_and, h3]
    simp only [brings, hC]
    by_cases h : last ∈ ls <;> by_cases h2 : m < c0 <;> simp [ev_var, ev_int, ev_bl, ev_non, ev_str, ev_gint, ev_gstr, ev_bin, ev_neg, ev_cmp, ev_chain, ev_and, ev_or, ev_not, ev_ite, ev_tup, ev_lst, ev_ix, ev_call, ev_blt, ev_isi, ev_meth, ev_slc, evL, evI, ixO, itemsO, lisO, ixN, binO, binIO, cmpO, cmpIO, isBl, isInt, bltO, methO, eqO, isNon, isNonE, slcO, isiO, tyN, isSub, knownTy, tO, tsO, wipeP, h, h2, PR.v]
  | on ds ls a =>
    have h1 := ev_in (G := noG) (a := .var 3) (b := .ix (.var 1) (.int 2)) (p := ⟨[some (.int w), some (PR.on ds ls a).v, some (vi (line ++ [last])), some (.int last), some (.int D), none, none, none, none, none, none], st⟩) (t := last) (ls := ls) (by simp [ev_var, ev_int, ev_bl, ev_non, ev_str, ev_gint, ev_gstr, ev_bin, ev_neg, ev_cmp, ev_chain, ev_and, ev_or, ev_not, ev_ite, ev_tup, ev_lst, ev_ix, ev_call, ev_blt, ev_isi, ev_meth, ev_slc, evL, evI, ixO, itemsO, lisO, ixN, binO, binIO, cmpO, cmpIO, isBl, isInt, bltO, methO, eqO, isNon, isNonE, slcO, isiO, tyN, isSub, knownTy, tO, tsO, wipeP]) (by simp [ev_var, ev_int, ev_bl, ev_non, ev_str, ev_gint, ev_gstr, ev_bin, ev_neg, ev_cmp, ev_chain, ev_and, ev_or, ev_not, ev_ite, ev_tup, ev_lst, ev_ix, ev_call, ev_blt, ev_isi, ev_meth, ev_slc, evL, evI, ixO, itemsO, lisO, ixN, binO, binIO, cmpO, cmpIO, isBl, isInt, bltO, methO, eqO, isNon, isNonE, slcO, isiO, tyN, isSub, knownTy, tO, tsO, wipeP, PR.v])
    have h0 := ev_in (G := noG) (a := .var 4) (b := .ix (.var 1) (.int 1)) (p := ⟨[some (.int w), some (PR.on ds ls a).v, some (vi (line ++ [last])), some (.int last), some (.int D), none, none, none, none, none, none], st⟩) (t := D) (ls := ds) (by simp [ev_var, ev_int, ev_bl, ev_non, ev_str, ev_gint, ev_gstr, ev_bin, ev_neg, ev_cmp, ev_chain, ev_and, ev_or, ev_not, ev_ite, ev_tup, ev_lst, ev_ix, ev_call, ev_blt, ev_isi, ev_meth, ev_slc, evL, evI, ixO, itemsO, lisO, ixN, binO, binIO, cmpO, cmpIO, isBl, isInt, bltO, methO, eqO, isNon, isNonE, slcO, isiO, tyN, isSub, knownTy, tO, tsO, wipeP]) (by simp [ev_var, ev_int, ev_bl, ev_non, ev_str, ev_gint, ev_gstr, ev_bin, ev_neg, ev_cmp, ev_chain, ev_and, ev_or, ev_not, ev_ite, ev_tup, ev_lst, ev_ix, ev_call, ev_blt, ev_isi, ev_meth, ev_slc, evL, evI, ixO, itemsO, lisO, ixN, binO, binIO, cmpO, cmpIO, isBl, isInt, bltO, methO, eqO, isNon, isNonE, slcO, isiO, tyN, isSub, knownTy, tO, tsO, wipeP, PR.v])
    refine seqE (iteG noG_ok false (by simp [ev_var, ev_int, ev_bl, ev_non, ev_str, ev_gint, ev_gstr, ev_bin, ev_neg, ev_cmp, ev_chain, ev_and, ev_or, ev_not, ev_ite, ev_tup, ev_lst, ev_ix, ev_call, ev_blt, ev_isi, ev_meth, ev_slc, evL, evI, ixO, itemsO, lisO, ixN, binO, binIO, cmpO, cmpIO, isBl, isInt, bltO, methO, eqO, isNon, isNonE, slcO, isiO, tyN, isSub, knownTy, tO, tsO, wipeP, PR.v, sk1, sk4, kw4]) (fun z => by cases z) (fun _ => nopE (F := wF tbl d) ?_))
    refine seqE (iteG noG_ok false (by simp [ev_var, ev_int, ev_bl, ev_non, ev_str, ev_gint, ev_gstr, ev_bin, ev_neg, ev_cmp, ev_chain, ev_and, ev_or, ev_not, ev_ite, ev_tup, ev_lst, ev_ix, ev_call, ev_blt, ev_isi, ev_meth, ev_slc, evL, evI, ixO, itemsO, lisO, ixN, binO, binIO, cmpO, cmpIO, isBl, isInt, bltO, methO, eqO, isNon, isNonE, slcO, isiO, tyN, isSub, knownTy, tO, tsO, wipeP, PR.v, sk2, sk4, kw5]) (fun z => by cases z) (fun _ => nopE (F := wF tbl d) ?_))
    refine seqE (iteG noG_ok false (by simp [ev_var, ev_int, ev_bl, ev_non, ev_str, ev_gint, ev_gstr, ev_bin, ev_neg, ev_cmp, ev_chain, ev_and, ev_or, ev_not, ev_ite, ev_tup, ev_lst, ev_ix, ev_call, ev_blt, ev_isi, ev_meth, ev_slc, evL, evI, ixO, itemsO, lisO, ixN, binO, binIO, cmpO, cmpIO, isBl, isInt, bltO, methO, eqO, isNon, isNonE, slcO, isiO, tyN, isSub, knownTy, tO, tsO, wipeP, PR.v, sk3, sk4, kw6]) (fun z => by cases z) (fun _ => nopE (F := wF tbl d) ?_))
    refine seqE (retG noG_ok (v := .int (brings w line last (.on ds ls a))) ?_ hq)
    rw [ev_ite, ev_and, h0, h1]
    simp only [brings, hD]
    by_cases h : last ∈ ls <;> by_cases h2 : D ∈ ds <;> simp [ev_var, ev_int, ev_bl, ev_non, ev_str, ev_gint, ev_gstr, ev_bin, ev_neg, ev_cmp, ev_chain, ev_and, ev_or, ev_not, ev_ite, ev_tup, ev_lst, ev_ix, ev_call, ev_blt, ev_isi, ev_meth, ev_slc, evL, evI, ixO, itemsO, lisO, ixN, binO, binIO, cmpO, cmpIO, isBl, isInt, bltO, methO, eqO, isNon, isNonE, slcO, isiO, tyN, isSub, knownTy, tO, tsO, wipeP, h, h2, PR.v]
end K69

/-! K69f: pay, account, pay_memory, and the law's own. -/
namespace K69
open Den
theorem take_snoc {ls : List Int} {i : Nat} (h : i < ls.length) : ls.take (i + 1) = ls.take i ++ [ls.getD i 0] := by
  rw [List.take_succ_eq_append_getElem h]
  congr 2
  simp [ev_var, ev_int, ev_bl, ev_non, ev_str, ev_gint, ev_gstr, ev_bin, ev_neg, ev_cmp, ev_chain, ev_and, ev_or, ev_not, ev_ite, ev_tup, ev_lst, ev_ix, ev_call, ev_blt, ev_isi, ev_meth, ev_slc, evL, evI, ixO, itemsO, lisO, ixN, binO, binIO, cmpO, cmpIO, isBl, isInt, bltO, methO, eqO, isNon, isNonE, slcO, isiO, tyN, isSub, knownTy, tO, tsO, wipeP, List.getD_eq_getElem?_getD, h]
theorem rng_map (n : Nat) : rngL 0 n = (List.range n).map fun (i : Nat) => PV.int (i : Int) := by
  unfold rngL
  simp [ev_var, ev_int, ev_bl, ev_non, ev_str, ev_gint, ev_gstr, ev_bin, ev_neg, ev_cmp, ev_chain, ev_and, ev_or, ev_not, ev_ite, ev_tup, ev_lst, ev_ix, ev_call, ev_blt, ev_isi, ev_meth, ev_slc, evL, evI, ixO, itemsO, lisO, ixN, binO, binIO, cmpO, cmpIO, isBl, isInt, bltO, methO, eqO, isNon, isNonE, slcO, isiO, tyN, isSub, knownTy, tO, tsO, wipeP]
/-- _law_pays -/
theorem pc8 {w : Nat} {sh : Int} (hw : 0 < w) (hw2 : w ≤ 28) (t : List PR) (ht : ∀ r ∈ t, PrOk w sh r) (ht12 : t.length ≤ 12) (line : List Int) (hl : line.length ≤ 900) (d : Nat) : PC tbl (d + 2) 8 [.int w, tv t, vi line] (vi (pays w t [] line)) := fun st Q X hq => by
  refine wF_runE 3 5 b8 [some (.int w), some (tv t), some (vi line), none, none] rfl rfl (by decide) rfl (seqE ?_)
  rw [wS, wE, wL]
  refine wE_lcP (g := fun (i : Nat) => PV.int (i : Int)) (h := fun i => .int (daySum w t (line.take i) (line.getD i 0))) (List.range line.length) (iP (by
    have := ev_rng1 (G := noG) (e := .blt .len false (.cons (.var 2) .nil)) (p := ⟨[some (.int w), some (tv t), some (vi line), none, none], st⟩) (n := (line.length : Int)) (by simp [ev_var, ev_int, ev_bl, ev_non, ev_str, ev_gint, ev_gstr, ev_bin, ev_neg, ev_cmp, ev_chain, ev_and, ev_or, ev_not, ev_ite, ev_tup, ev_lst, ev_ix, ev_call, ev_blt, ev_isi, ev_meth, ev_slc, evL, evI, ixO, itemsO, lisO, ixN, binO, binIO, cmpO, cmpIO, isBl, isInt, bltO, methO, eqO, isNon, isNonE, slcO, isiO, tyN, isSub, knownTy, tO, tsO, wipeP]) (by omega) (by omega)
    rw [this, Int.toNat_natCast, rng_map])) (by simp [ev_var, ev_int, ev_bl, ev_non, ev_str, ev_gint, ev_gstr, ev_bin, ev_neg, ev_cmp, ev_chain, ev_and, ev_or, ev_not, ev_ite, ev_tup, ev_lst, ev_ix, ev_call, ev_blt, ev_isi, ev_meth, ev_slc, evL, evI, ixO, itemsO, lisO, ixN, binO, binIO, cmpO, cmpIO, isBl, isInt, bltO, methO, eqO, isNon, isNonE, slcO, isiO, tyN, isSub, knownTy, tO, tsO, wipeP]; omega) (fun i hi => ?_) ?_
  · have hi := List.mem_range.mp hi
    refine ⟨_, by simp [ev_var, ev_int, ev_bl, ev_non, ev_str, ev_gint, ev_gstr, ev_bin, ev_neg, ev_cmp, ev_chain, ev_and, ev_or, ev_not, ev_ite, ev_tup, ev_lst, ev_ix, ev_call, ev_blt, ev_isi, ev_meth, ev_slc, evL, evI, ixO, itemsO, lisO, ixN, binO, binIO, cmpO, cmpIO, isBl, isInt, bltO, methO, eqO, isNon, isNonE, slcO, isiO, tyN, isSub, knownTy, tO, tsO, wipeP]; rfl, fun R hR => ?_⟩
    show wE _ _ ⟨[some (.int w), some (tv t), some (vi line), some (.int (i : Nat)), none], st⟩ _ _
    rw [wE, wL]
    refine wE_lcP (g := PR.v) (h := fun r => .int (brings w (line.take i) (line.getD i 0) r)) t (iP (by simp [ev_var, ev_int, ev_bl, ev_non, ev_str, ev_gint, ev_gstr, ev_bin, ev_neg, ev_cmp, ev_chain, ev_and, ev_or, ev_not, ev_ite, ev_tup, ev_lst, ev_ix, ev_call, ev_blt, ev_isi, ev_meth, ev_slc, evL, evI, ixO, itemsO, lisO, ixN, binO, binIO, cmpO, cmpIO, isBl, isInt, bltO, methO, eqO, isNon, isNonE, slcO, isiO, tyN, isSub, knownTy, tO, tsO, wipeP])) (by omega) (fun r hr => ?_) ?_
    · refine ⟨_, by simp [ev_var, ev_int, ev_bl, ev_non, ev_str, ev_gint, ev_gstr, ev_bin, ev_neg, ev_cmp, ev_chain, ev_and, ev_or, ev_not, ev_ite, ev_tup, ev_lst, ev_ix, ev_call, ev_blt, ev_isi, ev_meth, ev_slc, evL, evI, ixO, itemsO, lisO, ixN, binO, binIO, cmpO, cmpIO, isBl, isInt, bltO, methO, eqO, isNon, isNonE, slcO, isiO, tyN, isSub, knownTy, tO, tsO, wipeP]; rfl, fun R hR => ?_⟩
      have hp := pc9 hw hw2 r (ht r hr) (line.take i) (by rw [List.length_take]; omega) (line.getD i 0) d
      rw [← take_snoc hi] at hp
      refine e_pc hp ?_ hR
      have e : cutP (line.map PV.int) none (some ((i : Int) + 1)) = (line.take (i + 1)).map PV.int := by
        rw [cutP_takeV (by omega)]
        congr 2
      simp [ev_var, ev_int, ev_bl, ev_non, ev_str, ev_gint, ev_gstr, ev_bin, ev_neg, ev_cmp, ev_chain, ev_and, ev_or, ev_not, ev_ite, ev_tup, ev_lst, ev_ix, ev_call, ev_blt, ev_isi, ev_meth, ev_slc, evL, evI, ixO, itemsO, lisO, ixN, binO, binIO, cmpO, cmpIO, isBl, isInt, bltO, methO, eqO, isNon, isNonE, slcO, isiO, tyN, isSub, knownTy, tO, tsO, wipeP, e]
    · rw [wL]
      refine ⟨t.map (brings w (line.take i) (line.getD i 0)), ?_, hR⟩
      rw [← allInt_map (t.map (brings w (line.take i) (line.getD i 0))), List.map_map]
      rfl
  · rw [wL]
    show Q _ st
    rw [pays_eq] at hq
    have e : (List.range line.length).map (fun i => PV.int (daySum w t (line.take i) (line.getD i 0))) = ((List.range line.length).map fun i => daySum w t ([] ++ line.take i) (line.getD i 0)).map PV.int := by
      rw [List.map_map]; rfl
    rw [e]
    exact hq
theorem mem_nil (w : Nat) (sh : Int) (t : List PR) (ht : ∀ r ∈ t, PrOk w sh r) : (t.map fun r => (keeps w [] r).v) = t.map fun r => match r with
  | .over _ _ _ => PV.int 0
  | _ => .tup [] := by
  refine List.map_congr_left fun r hr => ?_
  have hok : r.ok := by
    have := ht r hr
    cases r <;> simp only [PR.ok, PrOk] at this ⊢ <;> first | exact this.1 | exact this.2.1
  rw [keeps_nil w r hok]
  cases r <;> rfl
/-- first_pay -/
theorem pc31 {w : Nat} {sh : Int} (t : List PR) (ht : ∀ r ∈ t, PrOk w sh r) (ht12 : t.length ≤ 12) (d : Nat) : PC tbl (d + 1) 31 [tv t] (mem w [] t) := fun st Q X hq => by
  have h1 := ev_lcA (G := noG) (p := ⟨[some (tv t), none], st⟩) (own := [("rule", 1)]) (tg := .name 1) (it := .seq (.var 0)) (e := .ite (.cmp .Eq (.ix (.var 1) (.int 0)) (.gstr "OVER" "over")) (.int 0) (.tup .nil)) PR.v (fun r => match r with
    | .over _ _ _ => PV.int 0
    | _ => .tup []) t (by simp [ev_var, ev_int, ev_bl, ev_non, ev_str, ev_gint, ev_gstr, ev_bin, ev_neg, ev_cmp, ev_chain, ev_and, ev_or, ev_not, ev_ite, ev_tup, ev_lst, ev_ix, ev_call, ev_blt, ev_isi, ev_meth, ev_slc, evL, evI, ixO, itemsO, lisO, ixN, binO, binIO, cmpO, cmpIO, isBl, isInt, bltO, methO, eqO, isNon, isNonE, slcO, isiO, tyN, isSub, knownTy, tO, tsO, wipeP]) (by omega) fun r hr => ⟨_, by simp [ev_var, ev_int, ev_bl, ev_non, ev_str, ev_gint, ev_gstr, ev_bin, ev_neg, ev_cmp, ev_chain, ev_and, ev_or, ev_not, ev_ite, ev_tup, ev_lst, ev_ix, ev_call, ev_blt, ev_isi, ev_meth, ev_slc, evL, evI, ixO, itemsO, lisO, ixN, binO, binIO, cmpO, cmpIO, isBl, isInt, bltO, methO, eqO, isNon, isNonE, slcO, isiO, tyN, isSub, knownTy, tO, tsO, wipeP]; rfl, by
      cases r <;> simp [ev_var, ev_int, ev_bl, ev_non, ev_str, ev_gint, ev_gstr, ev_bin, ev_neg, ev_cmp, ev_chain, ev_and, ev_or, ev_not, ev_ite, ev_tup, ev_lst, ev_ix, ev_call, ev_blt, ev_isi, ev_meth, ev_slc, evL, evI, ixO, itemsO, lisO, ixN, binO, binIO, cmpO, cmpIO, isBl, isInt, bltO, methO, eqO, isNon, isNonE, slcO, isiO, tyN, isSub, knownTy, tO, tsO, wipeP, PR.v, sk1, sk2, sk3, sk4, sk5, sk6, kw6]
      done⟩
  rw [← mem_nil w sh t ht] at h1
  refine wF_runE 1 2 b31 [some (tv t), none] rfl rfl (by decide) rfl (seqE (retG noG_ok (v := mem w [] t) ?_ hq))
  refine ev_tup2 ?_ (ev_tupl h1)
  simp [ev_var, ev_int, ev_bl, ev_non, ev_str, ev_gint, ev_gstr, ev_bin, ev_neg, ev_cmp, ev_chain, ev_and, ev_or, ev_not, ev_ite, ev_tup, ev_lst, ev_ix, ev_call, ev_blt, ev_isi, ev_meth, ev_slc, evL, evI, ixO, itemsO, lisO, ixN, binO, binIO, cmpO, cmpIO, isBl, isInt, bltO, methO, eqO, isNon, isNonE, slcO, isiO, tyN, isSub, knownTy, tO, tsO, wipeP]
theorem sb_append {S : Store} {o : SO} {n : Nat} (h : n < S.length) : (S ++ [o])[n]? = S[n]? := List.getElem?_append_left h
/-- paid -/
theorem q26 {w : Nat} {sh : Int} (hw : 0 < w) (t : List PR) (ht : ∀ r ∈ t, PrOk w sh r) (ht12 : t.length ≤ 12) (ahead line : List Int) (hl : ahead.length + line.length ≤ 900) (d : Nat) {st : Store} {Q : PV → Store → Prop} {X : PX → Store → Prop}
    (hq : Q (.tup [mem w (ahead ++ line) t, .ref st.length]) (st ++ [.lst ((pays w t ahead line).map .int)])) : wF tbl (d + 4) 26 [.int w, tv t, mem w ahead t, vi line] st Q X := by
  refine wF_runE 4 7 b26 [some (.int w), some (tv t), some (mem w ahead t), some (vi line), none, none, none] rfl rfl (by decide) rfl (seqE ?_)
  rw [wS, wE]
  refine l0 (v := []) (by simp [ev_var, ev_int, ev_bl, ev_non, ev_str, ev_gint, ev_gstr, ev_bin, ev_neg, ev_cmp, ev_chain, ev_and, ev_or, ev_not, ev_ite, ev_tup, ev_lst, ev_ix, ev_call, ev_blt, ev_isi, ev_meth, ev_slc, evL, evI, ixO, itemsO, lisO, ixN, binO, binIO, cmpO, cmpIO, isBl, isInt, bltO, methO, eqO, isNon, isNonE, slcO, isiO, tyN, isSub, knownTy, tO, tsO, wipeP]) ⟨by simp [ev_var, ev_int, ev_bl, ev_non, ev_str, ev_gint, ev_gstr, ev_bin, ev_neg, ev_cmp, ev_chain, ev_and, ev_or, ev_not, ev_ite, ev_tup, ev_lst, ev_ix, ev_call, ev_blt, ev_isi, ev_meth, ev_slc, evL, evI, ixO, itemsO, lisO, ixN, binO, binIO, cmpO, cmpIO, isBl, isInt, bltO, methO, eqO, isNon, isNonE, slcO, isiO, tyN, isSub, knownTy, tO, tsO, wipeP, szOk], ?_⟩
  rw [if_pos rfl]
  show wT _ _ ⟨[some (.int w), some (tv t), some (mem w ahead t), some (vi line), none, none, none], st ++ [.lst []]⟩ _
  rw [wT]
  refine ⟨by simp [ev_var, ev_int, ev_bl, ev_non, ev_str, ev_gint, ev_gstr, ev_bin, ev_neg, ev_cmp, ev_chain, ev_and, ev_or, ev_not, ev_ite, ev_tup, ev_lst, ev_ix, ev_call, ev_blt, ev_isi, ev_meth, ev_slc, evL, evI, ixO, itemsO, lisO, ixN, binO, binIO, cmpO, cmpIO, isBl, isInt, bltO, methO, eqO, isNon, isNonE, slcO, isiO, tyN, isSub, knownTy, tO, tsO, wipeP], ?_⟩
  show wS _ _ ⟨[some (.int w), some (tv t), some (mem w ahead t), some (vi line), some (.ref st.length), none, none], st ++ [.lst []]⟩ _
  refine cut (fun p => ∃ e5 e6 : Option PV, p = ⟨[some (.int w), some (tv t), some (mem w (ahead ++ line) t), some (vi line), some (.ref st.length), e5, e6], st ++ [.lst ((pays w t ahead line).map .int)]⟩) ?_ ?_
  · rw [wS]
    refine i_tup (xs := line.map .int) (by simp [ev_var, ev_int, ev_bl, ev_non, ev_str, ev_gint, ev_gstr, ev_bin, ev_neg, ev_cmp, ev_chain, ev_and, ev_or, ev_not, ev_ite, ev_tup, ev_lst, ev_ix, ev_call, ev_blt, ev_isi, ev_meth, ev_slc, evL, evI, ixO, itemsO, lisO, ixN, binO, binIO, cmpO, cmpIO, isBl, isInt, bltO, methO, eqO, isNon, isNonE, slcO, isiO, tyN, isSub, knownTy, tO, tsO, wipeP]) ?_
    refine for_ind (fun xs p => ∃ (as bs : List Int) (e5 e6 : Option PV), line = as ++ bs ∧ xs = bs.map .int ∧ p = ⟨[some (.int w), some (tv t), some (mem w (ahead ++ as) t), some (vi line), some (.ref st.length), e5, e6], st ++ [.lst ((pays w t ahead as).map .int)]⟩) ?_ ?_ _ _ ⟨[], line, none, none, rfl, rfl, by rw [List.append_nil]; rfl⟩
    · rintro p ⟨as, bs, e5, e6, e1, e2, rfl⟩
      obtain rfl : bs = [] := by cases bs with | nil => rfl | cons _ _ => cases e2
      rw [List.append_nil] at e1
      subst e1
      exact ⟨trivial, e5, e6, rfl⟩
    · rintro x xs p K ⟨as, bs, e5, e6, e1, e2, rfl⟩ hK
      cases bs with
      | nil => cases e2
      | cons b bs =>
        cases e2
        have hlen : line.length = as.length + (bs.length + 1) := by rw [e1]; simp [ev_var, ev_int, ev_bl, ev_non, ev_str, ev_gint, ev_gstr, ev_bin, ev_neg, ev_cmp, ev_chain, ev_and, ev_or, ev_not, ev_ite, ev_tup, ev_lst, ev_ix, ev_call, ev_blt, ev_isi, ev_meth, ev_slc, evL, evI, ixO, itemsO, lisO, ixN, binO, binIO, cmpO, cmpIO, isBl, isInt, bltO, methO, eqO, isNon, isNonE, slcO, isiO, tyN, isSub, knownTy, tO, tsO, wipeP]
        refine ⟨trivial, tO_ok _ _ _ [some (.int w), some (tv t), some (mem w (ahead ++ as) t), some (vi line), some (.ref st.length), some (.int b), e6] _ (by simp [ev_var, ev_int, ev_bl, ev_non, ev_str, ev_gint, ev_gstr, ev_bin, ev_neg, ev_cmp, ev_chain, ev_and, ev_or, ev_not, ev_ite, ev_tup, ev_lst, ev_ix, ev_call, ev_blt, ev_isi, ev_meth, ev_slc, evL, evI, ixO, itemsO, lisO, ixN, binO, binIO, cmpO, cmpIO, isBl, isInt, bltO, methO, eqO, isNon, isNonE, slcO, isiO, tyN, isSub, knownTy, tO, tsO, wipeP]) ?_⟩
        refine seqE ?_
        rw [wS]
        refine e_pc (pc27 hw t ht ht12 (ahead ++ as) (by rw [List.length_append]; omega) b d) (by simp [ev_var, ev_int, ev_bl, ev_non, ev_str, ev_gint, ev_gstr, ev_bin, ev_neg, ev_cmp, ev_chain, ev_and, ev_or, ev_not, ev_ite, ev_tup, ev_lst, ev_ix, ev_call, ev_blt, ev_isi, ev_meth, ev_slc, evL, evI, ixO, itemsO, lisO, ixN, binO, binIO, cmpO, cmpIO, isBl, isInt, bltO, methO, eqO, isNon, isNonE, slcO, isiO, tyN, isSub, knownTy, tO, tsO, wipeP]) ?_
        refine tO_ok _ _ _ [some (.int w), some (tv t), some (mem w (ahead ++ as ++ [b]) t), some (vi line), some (.ref st.length), some (.int b), some (.int (daySum w t (ahead ++ as) b))] _ (by simp [ev_var, ev_int, ev_bl, ev_non, ev_str, ev_gint, ev_gstr, ev_bin, ev_neg, ev_cmp, ev_chain, ev_and, ev_or, ev_not, ev_ite, ev_tup, ev_lst, ev_ix, ev_call, ev_blt, ev_isi, ev_meth, ev_slc, evL, evI, ixO, itemsO, lisO, ixN, binO, binIO, cmpO, cmpIO, isBl, isInt, bltO, methO, eqO, isNon, isNonE, slcO, isiO, tyN, isSub, knownTy, tO, tsO, wipeP]) ?_
        refine seqE ?_
        rw [wS, wE]
        have hget : (st ++ [.lst ((pays w t ahead as).map .int)])[st.length]? = some (SO.lst ((pays w t ahead as).map .int)) := by simp [ev_var, ev_int, ev_bl, ev_non, ev_str, ev_gint, ev_gstr, ev_bin, ev_neg, ev_cmp, ev_chain, ev_and, ev_or, ev_not, ev_ite, ev_tup, ev_lst, ev_ix, ev_call, ev_blt, ev_isi, ev_meth, ev_slc, evL, evI, ixO, itemsO, lisO, ixN, binO, binIO, cmpO, cmpIO, isBl, isInt, bltO, methO, eqO, isNon, isNonE, slcO, isiO, tyN, isSub, knownTy, tO, tsO, wipeP]
        refine e0 (v := .ref st.length) (by simp [ev_var, ev_int, ev_bl, ev_non, ev_str, ev_gint, ev_gstr, ev_bin, ev_neg, ev_cmp, ev_chain, ev_and, ev_or, ev_not, ev_ite, ev_tup, ev_lst, ev_ix, ev_call, ev_blt, ev_isi, ev_meth, ev_slc, evL, evI, ixO, itemsO, lisO, ixN, binO, binIO, cmpO, cmpIO, isBl, isInt, bltO, methO, eqO, isNon, isNonE, slcO, isiO, tyN, isSub, knownTy, tO, tsO, wipeP]) ⟨⟨_, hget, trivial⟩, ?_⟩
        rw [wL]
        refine e0 (v := .int (daySum w t (ahead ++ as) b)) (by simp [ev_var, ev_int, ev_bl, ev_non, ev_str, ev_gint, ev_gstr, ev_bin, ev_neg, ev_cmp, ev_chain, ev_and, ev_or, ev_not, ev_ite, ev_tup, ev_lst, ev_ix, ev_call, ev_blt, ev_isi, ev_meth, ev_slc, evL, evI, ixO, itemsO, lisO, ixN, binO, binIO, cmpO, cmpIO, isBl, isInt, bltO, methO, eqO, isNon, isNonE, slcO, isiO, tyN, isSub, knownTy, tO, tsO, wipeP]) ?_
        rw [wL]
        refine ⟨st.length, _, rfl, hget, by rw [List.length_map, pays_len]; omega, ?_⟩
        refine nopE (F := wF tbl (d + 3)) ?_
        refine hK _ ⟨as ++ [b], bs, some (.int b), some (.int (daySum w t (ahead ++ as) b)), by rw [e1]; simp [ev_var, ev_int, ev_bl, ev_non, ev_str, ev_gint, ev_gstr, ev_bin, ev_neg, ev_cmp, ev_chain, ev_and, ev_or, ev_not, ev_ite, ev_tup, ev_lst, ev_ix, ev_call, ev_blt, ev_isi, ev_meth, ev_slc, evL, evI, ixO, itemsO, lisO, ixN, binO, binIO, cmpO, cmpIO, isBl, isInt, bltO, methO, eqO, isNon, isNonE, slcO, isiO, tyN, isSub, knownTy, tO, tsO, wipeP], rfl, ?_⟩
        have e3 : pays w t ahead (as ++ [b]) = pays w t ahead as ++ [daySum w t (ahead ++ as) b] := by
          have : ∀ (as ahead : List Int), pays w t ahead (as ++ [b]) = pays w t ahead as ++ [daySum w t (ahead ++ as) b] := by
            intro as
            induction as with
            | nil => intro ahead; simp [ev_var, ev_int, ev_bl, ev_non, ev_str, ev_gint, ev_gstr, ev_bin, ev_neg, ev_cmp, ev_chain, ev_and, ev_or, ev_not, ev_ite, ev_tup, ev_lst, ev_ix, ev_call, ev_blt, ev_isi, ev_meth, ev_slc, evL, evI, ixO, itemsO, lisO, ixN, binO, binIO, cmpO, cmpIO, isBl, isInt, bltO, methO, eqO, isNon, isNonE, slcO, isiO, tyN, isSub, knownTy, tO, tsO, wipeP, pays]
            | cons a as ih =>
              intro ahead
              rw [List.cons_append, pays, ih, pays]
              simp [ev_var, ev_int, ev_bl, ev_non, ev_str, ev_gint, ev_gstr, ev_bin, ev_neg, ev_cmp, ev_chain, ev_and, ev_or, ev_not, ev_ite, ev_tup, ev_lst, ev_ix, ev_call, ev_blt, ev_isi, ev_meth, ev_slc, evL, evI, ixO, itemsO, lisO, ixN, binO, binIO, cmpO, cmpIO, isBl, isInt, bltO, methO, eqO, isNon, isNonE, slcO, isiO, tyN, isSub, knownTy, tO, tsO, wipeP]
          exact this as ahead
        rw [e3]
        simp [ev_var, ev_int, ev_bl, ev_non, ev_str, ev_gint, ev_gstr, ev_bin, ev_neg, ev_cmp, ev_chain, ev_and, ev_or, ev_not, ev_ite, ev_tup, ev_lst, ev_ix, ev_call, ev_blt, ev_isi, ev_meth, ev_slc, evL, evI, ixO, itemsO, lisO, ixN, binO, binIO, cmpO, cmpIO, isBl, isInt, bltO, methO, eqO, isNon, isNonE, slcO, isiO, tyN, isSub, knownTy, tO, tsO, wipeP]
  · rintro p ⟨e5, e6, rfl⟩
    refine seqE (ret_ok (v := .tup [mem w (ahead ++ line) t, .ref st.length]) ?_ hq)
    exact ev_tup2 (by simp [ev_var, ev_int, ev_bl, ev_non, ev_str, ev_gint, ev_gstr, ev_bin, ev_neg, ev_cmp, ev_chain, ev_and, ev_or, ev_not, ev_ite, ev_tup, ev_lst, ev_ix, ev_call, ev_blt, ev_isi, ev_meth, ev_slc, evL, evI, ixO, itemsO, lisO, ixN, binO, binIO, cmpO, cmpIO, isBl, isInt, bltO, methO, eqO, isNon, isNonE, slcO, isiO, tyN, isSub, knownTy, tO, tsO, wipeP]) (by simp [ev_var, ev_int, ev_bl, ev_non, ev_str, ev_gint, ev_gstr, ev_bin, ev_neg, ev_cmp, ev_chain, ev_and, ev_or, ev_not, ev_ite, ev_tup, ev_lst, ev_ix, ev_call, ev_blt, ev_isi, ev_meth, ev_slc, evL, evI, ixO, itemsO, lisO, ixN, binO, binIO, cmpO, cmpIO, isBl, isInt, bltO, methO, eqO, isNon, isNonE, slcO, isiO, tyN, isSub, knownTy, tO, tsO, wipeP])
theorem th_tup {xs : List PV} (hl : xs.length ≤ 1000) (h : ∀ x ∈ xs, thB x = true) : thB (.tup xs) = true := by
  simp only [thB, Bool.and_eq_true, decide_eq_true_eq]
  exact ⟨hl, thsB_of h⟩
theorem th_str {x : PySem.Str} (h : PySem.PyData.strOk x = true) : thB (.str x) = true := by simpa only [thB] using h
theorem th_v {w : Nat} {sh : Nat} (hw2 : w ≤ 28) (hs2 : sh ≤ 6) {r : PR} (h : PrOk w sh r) : thB r.v = true := by
  have hl : ∀ {hi : Int} {ls : List Int}, LotOk 0 hi ls → hi ≤ 28 → ls.length ≤ 1000 := fun {hi ls} l h28 => by
    obtain ⟨x, hx⟩ := List.exists_mem_of_ne_nil ls l.ne
    have := l.in_ x hx
    have := asc_len l.up l.in_ (by omega)
    omega
  cases r with
  | each ls a =>
    have := th_vi (hl h.1 (by omega))
    refine th_tup (by simp [ev_var, ev_int, ev_bl, ev_non, ev_str, ev_gint, ev_gstr, ev_bin, ev_neg, ev_cmp, ev_chain, ev_and, ev_or, ev_not, ev_ite, ev_tup, ev_lst, ev_ix, ev_call, ev_blt, ev_isi, ev_meth, ev_slc, evL, evI, ixO, itemsO, lisO, ixN, binO, binIO, cmpO, cmpIO, isBl, isInt, bltO, methO, eqO, isNon, isNonE, slcO, isiO, tyN, isSub, knownTy, tO, tsO, wipeP]) fun x hx => ?_
    simp only [List.mem_cons, List.not_mem_nil, or_false] at hx
    rcases hx with rfl | rfl | rfl
    · exact th_str sk1
    · exact this
    · exact rfl
  | row rs a =>
    have : thB (vb rs) = true := by
      simp only [thB, Bool.and_eq_true, decide_eq_true_eq]
      refine ⟨by have := h.2.1; simp [ev_var, ev_int, ev_bl, ev_non, ev_str, ev_gint, ev_gstr, ev_bin, ev_neg, ev_cmp, ev_chain, ev_and, ev_or, ev_not, ev_ite, ev_tup, ev_lst, ev_ix, ev_call, ev_blt, ev_isi, ev_meth, ev_slc, evL, evI, ixO, itemsO, lisO, ixN, binO, binIO, cmpO, cmpIO, isBl, isInt, bltO, methO, eqO, isNon, isNonE, slcO, isiO, tyN, isSub, knownTy, tO, tsO, wipeP]; omega, thsB_of fun x hx => ?_⟩
      obtain ⟨z, hz, rfl⟩ := List.mem_map.mp hx
      exact th_vi (hl (h.2.2.1 z hz) (by omega))
    refine th_tup (by simp [ev_var, ev_int, ev_bl, ev_non, ev_str, ev_gint, ev_gstr, ev_bin, ev_neg, ev_cmp, ev_chain, ev_and, ev_or, ev_not, ev_ite, ev_tup, ev_lst, ev_ix, ev_call, ev_blt, ev_isi, ev_meth, ev_slc, evL, evI, ixO, itemsO, lisO, ixN, binO, binIO, cmpO, cmpIO, isBl, isInt, bltO, methO, eqO, isNon, isNonE, slcO, isiO, tyN, isSub, knownTy, tO, tsO, wipeP]) fun x hx => ?_
    simp only [List.mem_cons, List.not_mem_nil, or_false] at hx
    rcases hx with rfl | rfl | rfl
    · exact th_str sk2
    · exact this
    · exact rfl
  | over ls m a =>
    have := th_vi (hl h.1 (by omega))
    refine th_tup (by simp [ev_var, ev_int, ev_bl, ev_non, ev_str, ev_gint, ev_gstr, ev_bin, ev_neg, ev_cmp, ev_chain, ev_and, ev_or, ev_not, ev_ite, ev_tup, ev_lst, ev_ix, ev_call, ev_blt, ev_isi, ev_meth, ev_slc, evL, evI, ixO, itemsO, lisO, ixN, binO, binIO, cmpO, cmpIO, isBl, isInt, bltO, methO, eqO, isNon, isNonE, slcO, isiO, tyN, isSub, knownTy, tO, tsO, wipeP]) fun x hx => ?_
    simp only [List.mem_cons, List.not_mem_nil, or_false] at hx
    rcases hx with rfl | rfl | rfl | rfl
    · exact th_str sk3
    · exact this
    · exact rfl
    · exact rfl
  | on ds ls a =>
    have h1 := th_vi (hl h.1 (by omega))
    have h2 := th_vi (hl h.2.1 (by omega))
    refine th_tup (by simp [ev_var, ev_int, ev_bl, ev_non, ev_str, ev_gint, ev_gstr, ev_bin, ev_neg, ev_cmp, ev_chain, ev_and, ev_or, ev_not, ev_ite, ev_tup, ev_lst, ev_ix, ev_call, ev_blt, ev_isi, ev_meth, ev_slc, evL, evI, ixO, itemsO, lisO, ixN, binO, binIO, cmpO, cmpIO, isBl, isInt, bltO, methO, eqO, isNon, isNonE, slcO, isiO, tyN, isSub, knownTy, tO, tsO, wipeP]) fun x hx => ?_
    simp only [List.mem_cons, List.not_mem_nil, or_false] at hx
    rcases hx with rfl | rfl | rfl | rfl
    · exact th_str sk4
    · exact h1
    · exact h2
    · exact rfl
theorem th_tv {w sh : Nat} (hw2 : w ≤ 28) (hs2 : sh ≤ 6) {t : List PR} (ht : ∀ r ∈ t, PrOk w sh r) (hl : t.length ≤ 1000) : thB (tv t) = true := by
  simp only [thB, Bool.and_eq_true, decide_eq_true_eq]
  refine ⟨by simpa [ev_var, ev_int, ev_bl, ev_non, ev_str, ev_gint, ev_gstr, ev_bin, ev_neg, ev_cmp, ev_chain, ev_and, ev_or, ev_not, ev_ite, ev_tup, ev_lst, ev_ix, ev_call, ev_blt, ev_isi, ev_meth, ev_slc, evL, evI, ixO, itemsO, lisO, ixN, binO, binIO, cmpO, cmpIO, isBl, isInt, bltO, methO, eqO, isNon, isNonE, slcO, isiO, tyN, isSub, knownTy, tO, tsO, wipeP] using hl, thsB_of fun x hx => ?_⟩
  obtain ⟨r, hr, rfl⟩ := List.mem_map.mp hx
  exact th_v hw2 hs2 (ht r hr)
theorem am {a : Int} (h1 : -1000 ≤ a) (h2 : a ≤ 1000) : wiB (-1000) 1000 (.int a) = true := by simp [ev_var, ev_int, ev_bl, ev_non, ev_str, ev_gint, ev_gstr, ev_bin, ev_neg, ev_cmp, ev_chain, ev_and, ev_or, ev_not, ev_ite, ev_tup, ev_lst, ev_ix, ev_call, ev_blt, ev_isi, ev_meth, ev_slc, evL, evI, ixO, itemsO, lisO, ixN, binO, binIO, cmpO, cmpIO, isBl, isInt, bltO, methO, eqO, isNon, isNonE, slcO, isiO, tyN, isSub, knownTy, tO, tsO, wipeP, wiB, h1, h2]
theorem pay_yes {w sh : Int} {r : PR} (h : PrOk w sh r) : payB w sh r.v = true := by
  cases r with
  | each ls a => simp [ev_var, ev_int, ev_bl, ev_non, ev_str, ev_gint, ev_gstr, ev_bin, ev_neg, ev_cmp, ev_chain, ev_and, ev_or, ev_not, ev_ite, ev_tup, ev_lst, ev_ix, ev_call, ev_blt, ev_isi, ev_meth, ev_slc, evL, evI, ixO, itemsO, lisO, ixN, binO, binIO, cmpO, cmpIO, isBl, isInt, bltO, methO, eqO, isNon, isNonE, slcO, isiO, tyN, isSub, knownTy, tO, tsO, wipeP, PR.v, payB, am h.2.1 h.2.2, lot_yes h.1]
  | row rs a =>
    have hr : rowB sh (vb rs) = true := by
      have h1 := h.1
      have h2 := h.2.1
      have e1 : szB 2 6 (vb rs) = true := by simp [ev_var, ev_int, ev_bl, ev_non, ev_str, ev_gint, ev_gstr, ev_bin, ev_neg, ev_cmp, ev_chain, ev_and, ev_or, ev_not, ev_ite, ev_tup, ev_lst, ev_ix, ev_call, ev_blt, ev_isi, ev_meth, ev_slc, evL, evI, ixO, itemsO, lisO, ixN, binO, binIO, cmpO, cmpIO, isBl, isInt, bltO, methO, eqO, isNon, isNonE, slcO, isiO, tyN, isSub, knownTy, tO, tsO, wipeP, szB]; omega
      have e2 : (rs.map vi).all (lotB 0 sh) = true := by
        rw [List.all_map, List.all_eq_true]
        exact fun z hz => lot_yes (h.2.2.1 z hz)
      simp only [rowB, e1, e2, Bool.and_self]
    simp [ev_var, ev_int, ev_bl, ev_non, ev_str, ev_gint, ev_gstr, ev_bin, ev_neg, ev_cmp, ev_chain, ev_and, ev_or, ev_not, ev_ite, ev_tup, ev_lst, ev_ix, ev_call, ev_blt, ev_isi, ev_meth, ev_slc, evL, evI, ixO, itemsO, lisO, ixN, binO, binIO, cmpO, cmpIO, isBl, isInt, bltO, methO, eqO, isNon, isNonE, slcO, isiO, tyN, isSub, knownTy, tO, tsO, wipeP, PR.v, payB, am h.2.2.2.1 h.2.2.2.2, kw1, hr]
  | over ls m a =>
    have e : wiB 0 28 (.int m) = true := by simp [ev_var, ev_int, ev_bl, ev_non, ev_str, ev_gint, ev_gstr, ev_bin, ev_neg, ev_cmp, ev_chain, ev_and, ev_or, ev_not, ev_ite, ev_tup, ev_lst, ev_ix, ev_call, ev_blt, ev_isi, ev_meth, ev_slc, evL, evI, ixO, itemsO, lisO, ixN, binO, binIO, cmpO, cmpIO, isBl, isInt, bltO, methO, eqO, isNon, isNonE, slcO, isiO, tyN, isSub, knownTy, tO, tsO, wipeP, wiB, h.2.1, h.2.2.1]
    simp [ev_var, ev_int, ev_bl, ev_non, ev_str, ev_gint, ev_gstr, ev_bin, ev_neg, ev_cmp, ev_chain, ev_and, ev_or, ev_not, ev_ite, ev_tup, ev_lst, ev_ix, ev_call, ev_blt, ev_isi, ev_meth, ev_slc, evL, evI, ixO, itemsO, lisO, ixN, binO, binIO, cmpO, cmpIO, isBl, isInt, bltO, methO, eqO, isNon, isNonE, slcO, isiO, tyN, isSub, knownTy, tO, tsO, wipeP, PR.v, payB, am h.2.2.2.1 h.2.2.2.2, kw2, kw3, lot_yes h.1, e]
  | on ds ls a => simp [ev_var, ev_int, ev_bl, ev_non, ev_str, ev_gint, ev_gstr, ev_bin, ev_neg, ev_cmp, ev_chain, ev_and, ev_or, ev_not, ev_ite, ev_tup, ev_lst, ev_ix, ev_call, ev_blt, ev_isi, ev_meth, ev_slc, evL, evI, ixO, itemsO, lisO, ixN, binO, binIO, cmpO, cmpIO, isBl, isInt, bltO, methO, eqO, isNon, isNonE, slcO, isiO, tyN, isSub, knownTy, tO, tsO, wipeP, PR.v, payB, am h.2.2.1 h.2.2.2, kw4, kw5, kw6, lot_yes h.1, lot_yes h.2.1]
theorem tar_yes {w sh : Int} {t : List PR} (hne : t ≠ []) (ht : ∀ r ∈ t, PrOk w sh r) (h12 : t.length ≤ 12) : tarB w sh (tv t) = true := by
  have e1 : szB 1 12 (tv t) = true := by
    have := List.length_pos_iff.mpr hne
    simp [ev_var, ev_int, ev_bl, ev_non, ev_str, ev_gint, ev_gstr, ev_bin, ev_neg, ev_cmp, ev_chain, ev_and, ev_or, ev_not, ev_ite, ev_tup, ev_lst, ev_ix, ev_call, ev_blt, ev_isi, ev_meth, ev_slc, evL, evI, ixO, itemsO, lisO, ixN, binO, binIO, cmpO, cmpIO, isBl, isInt, bltO, methO, eqO, isNon, isNonE, slcO, isiO, tyN, isSub, knownTy, tO, tsO, wipeP, szB]; omega
  have e2 : (t.map PR.v).all (payB w sh) = true := by
    rw [List.all_map, List.all_eq_true]
    exact fun r hr => pay_yes (ht r hr)
  simp only [tarB, e1, e2, Bool.and_self]
theorem ev_in2 {G : Orc} {a : E} {p : PSt} {x y z : PySem.Str} (h1 : ev G a p = some (.str x)) : ev G (.cmp .In a (.tup (.cons (.str y) (.cons (.str z) .nil)))) p = some (.bl (decide (y = x) || decide (z = x))) := by
  have e : ∀ u : PySem.Str, PySem.PyData.eqv (PV.str u).d (PV.str x).d = decide (u = x) := fun u => by
    rw [PV.d, PV.d, PySem.PyData.eqv]
    by_cases h : u = x <;> simp [ev_var, ev_int, ev_bl, ev_non, ev_str, ev_gint, ev_gstr, ev_bin, ev_neg, ev_cmp, ev_chain, ev_and, ev_or, ev_not, ev_ite, ev_tup, ev_lst, ev_ix, ev_call, ev_blt, ev_isi, ev_meth, ev_slc, evL, evI, ixO, itemsO, lisO, ixN, binO, binIO, cmpO, cmpIO, isBl, isInt, bltO, methO, eqO, isNon, isNonE, slcO, isiO, tyN, isSub, knownTy, tO, tsO, wipeP, h]
  rw [ev_cmp, h1, ev_tup, evL, evL, evL, ev_str, ev_str]
  show Option.map PV.bl (if flat (.str x) = true ∧ [PV.str y, PV.str z].all flat = true then some ([PV.str y, PV.str z].any fun z => PySem.PyData.eqv z.d (PV.str x).d) else none) = _
  rw [if_pos ⟨rfl, rfl⟩, List.any_cons, List.any_cons, List.any_nil, e, e, Bool.or_false]
  rfl
theorem pure_vi (ls : List Int) : Pure (vi ls) := .tup fun x hx => by
  obtain ⟨z, _, rfl⟩ := List.mem_map.mp hx
  exact .int
theorem pure_kp (k : Kp) : Pure k.v := by
  cases k with
  | no => exact .tup fun x hx => by cases hx
  | row ls => exact pure_vi ls
  | cnt n => exact .int
theorem pure_mem (w : Nat) (line : List Int) (t : List PR) : Pure (mem w line t) := .tup fun x hx => by
  simp only [List.mem_cons, List.not_mem_nil, or_false] at hx
  rcases hx with rfl | rfl
  · exact .int
  · refine .tup fun x hx => ?_
    obtain ⟨r, _, rfl⟩ := List.mem_map.mp hx
    exact pure_kp _
/-- what is asked of a drawn tariff and line -/
structure TOk (w sh : Nat) (t : List PR) (line : List Int) : Prop where
  w1 : 0 < w
  w2 : w ≤ 28
  s1 : 0 < sh
  s2 : sh ≤ 6
  ne : t ≠ []
  l12 : t.length ≤ 12
  rl : ∀ r ∈ t, PrOk w sh r
  l60 : line.length ≤ 900
  let_ : ∀ x ∈ line, 0 ≤ x ∧ x ≤ (sh : Int)
section
variable {w sh : Nat} {t : List PR} {line : List Int} (h : TOk w sh t line)
include h
theorem TOk.sz : szs w sh = true := by
  have := h.w1
  have := h.w2
  have := h.s1
  have := h.s2
  simp [ev_var, ev_int, ev_bl, ev_non, ev_str, ev_gint, ev_gstr, ev_bin, ev_neg, ev_cmp, ev_chain, ev_and, ev_or, ev_not, ev_ite, ev_tup, ev_lst, ev_ix, ev_call, ev_blt, ev_isi, ev_meth, ev_slc, evL, evI, ixO, itemsO, lisO, ixN, binO, binIO, cmpO, cmpIO, isBl, isInt, bltO, methO, eqO, isNon, isNonE, slcO, isiO, tyN, isSub, knownTy, tO, tsO, wipeP, szs, wiB]; omega
theorem TOk.th : thB (tv t) = true := th_tv h.w2 h.s2 h.rl (by have := h.l12; omega)
theorem TOk.yes : tarB w sh (tv t) = true := tar_yes h.ne h.rl h.l12
theorem TOk.fin : G4 24 [.int sh, vi line] = some (.bl true) := by
  have e1 : thB (vi line) = true := th_vi (by have := h.l60; omega)
  have e2 : (line.map PV.int).all (wiB 0 sh) = true := by
    rw [List.all_map, List.all_eq_true]
    intro x hx
    have := h.let_ x hx
    simp [ev_var, ev_int, ev_bl, ev_non, ev_str, ev_gint, ev_gstr, ev_bin, ev_neg, ev_cmp, ev_chain, ev_and, ev_or, ev_not, ev_ite, ev_tup, ev_lst, ev_ix, ev_call, ev_blt, ev_isi, ev_meth, ev_slc, evL, evI, ixO, itemsO, lisO, ixN, binO, binIO, cmpO, cmpIO, isBl, isInt, bltO, methO, eqO, isNon, isNonE, slcO, isiO, tyN, isSub, knownTy, tO, tsO, wipeP, wiB, this]
  show (if thB (vi line) = true then some (PV.bl ((line.map PV.int).all (wiB 0 sh))) else none) = _
  rw [if_pos e1, e2]
end
end K69

/-! K69g: lowest terms; sums over periods. -/
namespace K69
open Den
theorem gcd_step (x y : Int) : Int.gcd y (x % y) = Int.gcd x y := by
  have h := Int.gcd_add_mul_right_right y (x % y) (x / y)
  have e : x % y + x / y * y = x := by
    rw [Int.emod_def, Int.mul_comm y (x / y)]
    omega
  rw [e] at h
  rw [← h, Int.gcd_comm]
/-- a fraction in lowest terms -/
abbrev low (a b : Int) : PV := .tup [.int (a / (Int.gcd a b : Nat)), .int (b / (Int.gcd a b : Nat))]
theorem low_eq {a b c d : Int} (hb : 0 < b) (hd : 0 < d) (h : a * d = c * b) : low a b = low c d := by
  have e1 : Int.gcd (a * d) (b * d) = Int.gcd a b * d.natAbs := Int.gcd_mul_right a d b
  have e2 : Int.gcd (c * b) (d * b) = Int.gcd c d * b.natAbs := Int.gcd_mul_right c b d
  have hdn : ((d.natAbs : Nat) : Int) = d := by omega
  have hbn : ((b.natAbs : Nat) : Int) = b := by omega
  have k1 : (a * d) / (Int.gcd (a * d) (b * d) : Nat) = a / (Int.gcd a b : Nat) := by
    rw [e1, Int.natCast_mul, hdn, Int.mul_ediv_mul_of_pos_left _ _ hd]
  have k2 : (b * d) / (Int.gcd (a * d) (b * d) : Nat) = b / (Int.gcd a b : Nat) := by
    rw [e1, Int.natCast_mul, hdn, Int.mul_ediv_mul_of_pos_left _ _ hd]
  have k3 : (c * b) / (Int.gcd (c * b) (d * b) : Nat) = c / (Int.gcd c d : Nat) := by
    rw [e2, Int.natCast_mul, hbn, Int.mul_ediv_mul_of_pos_left _ _ hb]
  have k4 : (d * b) / (Int.gcd (c * b) (d * b) : Nat) = d / (Int.gcd c d : Nat) := by
    rw [e2, Int.natCast_mul, hbn, Int.mul_ediv_mul_of_pos_left _ _ hb]
  have e3 : d * b = b * d := Int.mul_comm d b
  rw [← h, e3] at k3 k4
  unfold low
  rw [← k1, ← k2, ← k3, ← k4]
theorem gcd_small {a b : Int} (hb : 0 < b) (hb2 : b < 2147483648000) : 0 < ((Int.gcd a b : Nat) : Int) ∧ ((Int.gcd a b : Nat) : Int).natAbs.log2 < 9000 := by
  have h1 := Int.gcd_le_right a hb
  have h2 : 0 < Int.gcd a b := Int.gcd_pos_of_ne_zero_right a (by omega)
  exact ⟨by omega, log_one (by omega) (by omega)⟩
/-- common -/
theorem pc34 {a b : Int} (hb : 0 < b) (d : Nat) : PC tbl (d + 1) 34 [.int a, .int b] (.int (Int.gcd a b : Nat)) := fun st Q X hq => by
  refine wF_runE 2 2 b34 [some (.int a), some (.int b)] rfl rfl (by decide) rfl (cut (fun p => ∃ x : Int, p = ⟨[some (.int x), some (.int 0)], st⟩ ∧ Int.gcd x 0 = Int.gcd a b) ?_ ?_)
  · rw [wS]
    refine ⟨fun m p => ∃ x y : Int, p = ⟨[some (.int x), some (.int y)], st⟩ ∧ 0 ≤ y ∧ Int.gcd x y = Int.gcd a b ∧ m = y.toNat, ⟨_, a, b, rfl, by omega, rfl, rfl⟩, ?_⟩
    rintro m p ⟨x, y, rfl, h1, h2, rfl⟩
    refine e0 (v := .bl (!decide (y = 0))) (by simp [ev_var, ev_int, ev_bl, ev_non, ev_str, ev_gint, ev_gstr, ev_bin, ev_neg, ev_cmp, ev_chain, ev_and, ev_or, ev_not, ev_ite, ev_tup, ev_lst, ev_ix, ev_call, ev_blt, ev_isi, ev_meth, ev_slc, evL, evI, ixO, itemsO, lisO, ixN, binO, binIO, cmpO, cmpIO, isBl, isInt, bltO, methO, eqO, isNon, isNonE, slcO, isiO, tyN, isSub, knownTy, tO, tsO, wipeP]) ⟨_, rfl, ?_⟩
    by_cases hy : y = 0
    · subst hy
      rw [if_neg (by simp [ev_var, ev_int, ev_bl, ev_non, ev_str, ev_gint, ev_gstr, ev_bin, ev_neg, ev_cmp, ev_chain, ev_and, ev_or, ev_not, ev_ite, ev_tup, ev_lst, ev_ix, ev_call, ev_blt, ev_isi, ev_meth, ev_slc, evL, evI, ixO, itemsO, lisO, ixN, binO, binIO, cmpO, cmpIO, isBl, isInt, bltO, methO, eqO, isNon, isNonE, slcO, isiO, tyN, isSub, knownTy, tO, tsO, wipeP])]
      exact ⟨x, rfl, h2⟩
    · rw [if_pos (by simp [ev_var, ev_int, ev_bl, ev_non, ev_str, ev_gint, ev_gstr, ev_bin, ev_neg, ev_cmp, ev_chain, ev_and, ev_or, ev_not, ev_ite, ev_tup, ev_lst, ev_ix, ev_call, ev_blt, ev_isi, ev_meth, ev_slc, evL, evI, ixO, itemsO, lisO, ixN, binO, binIO, cmpO, cmpIO, isBl, isInt, bltO, methO, eqO, isNon, isNonE, slcO, isiO, tyN, isSub, knownTy, tO, tsO, wipeP, hy])]
      refine seqE ?_
      have hy0 : 0 < y := by omega
      rw [wS]
      refine e0 (v := .int y) (by simp [ev_var, ev_int, ev_bl, ev_non, ev_str, ev_gint, ev_gstr, ev_bin, ev_neg, ev_cmp, ev_chain, ev_and, ev_or, ev_not, ev_ite, ev_tup, ev_lst, ev_ix, ev_call, ev_blt, ev_isi, ev_meth, ev_slc, evL, evI, ixO, itemsO, lisO, ixN, binO, binIO, cmpO, cmpIO, isBl, isInt, bltO, methO, eqO, isNon, isNonE, slcO, isiO, tyN, isSub, knownTy, tO, tsO, wipeP]) (e0 (v := .int (x % y)) (by simp [ev_var, ev_int, ev_bl, ev_non, ev_str, ev_gint, ev_gstr, ev_bin, ev_neg, ev_cmp, ev_chain, ev_and, ev_or, ev_not, ev_ite, ev_tup, ev_lst, ev_ix, ev_call, ev_blt, ev_isi, ev_meth, ev_slc, evL, evI, ixO, itemsO, lisO, ixN, binO, binIO, cmpO, cmpIO, isBl, isInt, bltO, methO, eqO, isNon, isNonE, slcO, isiO, tyN, isSub, knownTy, tO, tsO, wipeP, hy0]) ⟨by simp [ev_var, ev_int, ev_bl, ev_non, ev_str, ev_gint, ev_gstr, ev_bin, ev_neg, ev_cmp, ev_chain, ev_and, ev_or, ev_not, ev_ite, ev_tup, ev_lst, ev_ix, ev_call, ev_blt, ev_isi, ev_meth, ev_slc, evL, evI, ixO, itemsO, lisO, ixN, binO, binIO, cmpO, cmpIO, isBl, isInt, bltO, methO, eqO, isNon, isNonE, slcO, isiO, tyN, isSub, knownTy, tO, tsO, wipeP], by simp [ev_var, ev_int, ev_bl, ev_non, ev_str, ev_gint, ev_gstr, ev_bin, ev_neg, ev_cmp, ev_chain, ev_and, ev_or, ev_not, ev_ite, ev_tup, ev_lst, ev_ix, ev_call, ev_blt, ev_isi, ev_meth, ev_slc, evL, evI, ixO, itemsO, lisO, ixN, binO, binIO, cmpO, cmpIO, isBl, isInt, bltO, methO, eqO, isNon, isNonE, slcO, isiO, tyN, isSub, knownTy, tO, tsO, wipeP], ?_⟩)
      refine nopE (F := wF tbl d) ⟨(x % y).toNat, ?_, y, x % y, rfl, Int.emod_nonneg _ hy, by rw [gcd_step]; exact h2, rfl⟩
      have := Int.emod_lt_of_pos x hy0
      have := Int.emod_nonneg x hy
      omega
  · rintro p ⟨x, rfl, h⟩
    refine seqE (ret_ok (v := .int (Int.gcd a b : Nat)) ?_ hq)
    rw [← h, Int.gcd_zero_right]
    have e : (if x < 0 then -x else x) = ((x.natAbs : Nat) : Int) := by omega
    simp [ev_var, ev_int, ev_bl, ev_non, ev_str, ev_gint, ev_gstr, ev_bin, ev_neg, ev_cmp, ev_chain, ev_and, ev_or, ev_not, ev_ite, ev_tup, ev_lst, ev_ix, ev_call, ev_blt, ev_isi, ev_meth, ev_slc, evL, evI, ixO, itemsO, lisO, ixN, binO, binIO, cmpO, cmpIO, isBl, isInt, bltO, methO, eqO, isNon, isNonE, slcO, isiO, tyN, isSub, knownTy, tO, tsO, wipeP, e]
/-- share -/
theorem pc33 {a b : Int} (hb : 0 < b) (hb2 : b < 2147483648000) (d : Nat) : PC tbl (d + 2) 33 [.int a, .int b] (low a b) := fun st Q X hq => by
  obtain ⟨h1, h2⟩ := gcd_small (a := a) hb hb2
  refine wF_runE 2 3 b33 [some (.int a), some (.int b), none] rfl rfl (by decide) rfl (seqE ?_)
  rw [wS]
  refine e_pc (pc34 (a := a) hb d) (by simp [ev_var, ev_int, ev_bl, ev_non, ev_str, ev_gint, ev_gstr, ev_bin, ev_neg, ev_cmp, ev_chain, ev_and, ev_or, ev_not, ev_ite, ev_tup, ev_lst, ev_ix, ev_call, ev_blt, ev_isi, ev_meth, ev_slc, evL, evI, ixO, itemsO, lisO, ixN, binO, binIO, cmpO, cmpIO, isBl, isInt, bltO, methO, eqO, isNon, isNonE, slcO, isiO, tyN, isSub, knownTy, tO, tsO, wipeP]) ?_
  rw [wT]
  refine ⟨by simp [ev_var, ev_int, ev_bl, ev_non, ev_str, ev_gint, ev_gstr, ev_bin, ev_neg, ev_cmp, ev_chain, ev_and, ev_or, ev_not, ev_ite, ev_tup, ev_lst, ev_ix, ev_call, ev_blt, ev_isi, ev_meth, ev_slc, evL, evI, ixO, itemsO, lisO, ixN, binO, binIO, cmpO, cmpIO, isBl, isInt, bltO, methO, eqO, isNon, isNonE, slcO, isiO, tyN, isSub, knownTy, tO, tsO, wipeP], ?_⟩
  show wS _ _ ⟨[some (.int a), some (.int b), some (.int (Int.gcd a b : Nat))], st⟩ _
  generalize hg : ((Int.gcd a b : Nat) : Int) = g at h1 h2
  refine seqE (ite_ok false (by simp [ev_var, ev_int, ev_bl, ev_non, ev_str, ev_gint, ev_gstr, ev_bin, ev_neg, ev_cmp, ev_chain, ev_and, ev_or, ev_not, ev_ite, ev_tup, ev_lst, ev_ix, ev_call, ev_blt, ev_isi, ev_meth, ev_slc, evL, evI, ixO, itemsO, lisO, ixN, binO, binIO, cmpO, cmpIO, isBl, isInt, bltO, methO, eqO, isNon, isNonE, slcO, isiO, tyN, isSub, knownTy, tO, tsO, wipeP]; omega) (fun z => by cases z) (fun _ => nopE (F := wF tbl (d + 1)) ?_))
  refine seqE (ret_ok (v := low a b) ?_ hq)
  unfold low
  rw [hg]
  simp [ev_var, ev_int, ev_bl, ev_non, ev_str, ev_gint, ev_gstr, ev_bin, ev_neg, ev_cmp, ev_chain, ev_and, ev_or, ev_not, ev_ite, ev_tup, ev_lst, ev_ix, ev_call, ev_blt, ev_isi, ev_meth, ev_slc, evL, evI, ixO, itemsO, lisO, ixN, binO, binIO, cmpO, cmpIO, isBl, isInt, bltO, methO, eqO, isNon, isNonE, slcO, isiO, tyN, isSub, knownTy, tO, tsO, wipeP, h1, h2]
/-- _law_lowest -/
theorem pc32 {a b : Int} (hb : 0 < b) (hb2 : b < 2147483648000) (d : Nat) : PC tbl (d + 1) 32 [.int a, .int b] (low a b) := fun st Q X hq => by
  obtain ⟨h1, h2⟩ := gcd_small (a := a) hb hb2
  refine wF_runE 2 4 b32 [some (.int a), some (.int b), none, none] rfl rfl (by decide) rfl (seqE ?_)
  rw [wS]
  have ea : (if a < 0 then -a else a) = ((a.natAbs : Nat) : Int) := by omega
  refine e0 (v := .int (a.natAbs : Nat)) (by simp [ev_var, ev_int, ev_bl, ev_non, ev_str, ev_gint, ev_gstr, ev_bin, ev_neg, ev_cmp, ev_chain, ev_and, ev_or, ev_not, ev_ite, ev_tup, ev_lst, ev_ix, ev_call, ev_blt, ev_isi, ev_meth, ev_slc, evL, evI, ixO, itemsO, lisO, ixN, binO, binIO, cmpO, cmpIO, isBl, isInt, bltO, methO, eqO, isNon, isNonE, slcO, isiO, tyN, isSub, knownTy, tO, tsO, wipeP, ea]) (e0 (v := .int b) (by simp [ev_var, ev_int, ev_bl, ev_non, ev_str, ev_gint, ev_gstr, ev_bin, ev_neg, ev_cmp, ev_chain, ev_and, ev_or, ev_not, ev_ite, ev_tup, ev_lst, ev_ix, ev_call, ev_blt, ev_isi, ev_meth, ev_slc, evL, evI, ixO, itemsO, lisO, ixN, binO, binIO, cmpO, cmpIO, isBl, isInt, bltO, methO, eqO, isNon, isNonE, slcO, isiO, tyN, isSub, knownTy, tO, tsO, wipeP]) ⟨by simp [ev_var, ev_int, ev_bl, ev_non, ev_str, ev_gint, ev_gstr, ev_bin, ev_neg, ev_cmp, ev_chain, ev_and, ev_or, ev_not, ev_ite, ev_tup, ev_lst, ev_ix, ev_call, ev_blt, ev_isi, ev_meth, ev_slc, evL, evI, ixO, itemsO, lisO, ixN, binO, binIO, cmpO, cmpIO, isBl, isInt, bltO, methO, eqO, isNon, isNonE, slcO, isiO, tyN, isSub, knownTy, tO, tsO, wipeP], by simp [ev_var, ev_int, ev_bl, ev_non, ev_str, ev_gint, ev_gstr, ev_bin, ev_neg, ev_cmp, ev_chain, ev_and, ev_or, ev_not, ev_ite, ev_tup, ev_lst, ev_ix, ev_call, ev_blt, ev_isi, ev_meth, ev_slc, evL, evI, ixO, itemsO, lisO, ixN, binO, binIO, cmpO, cmpIO, isBl, isInt, bltO, methO, eqO, isNon, isNonE, slcO, isiO, tyN, isSub, knownTy, tO, tsO, wipeP], ?_⟩)
  show wS _ _ ⟨[some (.int a), some (.int b), some (.int (a.natAbs : Nat)), some (.int b)], st⟩ _
  refine cut (fun p => p = ⟨[some (.int a), some (.int b), some (.int 0), some (.int (Int.gcd a b : Nat))], st⟩) ?_ ?_
  · rw [wS]
    refine ⟨fun m p => ∃ x y : Int, p = ⟨[some (.int a), some (.int b), some (.int x), some (.int y)], st⟩ ∧ 0 ≤ x ∧ 0 < y ∧ Int.gcd y x = Int.gcd a b ∧ m = x.toNat, ⟨_, _, b, rfl, by omega, hb, by rw [Int.gcd_comm]; simp [ev_var, ev_int, ev_bl, ev_non, ev_str, ev_gint, ev_gstr, ev_bin, ev_neg, ev_cmp, ev_chain, ev_and, ev_or, ev_not, ev_ite, ev_tup, ev_lst, ev_ix, ev_call, ev_blt, ev_isi, ev_meth, ev_slc, evL, evI, ixO, itemsO, lisO, ixN, binO, binIO, cmpO, cmpIO, isBl, isInt, bltO, methO, eqO, isNon, isNonE, slcO, isiO, tyN, isSub, knownTy, tO, tsO, wipeP, Int.gcd], rfl⟩, ?_⟩
    rintro m p ⟨x, y, rfl, h3, h4, h5, rfl⟩
    refine e0 (v := .bl (decide (0 < x))) (by simp [ev_var, ev_int, ev_bl, ev_non, ev_str, ev_gint, ev_gstr, ev_bin, ev_neg, ev_cmp, ev_chain, ev_and, ev_or, ev_not, ev_ite, ev_tup, ev_lst, ev_ix, ev_call, ev_blt, ev_isi, ev_meth, ev_slc, evL, evI, ixO, itemsO, lisO, ixN, binO, binIO, cmpO, cmpIO, isBl, isInt, bltO, methO, eqO, isNon, isNonE, slcO, isiO, tyN, isSub, knownTy, tO, tsO, wipeP]) ⟨_, rfl, ?_⟩
    by_cases hx : 0 < x
    · rw [if_pos (by simp [ev_var, ev_int, ev_bl, ev_non, ev_str, ev_gint, ev_gstr, ev_bin, ev_neg, ev_cmp, ev_chain, ev_and, ev_or, ev_not, ev_ite, ev_tup, ev_lst, ev_ix, ev_call, ev_blt, ev_isi, ev_meth, ev_slc, evL, evI, ixO, itemsO, lisO, ixN, binO, binIO, cmpO, cmpIO, isBl, isInt, bltO, methO, eqO, isNon, isNonE, slcO, isiO, tyN, isSub, knownTy, tO, tsO, wipeP, hx])]
      refine seqE ?_
      rw [wS]
      refine e0 (v := .int (y % x)) (by simp [ev_var, ev_int, ev_bl, ev_non, ev_str, ev_gint, ev_gstr, ev_bin, ev_neg, ev_cmp, ev_chain, ev_and, ev_or, ev_not, ev_ite, ev_tup, ev_lst, ev_ix, ev_call, ev_blt, ev_isi, ev_meth, ev_slc, evL, evI, ixO, itemsO, lisO, ixN, binO, binIO, cmpO, cmpIO, isBl, isInt, bltO, methO, eqO, isNon, isNonE, slcO, isiO, tyN, isSub, knownTy, tO, tsO, wipeP, hx]) (e0 (v := .int x) (by simp [ev_var, ev_int, ev_bl, ev_non, ev_str, ev_gint, ev_gstr, ev_bin, ev_neg, ev_cmp, ev_chain, ev_and, ev_or, ev_not, ev_ite, ev_tup, ev_lst, ev_ix, ev_call, ev_blt, ev_isi, ev_meth, ev_slc, evL, evI, ixO, itemsO, lisO, ixN, binO, binIO, cmpO, cmpIO, isBl, isInt, bltO, methO, eqO, isNon, isNonE, slcO, isiO, tyN, isSub, knownTy, tO, tsO, wipeP]) ⟨by simp [ev_var, ev_int, ev_bl, ev_non, ev_str, ev_gint, ev_gstr, ev_bin, ev_neg, ev_cmp, ev_chain, ev_and, ev_or, ev_not, ev_ite, ev_tup, ev_lst, ev_ix, ev_call, ev_blt, ev_isi, ev_meth, ev_slc, evL, evI, ixO, itemsO, lisO, ixN, binO, binIO, cmpO, cmpIO, isBl, isInt, bltO, methO, eqO, isNon, isNonE, slcO, isiO, tyN, isSub, knownTy, tO, tsO, wipeP], by simp [ev_var, ev_int, ev_bl, ev_non, ev_str, ev_gint, ev_gstr, ev_bin, ev_neg, ev_cmp, ev_chain, ev_and, ev_or, ev_not, ev_ite, ev_tup, ev_lst, ev_ix, ev_call, ev_blt, ev_isi, ev_meth, ev_slc, evL, evI, ixO, itemsO, lisO, ixN, binO, binIO, cmpO, cmpIO, isBl, isInt, bltO, methO, eqO, isNon, isNonE, slcO, isiO, tyN, isSub, knownTy, tO, tsO, wipeP], ?_⟩)
      refine nopE (F := wF tbl d) ⟨(y % x).toNat, ?_, y % x, x, rfl, Int.emod_nonneg _ (by omega), hx, by rw [gcd_step]; exact h5, rfl⟩
      have := Int.emod_lt_of_pos y hx
      have := Int.emod_nonneg y (by omega : x ≠ 0)
      omega
    · obtain rfl : x = 0 := by omega
      rw [if_neg (by simp [ev_var, ev_int, ev_bl, ev_non, ev_str, ev_gint, ev_gstr, ev_bin, ev_neg, ev_cmp, ev_chain, ev_and, ev_or, ev_not, ev_ite, ev_tup, ev_lst, ev_ix, ev_call, ev_blt, ev_isi, ev_meth, ev_slc, evL, evI, ixO, itemsO, lisO, ixN, binO, binIO, cmpO, cmpIO, isBl, isInt, bltO, methO, eqO, isNon, isNonE, slcO, isiO, tyN, isSub, knownTy, tO, tsO, wipeP])]
      have : y = (Int.gcd a b : Nat) := by
        rw [← h5, Int.gcd_zero_right]; omega
      rw [this]
  · rintro p rfl
    generalize hg : ((Int.gcd a b : Nat) : Int) = g at h1 h2
    refine seqE (ret_ok (v := low a b) ?_ hq)
    unfold low
    rw [hg]
    simp [ev_var, ev_int, ev_bl, ev_non, ev_str, ev_gint, ev_gstr, ev_bin, ev_neg, ev_cmp, ev_chain, ev_and, ev_or, ev_not, ev_ite, ev_tup, ev_lst, ev_ix, ev_call, ev_blt, ev_isi, ev_meth, ev_slc, evL, evI, ixO, itemsO, lisO, ixN, binO, binIO, cmpO, cmpIO, isBl, isInt, bltO, methO, eqO, isNon, isNonE, slcO, isiO, tyN, isSub, knownTy, tO, tsO, wipeP, h1, h2]
/-! ### sums over periods -/
/-- the sum of f from n on, k of them -/
def win (f : Nat → Int) (n : Nat) : Nat → Int
  | 0 => 0
  | k + 1 => win f n k + f (n + k)
theorem win_add (f : Nat → Int) (n k : Nat) : ∀ l, win f n (k + l) = win f n k + win f (n + k) l
  | 0 => by simp [ev_var, ev_int, ev_bl, ev_non, ev_str, ev_gint, ev_gstr, ev_bin, ev_neg, ev_cmp, ev_chain, ev_and, ev_or, ev_not, ev_ite, ev_tup, ev_lst, ev_ix, ev_call, ev_blt, ev_isi, ev_meth, ev_slc, evL, evI, ixO, itemsO, lisO, ixN, binO, binIO, cmpO, cmpIO, isBl, isInt, bltO, methO, eqO, isNon, isNonE, slcO, isiO, tyN, isSub, knownTy, tO, tsO, wipeP, win]
  | l + 1 => by
    rw [← Nat.add_assoc, win, win, win_add f n k l, Nat.add_assoc n k l]
    omega
theorem win_cons (f : Nat → Int) (n k : Nat) : win f n (k + 1) = f n + win f (n + 1) k := by
  rw [Nat.add_comm k 1, win_add]
  simp [ev_var, ev_int, ev_bl, ev_non, ev_str, ev_gint, ev_gstr, ev_bin, ev_neg, ev_cmp, ev_chain, ev_and, ev_or, ev_not, ev_ite, ev_tup, ev_lst, ev_ix, ev_call, ev_blt, ev_isi, ev_meth, ev_slc, evL, evI, ixO, itemsO, lisO, ixN, binO, binIO, cmpO, cmpIO, isBl, isInt, bltO, methO, eqO, isNon, isNonE, slcO, isiO, tyN, isSub, knownTy, tO, tsO, wipeP, win]
/-- a period's sum is the same from wherever -/
theorem win_shift {f : Nat → Int} {p a : Nat} (h : ∀ n, a ≤ n → f (n + p) = f n) : ∀ n, a ≤ n → win f n p = win f a p := by
  intro n hn
  obtain ⟨k, rfl⟩ := Nat.exists_eq_add_of_le hn
  clear hn
  induction k with
  | zero => rfl
  | succ k ih =>
    rw [← ih]
    have h1 := win_cons f (a + k) p
    have h2 : win f (a + k) (p + 1) = win f (a + k) p + f (a + k + p) := rfl
    have h3 := h (a + k) (by omega)
    rw [h3] at h2
    rw [h2] at h1
    have e : a + (k + 1) = a + k + 1 := by omega
    rw [e]
    omega
theorem win_times {f : Nat → Int} {p a : Nat} (h : ∀ n, a ≤ n → f (n + p) = f n) (n : Nat) (hn : a ≤ n) : ∀ q : Nat, win f n (p * q) = win f a p * q
  | 0 => by simp [ev_var, ev_int, ev_bl, ev_non, ev_str, ev_gint, ev_gstr, ev_bin, ev_neg, ev_cmp, ev_chain, ev_and, ev_or, ev_not, ev_ite, ev_tup, ev_lst, ev_ix, ev_call, ev_blt, ev_isi, ev_meth, ev_slc, evL, evI, ixO, itemsO, lisO, ixN, binO, binIO, cmpO, cmpIO, isBl, isInt, bltO, methO, eqO, isNon, isNonE, slcO, isiO, tyN, isSub, knownTy, tO, tsO, wipeP, win]
  | q + 1 => by
    rw [Nat.mul_succ, win_add, win_times h n hn q, win_shift h (n + p * q) (by omega), Int.natCast_add, Int.mul_add]
    simp [ev_var, ev_int, ev_bl, ev_non, ev_str, ev_gint, ev_gstr, ev_bin, ev_neg, ev_cmp, ev_chain, ev_and, ev_or, ev_not, ev_ite, ev_tup, ev_lst, ev_ix, ev_call, ev_blt, ev_isi, ev_meth, ev_slc, evL, evI, ixO, itemsO, lisO, ixN, binO, binIO, cmpO, cmpIO, isBl, isInt, bltO, methO, eqO, isNon, isNonE, slcO, isiO, tyN, isSub, knownTy, tO, tsO, wipeP]
/-- two periods -/
theorem two_periods {f : Nat → Int} {p a q b : Nat} (h1 : ∀ n, a ≤ n → f (n + p) = f n) (h2 : ∀ n, b ≤ n → f (n + q) = f n) : win f a p * q = win f b q * p := by
  have e1 := win_times h1 (max a b) (Nat.le_max_left _ _) q
  have e2 := win_times h2 (max a b) (Nat.le_max_right _ _) p
  rw [← e1, ← e2, Nat.mul_comm]
end K69

/-! K69h: keys; endless lines, and what is kept in mind along them. -/
namespace K69
open Den
/-! ### keys -/
inductive IT : Nat → PV → Prop
  | int {n i} : IT n (.int i)
  | tup {n xs} : (∀ x ∈ xs, IT n x) → IT (n + 1) (.tup xs)
mutual
theorem key_ex : ∀ (x : PV) (n : Nat), IT n x → ∃ k, keyOf x = some k ∧ PySem.NestedKey.depth k ≤ n
  | .int i, n, _ => ⟨.num i, by simp [keyOf], by simp [PySem.NestedKey.depth]⟩
  | .tup xs, 0, h => by cases h
  | .tup xs, n + 1, h => by
    have h : ∀ x ∈ xs, IT n x := by cases h; assumption
    obtain ⟨ks, e, hd⟩ := keys_ex xs n h
    exact ⟨.tup ks, by simp [keyOf, e], by simp only [PySem.NestedKey.depth]; omega⟩
  | .non, _, h => by cases h
  | .bl _, _, h => by cases h
  | .str _, _, h => by cases h
  | .lst _, _, h => by cases h
  | .lck _, _, h => by cases h
  | .ref _, _, h => by cases h
  | .ty _, _, h => by cases h
  | .dct, _, h => by cases h
theorem keys_ex : ∀ (xs : List PV) (n : Nat), (∀ x ∈ xs, IT n x) → ∃ ks, keysOf xs = some ks ∧ PySem.NestedKey.depthAll ks ≤ n
  | [], n, _ => ⟨[], by simp [keysOf], by simp [PySem.NestedKey.depthAll]⟩
  | x :: xs, n, h => by
    obtain ⟨k, e, hd⟩ := key_ex x n (h x List.mem_cons_self)
    obtain ⟨ks, e2, hd2⟩ := keys_ex xs n fun y hy => h y (List.mem_cons_of_mem _ hy)
    exact ⟨k :: ks, by simp [keysOf, e, e2], by simp only [PySem.NestedKey.depthAll]; omega⟩
end
mutual
theorem key_inj : ∀ (x y : PV) (n m : Nat), IT n x → IT m y → keyOf x = keyOf y → x = y
  | .int i, .int j, _, _, _, _, h => by simp [keyOf] at h; rw [h]
  | .int i, .tup ys, _, _, _, hy, h => by
    obtain ⟨k, e, _⟩ := key_ex (.tup ys) _ hy
    simp only [keyOf] at h e
    cases hk : keysOf ys with
    | none => rw [hk] at h; cases h
    | some ks => rw [hk] at h; cases h
  | .tup xs, .int j, _, _, _, _, h => by
    simp only [keyOf] at h
    cases hk : keysOf xs with
    | none => rw [hk] at h; cases h
    | some ks => rw [hk] at h; cases h
  | .tup xs, .tup ys, 0, _, hx, _, _ => by cases hx
  | .tup xs, .tup ys, _ + 1, 0, _, hy, _ => by cases hy
  | .tup xs, .tup ys, n + 1, m + 1, hx, hy, h => by
    have hx : ∀ x ∈ xs, IT n x := by cases hx; assumption
    have hy : ∀ x ∈ ys, IT m x := by cases hy; assumption
    obtain ⟨ks, e, _⟩ := keys_ex xs n hx
    obtain ⟨ks', e', _⟩ := keys_ex ys m hy
    simp only [keyOf, e, e', Option.map_some, Option.some.injEq, PySem.NestedKey.tup.injEq] at h
    rw [keys_inj xs ys n m hx hy (by rw [e, e', h])]
  | .non, _, _, _, hx, _, _ => by cases hx
  | .bl _, _, _, _, hx, _, _ => by cases hx
  | .str _, _, _, _, hx, _, _ => by cases hx
  | .lst _, _, _, _, hx, _, _ => by cases hx
  | .lck _, _, _, _, hx, _, _ => by cases hx
  | .ref _, _, _, _, hx, _, _ => by cases hx
  | .ty _, _, _, _, hx, _, _ => by cases hx
  | .dct, _, _, _, hx, _, _ => by cases hx
  | .int _, .non, _, _, _, hy, _ => by cases hy
  | .int _, .bl _, _, _, _, hy, _ => by cases hy
  | .int _, .str _, _, _, _, hy, _ => by cases hy
  | .int _, .lst _, _, _, _, hy, _ => by cases hy
  | .int _, .lck _, _, _, _, hy, _ => by cases hy
  | .int _, .ref _, _, _, _, hy, _ => by cases hy
  | .int _, .ty _, _, _, _, hy, _ => by cases hy
  | .int _, .dct, _, _, _, hy, _ => by cases hy
  | .tup _, .non, _, _, _, hy, _ => by cases hy
  | .tup _, .bl _, _, _, _, hy, _ => by cases hy
  | .tup _, .str _, _, _, _, hy, _ => by cases hy
  | .tup _, .lst _, _, _, _, hy, _ => by cases hy
  | .tup _, .lck _, _, _, _, hy, _ => by cases hy
  | .tup _, .ref _, _, _, _, hy, _ => by cases hy
  | .tup _, .ty _, _, _, _, hy, _ => by cases hy
  | .tup _, .dct, _, _, _, hy, _ => by cases hy
theorem keys_inj : ∀ (xs ys : List PV) (n m : Nat), (∀ x ∈ xs, IT n x) → (∀ x ∈ ys, IT m x) → keysOf xs = keysOf ys → xs = ys
  | [], [], _, _, _, _, _ => rfl
  | [], y :: ys, n, m, _, hy, h => by
    obtain ⟨k, e, _⟩ := key_ex y m (hy y List.mem_cons_self)
    obtain ⟨ks, e2, _⟩ := keys_ex ys m fun z hz => hy z (List.mem_cons_of_mem _ hz)
    simp [keysOf, e, e2] at h
  | x :: xs, [], n, m, hx, _, h => by
    obtain ⟨k, e, _⟩ := key_ex x n (hx x List.mem_cons_self)
    obtain ⟨ks, e2, _⟩ := keys_ex xs n fun z hz => hx z (List.mem_cons_of_mem _ hz)
    simp [keysOf, e, e2] at h
  | x :: xs, y :: ys, n, m, hx, hy, h => by
    obtain ⟨k, e, _⟩ := key_ex x n (hx x List.mem_cons_self)
    obtain ⟨ks, e2, _⟩ := keys_ex xs n fun z hz => hx z (List.mem_cons_of_mem _ hz)
    obtain ⟨k', e', _⟩ := key_ex y m (hy y List.mem_cons_self)
    obtain ⟨ks', e2', _⟩ := keys_ex ys m fun z hz => hy z (List.mem_cons_of_mem _ hz)
    simp only [keysOf, e, e2, e', e2', Option.bind_some, Option.map_some, Option.some.injEq, List.cons.injEq] at h
    rw [key_inj x y n m (hx x List.mem_cons_self) (hy y List.mem_cons_self) (by rw [e, e', h.1]),
      keys_inj xs ys n m (fun z hz => hx z (List.mem_cons_of_mem _ hz)) (fun z hz => hy z (List.mem_cons_of_mem _ hz)) (by rw [e2, e2', h.2])]
end
theorem it_kp (k : Kp) : IT 1 k.v := by
  cases k with
  | no => exact .tup fun _ h => by cases h
  | cnt n => exact .int
  | row ls =>
    refine .tup fun x hx => ?_
    obtain ⟨z, _, rfl⟩ := List.mem_map.mp hx
    exact .int
theorem it_mem (w : Nat) (line : List Int) (t : List PR) : IT 3 (mem w line t) := .tup fun x hx => by
  simp only [List.mem_cons, List.not_mem_nil, or_false] at hx
  rcases hx with rfl | rfl
  · exact .int
  · refine .tup fun x hx => ?_
    obtain ⟨r, _, rfl⟩ := List.mem_map.mp hx
    exact it_kp _
/-! ### the same memory -/
def Same (w : Nat) (t : List PR) (a b : List Int) : Prop := a.length % w = b.length % w ∧ ∀ r ∈ t, keeps w a r = keeps w b r
theorem mem_inj {w : Nat} {t : List PR} {a b : List Int} (h : mem w a t = mem w b t) : Same w t a b := by
  have h := PV.tup.inj h
  simp only [List.cons.injEq, PV.int.injEq, PV.tup.injEq, and_true] at h
  refine ⟨by omega, fun r hr => ?_⟩
  have := List.map_inj_left.mp h.2 r hr
  cases r with
  | each ls a => rfl
  | on ds ls a => rfl
  | row rs a =>
    simp only [keeps, Kp.v] at this ⊢
    have := PV.tup.inj this
    rw [(List.map_inj_right (fun x y z => by cases z; rfl)).mp this]
  | over ls m a =>
    simp only [keeps, Kp.v] at this ⊢
    rw [PV.int.inj this]
theorem Same.mem {w : Nat} {t : List PR} {a b : List Int} (h : Same w t a b) : mem w a t = mem w b t := by
  unfold K69.mem
  rw [h.1, List.map_congr_left fun r hr => by rw [h.2 r hr]]
theorem same_step {w : Nat} (hw : 0 < w) {t : List PR} (ok : ∀ r ∈ t, r.ok) {a b : List Int} (h : Same w t a b) (x : Int) : Same w t (a ++ [x]) (b ++ [x]) ∧ daySum w t a x = daySum w t b x := by
  have key : ∀ r ∈ t, keeps w (a ++ [x]) r = keeps w (b ++ [x]) r ∧ brings w a x r = brings w b x r := fun r hr => by
    have h1 := led_is hw a x r (ok r hr)
    have h2 := led_is hw b x r (ok r hr)
    rw [h.1, h.2 r hr, h2] at h1
    exact ⟨(Prod.mk.inj h1).1.symm, (Prod.mk.inj h1).2.symm⟩
  refine ⟨⟨?_, fun r hr => (key r hr).1⟩, ?_⟩
  · rw [List.length_append, List.length_append, List.length_singleton, Nat.add_mod, h.1, ← Nat.add_mod]
  · unfold daySum
    rw [List.map_congr_left fun r hr => (key r hr).2]
/-! ### along an endless line -/
def P (L : Nat → Int) (n : Nat) : List Int := (List.range n).map L
def nx (L : Nat → Int) (n k : Nat) : List Int := (List.range k).map fun i => L (n + i)
theorem P_len (L : Nat → Int) (n : Nat) : (P L n).length = n := by simp [P]
theorem nx_len (L : Nat → Int) (n k : Nat) : (nx L n k).length = k := by simp [nx]
theorem P_succ (L : Nat → Int) (n : Nat) : P L (n + 1) = P L n ++ [L n] := by simp [P, List.range_succ]
theorem nx_succ (L : Nat → Int) (n k : Nat) : nx L n (k + 1) = nx L n k ++ [L (n + k)] := by simp [nx, List.range_succ]
theorem P_add (L : Nat → Int) (n : Nat) : ∀ k, P L (n + k) = P L n ++ nx L n k
  | 0 => by simp [nx]
  | k + 1 => by rw [← Nat.add_assoc, P_succ, P_add L n k, nx_succ, List.append_assoc]
def dg (L : Nat → Int) (w : Nat) (t : List PR) (n : Nat) : Int := daySum w t (P L n) (L n)
section
variable {L : Nat → Int} {w : Nat} {t : List PR}
theorem pays_snoc (as : List Int) (b : Int) : ∀ ahead : List Int, pays w t ahead (as ++ [b]) = pays w t ahead as ++ [daySum w t (ahead ++ as) b] := by
  induction as with
  | nil => intro ahead; simp [pays]
  | cons a as ih =>
    intro ahead
    rw [List.cons_append, pays, ih, pays]
    simp
theorem pays_nx (n : Nat) : ∀ k, pays w t (P L n) (nx L n k) = (List.range k).map fun i => dg L w t (n + i)
  | 0 => by simp [nx, pays]
  | k + 1 => by
    rw [nx_succ, pays_snoc, pays_nx n k, ← P_add, List.range_succ, List.map_append]
    rfl
theorem win_range (f : Nat → Int) (n : Nat) : ∀ k, ((List.range k).map fun i => f (n + i)).sum = win f n k
  | 0 => rfl
  | k + 1 => by
    rw [List.range_succ, List.map_append, List.sum_append, win_range f n k, win]
    simp
theorem pays_sum (n k : Nat) : (pays w t (P L n) (nx L n k)).sum = win (dg L w t) n k := by rw [pays_nx, win_range]
theorem pays_P (n : Nat) : pays w t [] (P L n) = (List.range n).map (dg L w t) := by
  have := pays_nx (L := L) (w := w) (t := t) 0 n
  have e : nx L 0 n = P L n := by simp [nx, P]
  rw [e] at this
  simpa [P] using this
theorem per_of (hw : 0 < w) (ok : ∀ r ∈ t, r.ok) {n m : Nat} (hs : Same w t (P L n) (P L m)) (hL : ∀ k, L (n + k) = L (m + k)) : ∀ k, Same w t (P L (n + k)) (P L (m + k)) ∧ dg L w t (n + k) = dg L w t (m + k)
  | 0 => ⟨hs, by
    have := (same_step hw ok hs (L n)).2
    have e := hL 0
    simp only [Nat.add_zero] at e ⊢
    unfold dg
    rw [this, e]⟩
  | k + 1 => by
    have ih := (per_of hw ok hs hL k).1
    have h1 : Same w t (P L (n + (k + 1))) (P L (m + (k + 1))) := by
      rw [← Nat.add_assoc, ← Nat.add_assoc, P_succ, P_succ, ← hL k]
      exact (same_step hw ok ih (L (n + k))).1
    refine ⟨h1, ?_⟩
    unfold dg
    rw [← hL (k + 1)]
    exact (same_step hw ok h1 _).2
theorem L_times {ρ n0 : Nat} (h : ∀ n, n0 ≤ n → L (n + ρ) = L n) (n : Nat) (hn : n0 ≤ n) : ∀ j, L (n + j * ρ) = L n
  | 0 => by simp
  | j + 1 => by rw [Nat.succ_mul, ← Nat.add_assoc, h _ (by omega), L_times h n hn j]
theorem nx_eq {n m k : Nat} (h : ∀ i, L (n + i) = L (m + i)) : nx L n k = nx L m k := by
  unfold nx
  exact List.map_congr_left fun i _ => h i
theorem keeps_suf (hw : 0 < w) {r : PR} (h6 : ∀ rs a, r = .row rs a → rs.length ≤ 6) (ok : r.ok) {X Y Z : List Int} (h5 : 5 ≤ Z.length) (hz : w ≤ Z.length) (hm : X.length % w = Y.length % w) : keeps w (X ++ Z) r = keeps w (Y ++ Z) r := by
  have hm2 : (X ++ Z).length % w = (Y ++ Z).length % w := by
    rw [List.length_append, List.length_append, Nat.add_mod, hm, ← Nat.add_mod]
  have dr : ∀ (A : List Int) (k : Nat), k ≤ Z.length → (A ++ Z).drop ((A ++ Z).length - k) = Z.drop (Z.length - k) := fun A k hk => by
    rw [List.length_append, List.drop_append, List.drop_of_length_le (by omega)]
    rw [List.nil_append]
    congr 1
    omega
  cases r with
  | each ls a => rfl
  | on ds ls a => rfl
  | row rs a =>
    have h2 : 2 ≤ rs.length := ok
    have := h6 rs a rfl
    have e : ∀ A : List Int, (A ++ Z).length + 1 - rs.length = (A ++ Z).length - (rs.length - 1) := fun A => by omega
    simp only [keeps]
    rw [e X, e Y, dr X _ (by omega), dr Y _ (by omega)]
  | over ls m a =>
    have hlt := Nat.mod_lt (Y ++ Z).length hw
    simp only [keeps, wk]
    rw [hm2, dr X _ (by omega), dr Y _ (by omega)]
theorem same_far (hw : 0 < w) (h6 : ∀ r ∈ t, ∀ rs a, r = .row rs a → rs.length ≤ 6) (ok : ∀ r ∈ t, r.ok) {ρ n0 : Nat} (hρ : 0 < ρ) (h : ∀ n, n0 ≤ n → L (n + ρ) = L n) {k : Nat} (hk : w + 5 ≤ k) :
    Same w t (P L (n0 + k * ρ)) (P L (n0 + (k + w) * ρ)) := by
  obtain ⟨j, rfl⟩ := Nat.exists_eq_add_of_le hk
  have e1 : n0 + (w + 5 + j) * ρ = (n0 + j * ρ) + (w + 5) * ρ := by rw [Nat.add_mul (w + 5) j]; omega
  have e2 : n0 + (w + 5 + j + w) * ρ = (n0 + j * ρ + w * ρ) + (w + 5) * ρ := by rw [Nat.add_mul (w + 5 + j) w, Nat.add_mul (w + 5) j]; omega
  have hz : w + 5 ≤ (w + 5) * ρ := Nat.le_mul_of_pos_right _ hρ
  have en : nx L (n0 + j * ρ + w * ρ) ((w + 5) * ρ) = nx L (n0 + j * ρ) ((w + 5) * ρ) := nx_eq fun i => by
    have := L_times h (n0 + j * ρ + i) (by omega) w
    rw [← this]
    congr 1
    omega
  rw [e1, e2, P_add, P_add L (n0 + j * ρ + w * ρ), en]
  have hm : (P L (n0 + j * ρ)).length % w = (P L (n0 + j * ρ + w * ρ)).length % w := by
    rw [P_len, P_len, Nat.add_mul_mod_self_left]
  refine ⟨?_, fun r hr => keeps_suf hw (h6 r hr) (ok r hr) (by rw [nx_len]; omega) (by rw [nx_len]; omega) hm⟩
  rw [List.length_append, List.length_append, Nat.add_mod, hm, ← Nat.add_mod]
end
/-- the endless line of a head and a ring -/
def eL (H R : List Int) (n : Nat) : Int := if n < H.length then H.getD n 0 else R.getD ((n - H.length) % R.length) 0
theorem eL_per (H R : List Int) : ∀ n, H.length ≤ n → eL H R (n + R.length) = eL H R n := fun n hn => by
  unfold eL
  rw [if_neg (by omega), if_neg (by omega)]
  congr 1
  have : n + R.length - H.length = n - H.length + R.length := by omega
  rw [this, Nat.add_mod_right]
theorem P_head (H R : List Int) : P (eL H R) H.length = H := by
  refine List.ext_getElem? fun i => ?_
  unfold P
  rw [List.getElem?_map]
  by_cases h : i < H.length
  · rw [List.getElem?_range h, List.getElem?_eq_getElem h]
    show some (eL H R i) = _
    unfold eL
    rw [if_pos h]
    simp [List.getD_eq_getElem?_getD, h]
  · rw [List.getElem?_eq_none (by simpa using h), List.getElem?_eq_none (by omega)]
    rfl
theorem nx_ring (H R : List Int) (k : Nat) : nx (eL H R) (H.length + k * R.length) R.length = R := by
  refine List.ext_getElem? fun i => ?_
  unfold nx
  rw [List.getElem?_map]
  by_cases h : i < R.length
  · rw [List.getElem?_range h, List.getElem?_eq_getElem h]
    show some (eL H R (H.length + k * R.length + i)) = _
    unfold eL
    rw [if_neg (by omega)]
    have e : (H.length + k * R.length + i - H.length) % R.length = i := by
      have : H.length + k * R.length + i - H.length = i + k * R.length := by omega
      rw [this, Nat.add_mul_mod_self_right, Nat.mod_eq_of_lt h]
    rw [e]
    simp [List.getD_eq_getElem?_getD, h]
  · rw [List.getElem?_eq_none (by simpa using h), List.getElem?_eq_none (by omega)]
    rfl
end K69

/-! K69w: mean_pay. -/
namespace K69
open Den
/-- what is asked of a drawn tariff and an endless line -/
structure MOk (w sh : Nat) (t : List PR) (H R : List Int) : Prop where
  w1 : 0 < w
  w2 : w ≤ 28
  s1 : 0 < sh
  s2 : sh ≤ 6
  ne : t ≠ []
  l12 : t.length ≤ 12
  rl : ∀ r ∈ t, PrOk w sh r
  hl : H.length ≤ 20
  rl1 : 0 < R.length
  rl2 : R.length ≤ 12
  hlet : ∀ x ∈ H, 0 ≤ x ∧ x ≤ (sh : Int)
  rlet : ∀ x ∈ R, 0 ≤ x ∧ x ≤ (sh : Int)
theorem MOk.ok {w sh : Nat} {t : List PR} {H R : List Int} (h : MOk w sh t H R) : ∀ r ∈ t, r.ok := fun r hr => by
  have := h.rl r hr
  cases r <;> simp only [PR.ok, PrOk] at this ⊢ <;> first | exact this.1 | exact this.2.1
theorem MOk.h6 {w sh : Nat} {t : List PR} {H R : List Int} (h : MOk w sh t H R) : ∀ r ∈ t, ∀ rs a, r = .row rs a → rs.length ≤ 6 := fun r hr rs a e => by
  have := h.rl r hr
  subst e
  exact this.2.1
theorem MOk.tok {w sh : Nat} {t : List PR} {H R : List Int} (h : MOk w sh t H R) : TOk w sh t [] := ⟨h.w1, h.w2, h.s1, h.s2, h.ne, h.l12, h.rl, by simp [ev_var, ev_int, ev_bl, ev_non, ev_str, ev_gint, ev_gstr, ev_bin, ev_neg, ev_cmp, ev_chain, ev_and, ev_or, ev_not, ev_ite, ev_tup, ev_lst, ev_ix, ev_call, ev_blt, ev_isi, ev_meth, ev_slc, evL, evI, ixO, itemsO, lisO, ixN, binO, binIO, cmpO, cmpIO, isBl, isInt, bltO, methO, eqO, isNon, isNonE, slcO, isiO, tyN, isSub, knownTy, tO, tsO, wipeP], fun _ h => by cases h⟩
theorem fin_of {sh : Nat} {l : List Int} (hl : l.length ≤ 900) (hx : ∀ x ∈ l, 0 ≤ x ∧ x ≤ (sh : Int)) : G4 24 [.int sh, vi l] = some (.bl true) := by
  have e1 : thB (vi l) = true := th_vi (by omega)
  have e2 : (l.map PV.int).all (wiB 0 sh) = true := by
    rw [List.all_map, List.all_eq_true]
    intro x h
    have := hx x h
    simp [ev_var, ev_int, ev_bl, ev_non, ev_str, ev_gint, ev_gstr, ev_bin, ev_neg, ev_cmp, ev_chain, ev_and, ev_or, ev_not, ev_ite, ev_tup, ev_lst, ev_ix, ev_call, ev_blt, ev_isi, ev_meth, ev_slc, evL, evI, ixO, itemsO, lisO, ixN, binO, binIO, cmpO, cmpIO, isBl, isInt, bltO, methO, eqO, isNon, isNonE, slcO, isiO, tyN, isSub, knownTy, tO, tsO, wipeP, wiB, this]
  show (if thB (vi l) = true then some (PV.bl ((l.map PV.int).all (wiB 0 sh))) else none) = _
  rw [if_pos e1, e2]
/-- is_endless -/
theorem pc35 {w sh : Nat} {t : List PR} {H R : List Int} (h : MOk w sh t H R) (d : Nat) : PC tbl (d + 5) 35 [.int sh, .tup [vi H, vi R]] (.bl true) := fun st Q X hq => by
  have f1 := fin_of (by have := h.hl; omega) h.hlet
  have f2 := fin_of (by have := h.rl2; omega) h.rlet
  have f3 : G4 17 [.tup [vi H, vi R], .int 2, .int 2] = some (.bl true) := by
    have e1 : thB (.tup [vi H, vi R]) = true := th_tup (by simp [ev_var, ev_int, ev_bl, ev_non, ev_str, ev_gint, ev_gstr, ev_bin, ev_neg, ev_cmp, ev_chain, ev_and, ev_or, ev_not, ev_ite, ev_tup, ev_lst, ev_ix, ev_call, ev_blt, ev_isi, ev_meth, ev_slc, evL, evI, ixO, itemsO, lisO, ixN, binO, binIO, cmpO, cmpIO, isBl, isInt, bltO, methO, eqO, isNon, isNonE, slcO, isiO, tyN, isSub, knownTy, tO, tsO, wipeP]) fun x hx => by
      simp only [List.mem_cons, List.not_mem_nil, or_false] at hx
      rcases hx with rfl | rfl
      · exact th_vi (by have := h.hl; omega)
      · exact th_vi (by have := h.rl2; omega)
    simp [ev_var, ev_int, ev_bl, ev_non, ev_str, ev_gint, ev_gstr, ev_bin, ev_neg, ev_cmp, ev_chain, ev_and, ev_or, ev_not, ev_ite, ev_tup, ev_lst, ev_ix, ev_call, ev_blt, ev_isi, ev_meth, ev_slc, evL, evI, ixO, itemsO, lisO, ixN, binO, binIO, cmpO, cmpIO, isBl, isInt, bltO, methO, eqO, isNon, isNonE, slcO, isiO, tyN, isSub, knownTy, tO, tsO, wipeP, G4, G3, G2, e1, szB]
  have hR := h.rl1
  refine wF_runE 2 2 b35 [some (.int sh), some (.tup [vi H, vi R])] rfl rfl (by decide) rfl (seqE (iteG (g4_ok d) false (by simp [ev_var, ev_int, ev_bl, ev_non, ev_str, ev_gint, ev_gstr, ev_bin, ev_neg, ev_cmp, ev_chain, ev_and, ev_or, ev_not, ev_ite, ev_tup, ev_lst, ev_ix, ev_call, ev_blt, ev_isi, ev_meth, ev_slc, evL, evI, ixO, itemsO, lisO, ixN, binO, binIO, cmpO, cmpIO, isBl, isInt, bltO, methO, eqO, isNon, isNonE, slcO, isiO, tyN, isSub, knownTy, tO, tsO, wipeP, f1, f3]) (fun z => by cases z) fun _ => nopE (F := wF tbl (d + 4)) ?_))
  refine seqE (retG (g4_ok d) (v := .bl true) ?_ hq)
  simp [ev_var, ev_int, ev_bl, ev_non, ev_str, ev_gint, ev_gstr, ev_bin, ev_neg, ev_cmp, ev_chain, ev_and, ev_or, ev_not, ev_ite, ev_tup, ev_lst, ev_ix, ev_call, ev_blt, ev_isi, ev_meth, ev_slc, evL, evI, ixO, itemsO, lisO, ixN, binO, binIO, cmpO, cmpIO, isBl, isInt, bltO, methO, eqO, isNon, isNonE, slcO, isiO, tyN, isSub, knownTy, tO, tsO, wipeP, f2]
  omega
theorem gA {st l : Store} {i : Nat} : (st ++ l)[st.length + i]? = l[i]? := by
  rw [List.getElem?_append_right (by omega)]
  congr 1
  omega
theorem sA {st l : Store} {i : Nat} {v : SO} : (st ++ l).set (st.length + i) v = st ++ l.set i v := by
  rw [List.set_append_right _ _ (by omega)]
  congr 2
  omega
theorem putK_last {y z : PV} {k : NK} : ∀ {es : List (PV × PV)}, getK es k = none → putK es y k z = es ++ [(y, z)]
  | [], _ => rfl
  | e :: es, h => by
    unfold getK at h
    unfold putK
    by_cases hk : keyOf e.1 = some k
    · rw [if_pos hk] at h; cases h
    · rw [if_neg hk] at h ⊢
      rw [putK_last h]; rfl
/-- a key found, or not -/
theorem getK_map {f : Nat → PV} (hf : ∀ u, IT 3 (f u)) {y : PV} (hy : IT 3 y) {k : NK} (hk : keyOf y = some k) : ∀ l : List Nat, (∃ i ∈ l, f i = y ∧ getK (l.map fun u => (f u, PV.int (u : Nat))) k = some (.int (i : Nat))) ∨ ((∀ i ∈ l, f i ≠ y) ∧ getK (l.map fun u => (f u, PV.int (u : Nat))) k = none)
  | [] => .inr ⟨fun _ h => (by cases h), rfl⟩
  | u :: l => by
    rw [List.map_cons]
    unfold getK
    by_cases h : f u = y
    · rw [if_pos (by rw [h]; exact hk)]
      exact .inl ⟨u, List.mem_cons_self, h, rfl⟩
    · rw [if_neg (fun z => h (key_inj _ _ _ _ (hf u) hy (z.trans hk.symm)))]
      rcases getK_map hf hy hk l with ⟨i, h1, h2, h3⟩ | ⟨h1, h2⟩
      · exact .inl ⟨i, List.mem_cons_of_mem _ h1, h2, h3⟩
      · refine .inr ⟨fun i hi => ?_, h2⟩
        rcases List.mem_cons.mp hi with rfl | hi
        · exact h
        · exact h1 i hi
theorem nk_it {y : PV} {n : Nat} (h : IT n y) (hn : n ≤ 8) (ht : ∃ xs, y = .tup xs) : ∃ k, keyOf y = some k ∧ nkO y = some k ∧ PySem.NestedKey.depth k ≤ 8 := by
  obtain ⟨k, e, hd⟩ := key_ex y n h
  obtain ⟨xs, rfl⟩ := ht
  refine ⟨k, e, ?_, by omega⟩
  show ((keyOf (.tup xs)).bind fun k => if PySem.NestedKey.depth k ≤ 8 then some k else none) = some k
  rw [e, Option.bind_some, if_pos (by omega)]
/-- the sums so far -/
def sms (g : Nat → Int) (n ρ k : Nat) : List Int := (List.range (k + 1)).map fun u => win g n (u * ρ)
theorem sms_len {g : Nat → Int} {n ρ k : Nat} : (sms g n ρ k).length = k + 1 := by simp [ev_var, ev_int, ev_bl, ev_non, ev_str, ev_gint, ev_gstr, ev_bin, ev_neg, ev_cmp, ev_chain, ev_and, ev_or, ev_not, ev_ite, ev_tup, ev_lst, ev_ix, ev_call, ev_blt, ev_isi, ev_meth, ev_slc, evL, evI, ixO, itemsO, lisO, ixN, binO, binIO, cmpO, cmpIO, isBl, isInt, bltO, methO, eqO, isNon, isNonE, slcO, isiO, tyN, isSub, knownTy, tO, tsO, wipeP, sms]
theorem sms_snoc {g : Nat → Int} {n ρ k : Nat} : sms g n ρ (k + 1) = sms g n ρ k ++ [win g n ((k + 1) * ρ)] := by
  unfold sms
  rw [List.range_succ (n := k + 1), List.map_append]
  rfl
theorem sms_get {g : Nat → Int} {n ρ k i : Nat} (h : i ≤ k) : ((sms g n ρ k).map PV.int)[i]? = some (.int (win g n (i * ρ))) := by
  unfold sms
  rw [List.map_map, List.getElem?_map, List.getElem?_range (by omega)]
  rfl
abbrev Fw (w sh : Nat) (t : List PR) (H R : List Int) (e4 e5 e6 e7 e10 : Option PV) : List (Option PV) := [some (.int w), some (.int sh), some (tv t), some (.tup [vi H, vi R]), e4, e5, e6, e7, some (vi H), some (vi R), e10]
abbrev esK (f : Nat → PV) (k : Nat) : List (PV × PV) := (List.range k).map fun u => (f u, .int (u : Nat))
theorem esK_snoc (f : Nat → PV) (k : Nat) : esK f (k + 1) = esK f k ++ [(f k, .int (k : Nat))] := by simp [ev_var, ev_int, ev_bl, ev_non, ev_str, ev_gint, ev_gstr, ev_bin, ev_neg, ev_cmp, ev_chain, ev_and, ev_or, ev_not, ev_ite, ev_tup, ev_lst, ev_ix, ev_call, ev_blt, ev_isi, ev_meth, ev_slc, evL, evI, ixO, itemsO, lisO, ixN, binO, binIO, cmpO, cmpIO, isBl, isInt, bltO, methO, eqO, isNon, isNonE, slcO, isiO, tyN, isSub, knownTy, tO, tsO, wipeP, esK, List.range_succ]
theorem sms_zero {g : Nat → Int} {n ρ : Nat} : sms g n ρ 0 = [0] := by simp [ev_var, ev_int, ev_bl, ev_non, ev_str, ev_gint, ev_gstr, ev_bin, ev_neg, ev_cmp, ev_chain, ev_and, ev_or, ev_not, ev_ite, ev_tup, ev_lst, ev_ix, ev_call, ev_blt, ev_isi, ev_meth, ev_slc, evL, evI, ixO, itemsO, lisO, ixN, binO, binIO, cmpO, cmpIO, isBl, isInt, bltO, methO, eqO, isNon, isNonE, slcO, isiO, tyN, isSub, knownTy, tO, tsO, wipeP, sms, win]
section
variable {w sh : Nat} {t : List PR} {H R : List Int} (h : MOk w sh t H R)
include h
/-- mean_pay -/
theorem pc22 {q b : Nat} (hq0 : 0 < q) (hqb : q < 1000) (hqp : ∀ n, b ≤ n → dg (eL H R) w t (n + q) = dg (eL H R) w t n) (d : Nat) : PC tbl (d + 9) 22 [.int w, .int sh, tv t, .tup [vi H, vi R]] (low (win (dg (eL H R) w t) b q) q) := fun st Q X hq => by
  have hw := h.w1
  have hw2 := h.w2
  have hH := h.hl
  have hR1 := h.rl1
  have hR2 := h.rl2
  generalize hL : eL H R = L at hqp hq
  have hper : ∀ n, H.length ≤ n → L (n + R.length) = L n := by rw [← hL]; exact eL_per H R
  have hPH : P L H.length = H := by rw [← hL]; exact P_head H R
  have hnx : ∀ k, nx L (H.length + k * R.length) R.length = R := by rw [← hL]; exact nx_ring H R
  generalize hρ : R.length = ρ at hper hnx hR1 hR2
  have hbig : ∀ k, k ≤ 2 * w + 6 → H.length + k * ρ + ρ ≤ 900 := fun k hk => by
    have : k * ρ ≤ 62 * 12 := Nat.mul_le_mul (by omega) hR2
    omega
  let M : Nat → PV := fun k => mem w (P L (H.length + k * ρ)) t
  have hM : ∀ k, IT 3 (M k) := fun k => it_mem _ _ _
  refine wF_runC 4 11 b22 [some (.int w), some (.int sh), some (tv t), some (.tup [vi H, vi R]), none, none, none, none, none, none, none] rfl rfl (by decide) rfl (seqE ?_)
  rw [wS]
  refine e_pc (pc23 h.tok.sz h.tok.th h.tok.yes (d + 1)) (by simp [ev_var, ev_int, ev_bl, ev_non, ev_str, ev_gint, ev_gstr, ev_bin, ev_neg, ev_cmp, ev_chain, ev_and, ev_or, ev_not, ev_ite, ev_tup, ev_lst, ev_ix, ev_call, ev_blt, ev_isi, ev_meth, ev_slc, evL, evI, ixO, itemsO, lisO, ixN, binO, binIO, cmpO, cmpIO, isBl, isInt, bltO, methO, eqO, isNon, isNonE, slcO, isiO, tyN, isSub, knownTy, tO, tsO, wipeP]) ?_
  refine seqE ?_
  rw [wS, wE]
  refine e_pc (pc35 h (d + 3)) (by simp [ev_var, ev_int, ev_bl, ev_non, ev_str, ev_gint, ev_gstr, ev_bin, ev_neg, ev_cmp, ev_chain, ev_and, ev_or, ev_not, ev_ite, ev_tup, ev_lst, ev_ix, ev_call, ev_blt, ev_isi, ev_meth, ev_slc, evL, evI, ixO, itemsO, lisO, ixN, binO, binIO, cmpO, cmpIO, isBl, isInt, bltO, methO, eqO, isNon, isNonE, slcO, isiO, tyN, isSub, knownTy, tO, tsO, wipeP]) ⟨true, rfl, false, rfl, ?_⟩
  rw [if_neg Bool.false_ne_true]
  refine nopE (F := wF tbl (d + 8)) (seqE ?_)
  rw [wS]
  refine e0 (v := .tup [vi H, vi R]) (by simp [ev_var, ev_int, ev_bl, ev_non, ev_str, ev_gint, ev_gstr, ev_bin, ev_neg, ev_cmp, ev_chain, ev_and, ev_or, ev_not, ev_ite, ev_tup, ev_lst, ev_ix, ev_call, ev_blt, ev_isi, ev_meth, ev_slc, evL, evI, ixO, itemsO, lisO, ixN, binO, binIO, cmpO, cmpIO, isBl, isInt, bltO, methO, eqO, isNon, isNonE, slcO, isiO, tyN, isSub, knownTy, tO, tsO, wipeP]) (tO_ok _ _ _ (Fw w sh t H R none none none none none) _ (by simp [ev_var, ev_int, ev_bl, ev_non, ev_str, ev_gint, ev_gstr, ev_bin, ev_neg, ev_cmp, ev_chain, ev_and, ev_or, ev_not, ev_ite, ev_tup, ev_lst, ev_ix, ev_call, ev_blt, ev_isi, ev_meth, ev_slc, evL, evI, ixO, itemsO, lisO, ixN, binO, binIO, cmpO, cmpIO, isBl, isInt, bltO, methO, eqO, isNon, isNonE, slcO, isiO, tyN, isSub, knownTy, tO, tsO, wipeP]) ?_)
  refine seqE ?_
  rw [wS, wE, wE, wL]
  refine e0 (v := .int w) (by simp [ev_var, ev_int, ev_bl, ev_non, ev_str, ev_gint, ev_gstr, ev_bin, ev_neg, ev_cmp, ev_chain, ev_and, ev_or, ev_not, ev_ite, ev_tup, ev_lst, ev_ix, ev_call, ev_blt, ev_isi, ev_meth, ev_slc, evL, evI, ixO, itemsO, lisO, ixN, binO, binIO, cmpO, cmpIO, isBl, isInt, bltO, methO, eqO, isNon, isNonE, slcO, isiO, tyN, isSub, knownTy, tO, tsO, wipeP]) ?_
  rw [wL]
  refine e0 (v := tv t) (by simp [ev_var, ev_int, ev_bl, ev_non, ev_str, ev_gint, ev_gstr, ev_bin, ev_neg, ev_cmp, ev_chain, ev_and, ev_or, ev_not, ev_ite, ev_tup, ev_lst, ev_ix, ev_call, ev_blt, ev_isi, ev_meth, ev_slc, evL, evI, ixO, itemsO, lisO, ixN, binO, binIO, cmpO, cmpIO, isBl, isInt, bltO, methO, eqO, isNon, isNonE, slcO, isiO, tyN, isSub, knownTy, tO, tsO, wipeP]) ?_
  rw [wL]
  refine e_pc (pc31 t h.rl h.l12 (d + 7)) (by simp [ev_var, ev_int, ev_bl, ev_non, ev_str, ev_gint, ev_gstr, ev_bin, ev_neg, ev_cmp, ev_chain, ev_and, ev_or, ev_not, ev_ite, ev_tup, ev_lst, ev_ix, ev_call, ev_blt, ev_isi, ev_meth, ev_slc, evL, evI, ixO, itemsO, lisO, ixN, binO, binIO, cmpO, cmpIO, isBl, isInt, bltO, methO, eqO, isNon, isNonE, slcO, isiO, tyN, isSub, knownTy, tO, tsO, wipeP]) ?_
  rw [wL]
  refine e0 (v := vi H) (by simp [ev_var, ev_int, ev_bl, ev_non, ev_str, ev_gint, ev_gstr, ev_bin, ev_neg, ev_cmp, ev_chain, ev_and, ev_or, ev_not, ev_ite, ev_tup, ev_lst, ev_ix, ev_call, ev_blt, ev_isi, ev_meth, ev_slc, evL, evI, ixO, itemsO, lisO, ixN, binO, binIO, cmpO, cmpIO, isBl, isInt, bltO, methO, eqO, isNon, isNonE, slcO, isiO, tyN, isSub, knownTy, tO, tsO, wipeP]) ?_
  rw [wL]
  refine q26 hw t h.rl h.l12 [] H (by simp [ev_var, ev_int, ev_bl, ev_non, ev_str, ev_gint, ev_gstr, ev_bin, ev_neg, ev_cmp, ev_chain, ev_and, ev_or, ev_not, ev_ite, ev_tup, ev_lst, ev_ix, ev_call, ev_blt, ev_isi, ev_meth, ev_slc, evL, evI, ixO, itemsO, lisO, ixN, binO, binIO, cmpO, cmpIO, isBl, isInt, bltO, methO, eqO, isNon, isNonE, slcO, isiO, tyN, isSub, knownTy, tO, tsO, wipeP]; omega) (d + 4) ?_
  refine e0 (v := .int 0) (by simp [ev_var, ev_int, ev_bl, ev_non, ev_str, ev_gint, ev_gstr, ev_bin, ev_neg, ev_cmp, ev_chain, ev_and, ev_or, ev_not, ev_ite, ev_tup, ev_lst, ev_ix, ev_call, ev_blt, ev_isi, ev_meth, ev_slc, evL, evI, ixO, itemsO, lisO, ixN, binO, binIO, cmpO, cmpIO, isBl, isInt, bltO, methO, eqO, isNon, isNonE, slcO, isiO, tyN, isSub, knownTy, tO, tsO, wipeP]) ?_
  refine ⟨0, mem w ([] ++ H) t, by simp [ev_var, ev_int, ev_bl, ev_non, ev_str, ev_gint, ev_gstr, ev_bin, ev_neg, ev_cmp, ev_chain, ev_and, ev_or, ev_not, ev_ite, ev_tup, ev_lst, ev_ix, ev_call, ev_blt, ev_isi, ev_meth, ev_slc, evL, evI, ixO, itemsO, lisO, ixN, binO, binIO, cmpO, cmpIO, isBl, isInt, bltO, methO, eqO, isNon, isNonE, slcO, isiO, tyN, isSub, knownTy, tO, tsO, wipeP, Den.ixN], rfl, ?_⟩
  dsimp only
  rw [wT]
  refine ⟨by simp [ev_var, ev_int, ev_bl, ev_non, ev_str, ev_gint, ev_gstr, ev_bin, ev_neg, ev_cmp, ev_chain, ev_and, ev_or, ev_not, ev_ite, ev_tup, ev_lst, ev_ix, ev_call, ev_blt, ev_isi, ev_meth, ev_slc, evL, evI, ixO, itemsO, lisO, ixN, binO, binIO, cmpO, cmpIO, isBl, isInt, bltO, methO, eqO, isNon, isNonE, slcO, isiO, tyN, isSub, knownTy, tO, tsO, wipeP], ?_⟩
  have em : mem w ([] ++ H) t = M 0 := by
    show _ = mem w (P L (H.length + 0 * ρ)) t
    rw [Nat.zero_mul, Nat.add_zero, hPH, List.nil_append]
  rw [em]
  generalize hx0 : (SO.lst ((pays w t [] H).map .int)) = x0
  show wS _ _ ⟨Fw w sh t H R (some (M 0)) none none none none, st ++ [x0]⟩ _
  refine seqE ?_
  rw [wS, wE]
  intro g0
  dsimp only
  rw [wT]
  refine ⟨by simp [ev_var, ev_int, ev_bl, ev_non, ev_str, ev_gint, ev_gstr, ev_bin, ev_neg, ev_cmp, ev_chain, ev_and, ev_or, ev_not, ev_ite, ev_tup, ev_lst, ev_ix, ev_call, ev_blt, ev_isi, ev_meth, ev_slc, evL, evI, ixO, itemsO, lisO, ixN, binO, binIO, cmpO, cmpIO, isBl, isInt, bltO, methO, eqO, isNon, isNonE, slcO, isiO, tyN, isSub, knownTy, tO, tsO, wipeP], ?_⟩
  have el1 : (st ++ [x0]).length = st.length + 1 := by simp [ev_var, ev_int, ev_bl, ev_non, ev_str, ev_gint, ev_gstr, ev_bin, ev_neg, ev_cmp, ev_chain, ev_and, ev_or, ev_not, ev_ite, ev_tup, ev_lst, ev_ix, ev_call, ev_blt, ev_isi, ev_meth, ev_slc, evL, evI, ixO, itemsO, lisO, ixN, binO, binIO, cmpO, cmpIO, isBl, isInt, bltO, methO, eqO, isNon, isNonE, slcO, isiO, tyN, isSub, knownTy, tO, tsO, wipeP]
  show wS _ _ ⟨Fw w sh t H R (some (M 0)) (some (.ref (st ++ [x0]).length)) none none none, (st ++ [x0]) ++ [.dct [] g0]⟩ _
  rw [el1, List.append_assoc]
  show wS _ _ ⟨_, st ++ [x0, .dct [] g0]⟩ _
  refine seqE ?_
  rw [wS, wE]
  refine l0 (v := [.int 0]) (by simp [ev_var, ev_int, ev_bl, ev_non, ev_str, ev_gint, ev_gstr, ev_bin, ev_neg, ev_cmp, ev_chain, ev_and, ev_or, ev_not, ev_ite, ev_tup, ev_lst, ev_ix, ev_call, ev_blt, ev_isi, ev_meth, ev_slc, evL, evI, ixO, itemsO, lisO, ixN, binO, binIO, cmpO, cmpIO, isBl, isInt, bltO, methO, eqO, isNon, isNonE, slcO, isiO, tyN, isSub, knownTy, tO, tsO, wipeP]) ⟨by simp [ev_var, ev_int, ev_bl, ev_non, ev_str, ev_gint, ev_gstr, ev_bin, ev_neg, ev_cmp, ev_chain, ev_and, ev_or, ev_not, ev_ite, ev_tup, ev_lst, ev_ix, ev_call, ev_blt, ev_isi, ev_meth, ev_slc, evL, evI, ixO, itemsO, lisO, ixN, binO, binIO, cmpO, cmpIO, isBl, isInt, bltO, methO, eqO, isNon, isNonE, slcO, isiO, tyN, isSub, knownTy, tO, tsO, wipeP, szOk], ?_⟩
  rw [if_pos rfl]
  dsimp only
  rw [wT]
  refine ⟨by simp [ev_var, ev_int, ev_bl, ev_non, ev_str, ev_gint, ev_gstr, ev_bin, ev_neg, ev_cmp, ev_chain, ev_and, ev_or, ev_not, ev_ite, ev_tup, ev_lst, ev_ix, ev_call, ev_blt, ev_isi, ev_meth, ev_slc, evL, evI, ixO, itemsO, lisO, ixN, binO, binIO, cmpO, cmpIO, isBl, isInt, bltO, methO, eqO, isNon, isNonE, slcO, isiO, tyN, isSub, knownTy, tO, tsO, wipeP], ?_⟩
  have el2 : (st ++ [x0, .dct [] g0]).length = st.length + 2 := by simp [ev_var, ev_int, ev_bl, ev_non, ev_str, ev_gint, ev_gstr, ev_bin, ev_neg, ev_cmp, ev_chain, ev_and, ev_or, ev_not, ev_ite, ev_tup, ev_lst, ev_ix, ev_call, ev_blt, ev_isi, ev_meth, ev_slc, evL, evI, ixO, itemsO, lisO, ixN, binO, binIO, cmpO, cmpIO, isBl, isInt, bltO, methO, eqO, isNon, isNonE, slcO, isiO, tyN, isSub, knownTy, tO, tsO, wipeP]
  show wS _ _ ⟨Fw w sh t H R (some (M 0)) (some (.ref (st.length + 1))) (some (.ref (st ++ [x0, .dct [] g0]).length)) none none, (st ++ [x0, .dct [] g0]) ++ [.lst [.int 0]]⟩ _
  rw [el2, List.append_assoc]
  show wS _ _ ⟨_, st ++ [x0, .dct [] g0, .lst [.int 0]]⟩ _
  -- the turns
  refine cut (fun p => ∃ (k i : Nat) (g1 : PySem.Obj) (J : Store) (e10 : Option PV), p = ⟨Fw w sh t H R (some (M k)) (some (.ref (st.length + 1))) (some (.ref (st.length + 2))) none e10, st ++ (x0 :: .dct (esK M k) g1 :: .lst ((sms (dg L w t) H.length ρ k).map .int) :: J)⟩ ∧ k ≤ 2 * w + 6 ∧ i < k ∧ M i = M k ∧ ∃ kk, nkO (M k) = some kk ∧ getK (esK M k) kk = some (.int (i : Nat))) ?_ ?_
  · rw [wS]
    refine ⟨fun m p => ∃ (k : Nat) (g1 : PySem.Obj) (J : Store) (e10 : Option PV), p = ⟨Fw w sh t H R (some (M k)) (some (.ref (st.length + 1))) (some (.ref (st.length + 2))) none e10, st ++ (x0 :: .dct (esK M k) g1 :: .lst ((sms (dg L w t) H.length ρ k).map .int) :: J)⟩ ∧ k ≤ 2 * w + 6 ∧ (∀ i j, i < j → j < k → M i ≠ M j) ∧ m = 100 - k, ⟨100, 0, g0, [], none, ?_, by omega, fun _ _ _ z => by omega, rfl⟩, ?_⟩
    · rw [sms_zero]
      rfl
    · rintro m p ⟨k, g1, J, e10, rfl, hk, hne, rfl⟩
      obtain ⟨kk, hk1, hk2, hk3⟩ := nk_it (hM k) (by decide) ⟨_, rfl⟩
      have hg1 : dctO ⟨Fw w sh t H R (some (M k)) (some (.ref (st.length + 1))) (some (.ref (st.length + 2))) none e10, st ++ (x0 :: .dct (esK M k) g1 :: .lst ((sms (dg L w t) H.length ρ k).map .int) :: J)⟩ (.ref (st.length + 1)) = some (esK M k) := by
        unfold dctO
        dsimp only
        rw [gA]
        rfl
      generalize hmk : M k = mk at hk1 hk2 hg1
      rcases getK_map hM (hmk ▸ hM k) hk1 (List.range k) with ⟨i, h1, h2, h3⟩ | ⟨h1, h2⟩
      · refine e0 (v := .bl false) (by simp [ev_var, ev_int, ev_bl, ev_non, ev_str, ev_gint, ev_gstr, ev_bin, ev_neg, ev_cmp, ev_chain, ev_and, ev_or, ev_not, ev_ite, ev_tup, ev_lst, ev_ix, ev_call, ev_blt, ev_isi, ev_meth, ev_slc, evL, evI, ixO, itemsO, lisO, ixN, binO, binIO, cmpO, cmpIO, isBl, isInt, bltO, methO, eqO, isNon, isNonE, slcO, isiO, tyN, isSub, knownTy, tO, tsO, wipeP, ev_ind, hg1, hk2, h3]) ⟨false, rfl, ?_⟩
        rw [if_neg Bool.false_ne_true]
        exact ⟨k, i, g1, J, e10, by rw [hmk], hk, List.mem_range.mp h1, h2.trans hmk.symm, kk, hmk ▸ hk2, h3⟩
      · refine e0 (v := .bl true) (by simp [ev_var, ev_int, ev_bl, ev_non, ev_str, ev_gint, ev_gstr, ev_bin, ev_neg, ev_cmp, ev_chain, ev_and, ev_or, ev_not, ev_ite, ev_tup, ev_lst, ev_ix, ev_call, ev_blt, ev_isi, ev_meth, ev_slc, evL, evI, ixO, itemsO, lisO, ixN, binO, binIO, cmpO, cmpIO, isBl, isInt, bltO, methO, eqO, isNon, isNonE, slcO, isiO, tyN, isSub, knownTy, tO, tsO, wipeP, ev_ind, hg1, hk2, h2]) ⟨true, rfl, ?_⟩
        rw [if_pos rfl]
        have hk' : k ≤ 2 * w + 5 := by
          rcases Nat.lt_or_ge k (2 * w + 6) with z | z
          · omega
          · refine absurd ?_ (hne (w + 5) (w + 5 + w) (by omega) (by omega))
            exact (same_far hw h.h6 h.ok hR1 hper (Nat.le_refl _)).mem
        have hb := hbig k hk
        have hg6 : (st ++ (x0 :: .dct (esK M k) g1 :: .lst ((sms (dg L w t) H.length ρ k).map .int) :: J))[st.length + 2]? = some (SO.lst ((sms (dg L w t) H.length ρ k).map .int)) := gA
        refine seqE ?_
        rw [wS]
        refine e0 (v := .int (k : Nat)) (by simp [ev_var, ev_int, ev_bl, ev_non, ev_str, ev_gint, ev_gstr, ev_bin, ev_neg, ev_cmp, ev_chain, ev_and, ev_or, ev_not, ev_ite, ev_tup, ev_lst, ev_ix, ev_call, ev_blt, ev_isi, ev_meth, ev_slc, evL, evI, ixO, itemsO, lisO, ixN, binO, binIO, cmpO, cmpIO, isBl, isInt, bltO, methO, eqO, isNon, isNonE, slcO, isiO, tyN, isSub, knownTy, tO, tsO, wipeP, hg6, sms_len]) (e0 (v := .ref (st.length + 1)) (by simp [ev_var, ev_int, ev_bl, ev_non, ev_str, ev_gint, ev_gstr, ev_bin, ev_neg, ev_cmp, ev_chain, ev_and, ev_or, ev_not, ev_ite, ev_tup, ev_lst, ev_ix, ev_call, ev_blt, ev_isi, ev_meth, ev_slc, evL, evI, ixO, itemsO, lisO, ixN, binO, binIO, cmpO, cmpIO, isBl, isInt, bltO, methO, eqO, isNon, isNonE, slcO, isiO, tyN, isSub, knownTy, tO, tsO, wipeP]) (e0 (v := mk) (by simp [ev_var, ev_int, ev_bl, ev_non, ev_str, ev_gint, ev_gstr, ev_bin, ev_neg, ev_cmp, ev_chain, ev_and, ev_or, ev_not, ev_ite, ev_tup, ev_lst, ev_ix, ev_call, ev_blt, ev_isi, ev_meth, ev_slc, evL, evI, ixO, itemsO, lisO, ixN, binO, binIO, cmpO, cmpIO, isBl, isInt, bltO, methO, eqO, isNon, isNonE, slcO, isiO, tyN, isSub, knownTy, tO, tsO, wipeP]) ?_))
        refine ⟨st.length + 1, esK M k, g1, kk, rfl, gA, hmk ▸ ⟨_, rfl⟩, hk1, hk3, by simp [ev_var, ev_int, ev_bl, ev_non, ev_str, ev_gint, ev_gstr, ev_bin, ev_neg, ev_cmp, ev_chain, ev_and, ev_or, ev_not, ev_ite, ev_tup, ev_lst, ev_ix, ev_call, ev_blt, ev_isi, ev_meth, ev_slc, evL, evI, ixO, itemsO, lisO, ixN, binO, binIO, cmpO, cmpIO, isBl, isInt, bltO, methO, eqO, isNon, isNonE, slcO, isiO, tyN, isSub, knownTy, tO, tsO, wipeP]; omega, fun g2 => ?_⟩
        have e1 : putK (esK M k) mk kk (.int (k : Nat)) = esK M (k + 1) := by
          rw [putK_last h2, esK_snoc, hmk]
        rw [e1, sA]
        show wS _ _ ⟨Fw w sh t H R (some mk) (some (.ref (st.length + 1))) (some (.ref (st.length + 2))) none e10, st ++ (x0 :: .dct (esK M (k + 1)) g2 :: .lst ((sms (dg L w t) H.length ρ k).map .int) :: J)⟩ _
        refine seqE ?_
        rw [wS, wE]
        refine l0 (v := [.int w, tv t, mk, vi R]) (by simp [ev_var, ev_int, ev_bl, ev_non, ev_str, ev_gint, ev_gstr, ev_bin, ev_neg, ev_cmp, ev_chain, ev_and, ev_or, ev_not, ev_ite, ev_tup, ev_lst, ev_ix, ev_call, ev_blt, ev_isi, ev_meth, ev_slc, evL, evI, ixO, itemsO, lisO, ixN, binO, binIO, cmpO, cmpIO, isBl, isInt, bltO, methO, eqO, isNon, isNonE, slcO, isiO, tyN, isSub, knownTy, tO, tsO, wipeP]) ?_
        rw [← hmk]
        have hR900 : (P L (H.length + k * ρ)).length + R.length ≤ 900 := by rw [P_len, hρ]; omega
        refine q26 hw t h.rl h.l12 (P L (H.length + k * ρ)) R hR900 (d + 4) ?_
        have e2 : P L (H.length + k * ρ) ++ R = P L (H.length + (k + 1) * ρ) := by
          have : H.length + (k + 1) * ρ = H.length + k * ρ + ρ := by rw [Nat.succ_mul]; omega
          rw [this, P_add L (H.length + k * ρ) ρ, hnx]
        rw [e2]
        have e3 : (pays w t (P L (H.length + k * ρ)) R).sum = win (dg L w t) (H.length + k * ρ) ρ := by
          rw [← hnx k, pays_sum]
        generalize hF : pays w t (P L (H.length + k * ρ)) R = F at e3
        have el : (st ++ (x0 :: SO.dct (esK M (k + 1)) g2 :: SO.lst ((sms (dg L w t) H.length ρ k).map .int) :: J)).length = st.length + (J.length + 3) := by simp [ev_var, ev_int, ev_bl, ev_non, ev_str, ev_gint, ev_gstr, ev_bin, ev_neg, ev_cmp, ev_chain, ev_and, ev_or, ev_not, ev_ite, ev_tup, ev_lst, ev_ix, ev_call, ev_blt, ev_isi, ev_meth, ev_slc, evL, evI, ixO, itemsO, lisO, ixN, binO, binIO, cmpO, cmpIO, isBl, isInt, bltO, methO, eqO, isNon, isNonE, slcO, isiO, tyN, isSub, knownTy, tO, tsO, wipeP]
        have ea : (st ++ (x0 :: SO.dct (esK M (k + 1)) g2 :: SO.lst ((sms (dg L w t) H.length ρ k).map .int) :: J)) ++ [SO.lst (F.map .int)] = st ++ (x0 :: SO.dct (esK M (k + 1)) g2 :: SO.lst ((sms (dg L w t) H.length ρ k).map .int) :: (J ++ [SO.lst (F.map .int)])) := by simp [ev_var, ev_int, ev_bl, ev_non, ev_str, ev_gint, ev_gstr, ev_bin, ev_neg, ev_cmp, ev_chain, ev_and, ev_or, ev_not, ev_ite, ev_tup, ev_lst, ev_ix, ev_call, ev_blt, ev_isi, ev_meth, ev_slc, evL, evI, ixO, itemsO, lisO, ixN, binO, binIO, cmpO, cmpIO, isBl, isInt, bltO, methO, eqO, isNon, isNonE, slcO, isiO, tyN, isSub, knownTy, tO, tsO, wipeP]
        rw [el, ea]
        have hgF : (st ++ (x0 :: SO.dct (esK M (k + 1)) g2 :: SO.lst ((sms (dg L w t) H.length ρ k).map .int) :: (J ++ [SO.lst (F.map .int)])))[st.length + (J.length + 3)]? = some (SO.lst (F.map .int)) := by
          rw [gA]
          simp [ev_var, ev_int, ev_bl, ev_non, ev_str, ev_gint, ev_gstr, ev_bin, ev_neg, ev_cmp, ev_chain, ev_and, ev_or, ev_not, ev_ite, ev_tup, ev_lst, ev_ix, ev_call, ev_blt, ev_isi, ev_meth, ev_slc, evL, evI, ixO, itemsO, lisO, ixN, binO, binIO, cmpO, cmpIO, isBl, isInt, bltO, methO, eqO, isNon, isNonE, slcO, isiO, tyN, isSub, knownTy, tO, tsO, wipeP]
        have hgS : (st ++ (x0 :: SO.dct (esK M (k + 1)) g2 :: SO.lst ((sms (dg L w t) H.length ρ k).map .int) :: (J ++ [SO.lst (F.map .int)])))[st.length + 2]? = some (SO.lst ((sms (dg L w t) H.length ρ k).map .int)) := gA
        refine tO_ok _ _ _ (Fw w sh t H R (some (M (k + 1))) (some (.ref (st.length + 1))) (some (.ref (st.length + 2))) none (some (.ref (st.length + (J.length + 3))))) _ (by simp [ev_var, ev_int, ev_bl, ev_non, ev_str, ev_gint, ev_gstr, ev_bin, ev_neg, ev_cmp, ev_chain, ev_and, ev_or, ev_not, ev_ite, ev_tup, ev_lst, ev_ix, ev_call, ev_blt, ev_isi, ev_meth, ev_slc, evL, evI, ixO, itemsO, lisO, ixN, binO, binIO, cmpO, cmpIO, isBl, isInt, bltO, methO, eqO, isNon, isNonE, slcO, isiO, tyN, isSub, knownTy, tO, tsO, wipeP]; rfl) ?_
        refine seqE ?_
        rw [wS, wE]
        refine e0 (v := .ref (st.length + 2)) (by simp [ev_var, ev_int, ev_bl, ev_non, ev_str, ev_gint, ev_gstr, ev_bin, ev_neg, ev_cmp, ev_chain, ev_and, ev_or, ev_not, ev_ite, ev_tup, ev_lst, ev_ix, ev_call, ev_blt, ev_isi, ev_meth, ev_slc, evL, evI, ixO, itemsO, lisO, ixN, binO, binIO, cmpO, cmpIO, isBl, isInt, bltO, methO, eqO, isNon, isNonE, slcO, isiO, tyN, isSub, knownTy, tO, tsO, wipeP]) ⟨⟨_, hgS, trivial⟩, ?_⟩
        rw [wL]
        have hlast : ev noG (.ix (.var 6) (.neg (.int 1))) ⟨Fw w sh t H R (some (M (k + 1))) (some (.ref (st.length + 1))) (some (.ref (st.length + 2))) none (some (.ref (st.length + (J.length + 3)))), st ++ (x0 :: SO.dct (esK M (k + 1)) g2 :: SO.lst ((sms (dg L w t) H.length ρ k).map .int) :: (J ++ [SO.lst (F.map .int)]))⟩ = some (.int (win (dg L w t) H.length (k * ρ))) := by
          have hs := sms_get (g := dg L w t) (n := H.length) (ρ := ρ) (k := k) (Nat.le_refl k)
          have hl' : ((sms (dg L w t) H.length ρ k).map PV.int).length = k + 1 := by rw [List.length_map, sms_len]
          generalize hSS : (sms (dg L w t) H.length ρ k).map PV.int = SS at hs hl' hgS
          have ix : (ixN SS.length (-1)).bind (fun k => SS[k]?) = some (.int (win (dg L w t) H.length (k * ρ))) := by
            unfold ixN
            rw [if_neg (by decide), if_pos (by omega), Option.bind_some, hl']
            have : ((-1 : Int) + ((k + 1 : Nat) : Int)).toNat = k := by omega
            rw [this, hs]
          rw [ev_ix]
          simp only [ev_var, ev_neg, ev_int, List.getElem?_cons_succ, List.getElem?_cons_zero, Option.bind_some, id_eq, isInt, Option.map_some, ixO, itemsO, lisO, hgS]
          exact ix
        have hsum : ev noG (.blt .sum false (.cons (.var 10) .nil)) ⟨Fw w sh t H R (some (M (k + 1))) (some (.ref (st.length + 1))) (some (.ref (st.length + 2))) none (some (.ref (st.length + (J.length + 3)))), st ++ (x0 :: SO.dct (esK M (k + 1)) g2 :: SO.lst ((sms (dg L w t) H.length ρ k).map .int) :: (J ++ [SO.lst (F.map .int)]))⟩ = some (.int (win (dg L w t) (H.length + k * ρ) ρ)) := by
          simp only [ev_blt, evL, ev_var, List.getElem?_cons_succ, List.getElem?_cons_zero, Option.bind_some, id_eq, Option.map_some, bltO, itemsO, lisO, hgF, allInt_map, e3]
        refine e0 (v := .int (win (dg L w t) H.length ((k + 1) * ρ))) ?_ ?_
        · rw [ev_bin, hlast, hsum]
          have : win (dg L w t) H.length ((k + 1) * ρ) = win (dg L w t) H.length (k * ρ) + win (dg L w t) (H.length + k * ρ) ρ := by
            rw [Nat.succ_mul, win_add]
          rw [this]
          simp [ev_var, ev_int, ev_bl, ev_non, ev_str, ev_gint, ev_gstr, ev_bin, ev_neg, ev_cmp, ev_chain, ev_and, ev_or, ev_not, ev_ite, ev_tup, ev_lst, ev_ix, ev_call, ev_blt, ev_isi, ev_meth, ev_slc, evL, evI, ixO, itemsO, lisO, ixN, binO, binIO, cmpO, cmpIO, isBl, isInt, bltO, methO, eqO, isNon, isNonE, slcO, isiO, tyN, isSub, knownTy, tO, tsO, wipeP]
        rw [wL]
        refine ⟨st.length + 2, _, rfl, hgS, by rw [List.length_map, sms_len]; omega, ?_⟩
        refine nopE (F := wF tbl (d + 8)) ⟨100 - (k + 1), by omega, k + 1, g2, J ++ [SO.lst (F.map .int)], some (.ref (st.length + (J.length + 3))), ?_, by omega, fun i j hij hj => ?_, rfl⟩
        · rw [sA, sms_snoc, List.map_append]
          rfl
        · rcases Nat.lt_or_ge j k with z | z
          · exact hne i j hij z
          · obtain rfl : j = k := by omega
            intro e
            exact h1 i (List.mem_range.mpr hij) (e.trans hmk)
  · rintro p ⟨k, i, g1, J, e10, rfl, hk, hik, hMe, kk, hkk, hget⟩
    have hb := hbig k hk
    have hgD : dctO ⟨Fw w sh t H R (some (M k)) (some (.ref (st.length + 1))) (some (.ref (st.length + 2))) none e10, st ++ (x0 :: .dct (esK M k) g1 :: .lst ((sms (dg L w t) H.length ρ k).map .int) :: J)⟩ (.ref (st.length + 1)) = some (esK M k) := by
      unfold dctO
      dsimp only
      rw [gA]
      rfl
    have hgS : (st ++ (x0 :: SO.dct (esK M k) g1 :: SO.lst ((sms (dg L w t) H.length ρ k).map .int) :: J))[st.length + 2]? = some (SO.lst ((sms (dg L w t) H.length ρ k).map .int)) := gA
    have hsame := mem_inj hMe
    generalize hmk : M k = mk at hkk
    generalize hS : st ++ (x0 :: SO.dct (esK M k) g1 :: SO.lst ((sms (dg L w t) H.length ρ k).map .int) :: J) = S1 at hgD hgS
    have hix : ∀ e7, ev noG (.ixd (.var 5) (.var 4)) ⟨Fw w sh t H R (some mk) (some (.ref (st.length + 1))) (some (.ref (st.length + 2))) e7 e10, S1⟩ = some (.int (i : Nat)) := fun e7 => by
      have hd : dctO ⟨Fw w sh t H R (some mk) (some (.ref (st.length + 1))) (some (.ref (st.length + 2))) e7 e10, S1⟩ (.ref (st.length + 1)) = some (esK M k) := hgD
      rw [ev_ixd]
      simp only [ev_var, List.getElem?_cons_succ, List.getElem?_cons_zero, Option.bind_some, id_eq, hd, hkk, hget]
    refine seqE (asg_ok (v := .int ((k : Int) - (i : Int))) ?_ (by simp [ev_var, ev_int, ev_bl, ev_non, ev_str, ev_gint, ev_gstr, ev_bin, ev_neg, ev_cmp, ev_chain, ev_and, ev_or, ev_not, ev_ite, ev_tup, ev_lst, ev_ix, ev_call, ev_blt, ev_isi, ev_meth, ev_slc, evL, evI, ixO, itemsO, lisO, ixN, binO, binIO, cmpO, cmpIO, isBl, isInt, bltO, methO, eqO, isNon, isNonE, slcO, isiO, tyN, isSub, knownTy, tO, tsO, wipeP]) ?_)
    · rw [ev_bin, hix none]
      simp [ev_var, ev_int, ev_bl, ev_non, ev_str, ev_gint, ev_gstr, ev_bin, ev_neg, ev_cmp, ev_chain, ev_and, ev_or, ev_not, ev_ite, ev_tup, ev_lst, ev_ix, ev_call, ev_blt, ev_isi, ev_meth, ev_slc, evL, evI, ixO, itemsO, lisO, ixN, binO, binIO, cmpO, cmpIO, isBl, isInt, bltO, methO, eqO, isNon, isNonE, slcO, isiO, tyN, isSub, knownTy, tO, tsO, wipeP, hgS, sms_len]
    show wS _ _ ⟨Fw w sh t H R (some mk) (some (.ref (st.length + 1))) (some (.ref (st.length + 2))) (some (.int ((k : Int) - (i : Int)))) e10, S1⟩ _
    have hs1 := sms_get (g := dg L w t) (n := H.length) (ρ := ρ) (k := k) (Nat.le_refl k)
    have hs2 := sms_get (g := dg L w t) (n := H.length) (ρ := ρ) (k := k) (i := i) (by omega)
    have hl' : ((sms (dg L w t) H.length ρ k).map PV.int).length = k + 1 := by rw [List.length_map, sms_len]
    generalize hSS : (sms (dg L w t) H.length ρ k).map PV.int = SS at hs1 hs2 hl' hgS
    have ix1 : (ixN SS.length (-1)).bind (fun k => SS[k]?) = some (.int (win (dg L w t) H.length (k * ρ))) := by
      unfold ixN
      rw [if_neg (by decide), if_pos (by omega), Option.bind_some, hl']
      have : ((-1 : Int) + ((k + 1 : Nat) : Int)).toNat = k := by omega
      rw [this, hs1]
    have ix2 : (ixN SS.length (i : Nat)).bind (fun k => SS[k]?) = some (.int (win (dg L w t) H.length (i * ρ))) := by
      unfold ixN
      rw [if_pos (by omega), if_pos (by omega), Option.bind_some]
      have : ((i : Int)).toNat = i := by omega
      rw [this, hs2]
    refine seqE ?_
    rw [wS, wE, wL]
    refine e0 (v := .int (win (dg L w t) H.length (k * ρ) - win (dg L w t) H.length (i * ρ))) ?_ ?_
    · rw [ev_bin, ev_ix, ev_ix, hix]
      simp only [ev_var, ev_neg, ev_int, List.getElem?_cons_succ, List.getElem?_cons_zero, Option.bind_some, id_eq, isInt, Option.map_some, ixO, itemsO, lisO, hgS, ix1, ix2, binO, binIO]
    rw [wL]
    have eρ : ((k : Int) - (i : Int)) * (R.length : Int) = (((k - i) * ρ : Nat) : Int) := by
      rw [Int.natCast_mul, Int.ofNat_sub (by omega), hρ]
    have hsm : (k - i) * ρ ≤ 62 * 12 := Nat.mul_le_mul (by omega) hR2
    have hps : 0 < (k - i) * ρ := Nat.mul_pos (by omega) hR1
    refine e0 (v := .int (((k - i) * ρ : Nat) : Int)) ?_ ?_
    · rw [← eρ]
      have hlog := log_small (i := (k : Int) - (i : Int)) (j := (R.length : Int)) (by omega) (by omega) (by omega) (by omega)
      rw [Int.natAbs_natCast] at hlog
      simp [ev_var, ev_int, ev_bl, ev_non, ev_str, ev_gint, ev_gstr, ev_bin, ev_neg, ev_cmp, ev_chain, ev_and, ev_or, ev_not, ev_ite, ev_tup, ev_lst, ev_ix, ev_call, ev_blt, ev_isi, ev_meth, ev_slc, evL, evI, ixO, itemsO, lisO, ixN, binO, binIO, cmpO, cmpIO, isBl, isInt, bltO, methO, eqO, isNon, isNonE, slcO, isiO, tyN, isSub, knownTy, tO, tsO, wipeP, hlog]
    rw [wL]
    refine pc33 (by omega) (by omega) (d + 6) _ _ _ ?_
    have ewin : win (dg L w t) H.length (k * ρ) - win (dg L w t) H.length (i * ρ) = win (dg L w t) (H.length + i * ρ) ((k - i) * ρ) := by
      have : k * ρ = i * ρ + (k - i) * ρ := by rw [← Nat.add_mul]; congr 1; omega
      rw [this, win_add]
      omega
    have e9 : low (win (dg L w t) H.length (k * ρ) - win (dg L w t) H.length (i * ρ)) (((k - i) * ρ : Nat) : Int) = low (win (dg L w t) b q) q := by
      rw [ewin]
      refine low_eq (by omega) (by omega) ?_
      have enk : H.length + k * ρ = H.length + i * ρ + (k - i) * ρ := by
        have : k * ρ = i * ρ + (k - i) * ρ := by rw [← Nat.add_mul]; congr 1; omega
        omega
      refine two_periods (fun n hn => ?_) hqp
      have hp := (per_of hw h.ok hsame (fun j => by
        have := L_times hper (H.length + i * ρ + j) (by omega) (k - i)
        rw [← this, enk]
        congr 1
        omega) (n - (H.length + i * ρ))).2
      have a1 : H.length + i * ρ + (n - (H.length + i * ρ)) = n := by omega
      have a2 : H.length + k * ρ + (n - (H.length + i * ρ)) = n + (k - i) * ρ := by omega
      rw [a1, a2] at hp
      exact hp.symm
    rw [e9]
    refine ⟨.tup fun x hx => ?_, ⟨_, hS.symm⟩, hq⟩
    simp only [List.mem_cons, List.not_mem_nil, or_false] at hx
    rcases hx with rfl | rfl <;> exact .int
end
end K69

/-! K69b: the law's own mean. -/
namespace K69
open Den
theorem P_rep (H R : List Int) : ∀ k, P (eL H R) (H.length + k * R.length) = H ++ (List.replicate k R).flatten
  | 0 => by simp [ev_var, ev_int, ev_bl, ev_non, ev_str, ev_gint, ev_gstr, ev_bin, ev_neg, ev_cmp, ev_chain, ev_and, ev_or, ev_not, ev_ite, ev_tup, ev_lst, ev_ix, ev_call, ev_blt, ev_isi, ev_meth, ev_slc, evL, evI, ixO, itemsO, lisO, ixN, binO, binIO, cmpO, cmpIO, isBl, isInt, bltO, methO, eqO, isNon, isNonE, slcO, isiO, tyN, isSub, knownTy, tO, tsO, wipeP, P_head]
  | k + 1 => by
    have e : H.length + (k + 1) * R.length = H.length + k * R.length + R.length := by rw [Nat.succ_mul]; omega
    rw [e, P_add, nx_ring, P_rep H R k, List.replicate_succ', List.flatten_append, List.append_assoc]
    simp [ev_var, ev_int, ev_bl, ev_non, ev_str, ev_gint, ev_gstr, ev_bin, ev_neg, ev_cmp, ev_chain, ev_and, ev_or, ev_not, ev_ite, ev_tup, ev_lst, ev_ix, ev_call, ev_blt, ev_isi, ev_meth, ev_slc, evL, evI, ixO, itemsO, lisO, ixN, binO, binIO, cmpO, cmpIO, isBl, isInt, bltO, methO, eqO, isNon, isNonE, slcO, isiO, tyN, isSub, knownTy, tO, tsO, wipeP]
theorem rep_map (R : List Int) (k : Nat) : (List.replicate k (R.map PV.int)).flatten = ((List.replicate k R).flatten).map PV.int := by
  induction k with
  | zero => rfl
  | succ k ih => rw [List.replicate_succ, List.replicate_succ, List.flatten_cons, List.flatten_cons, List.map_append, ih]
theorem drop_range (f : Nat → Int) (b q : Nat) : (((List.range (b + q)).map f).drop b) = (List.range q).map fun i => f (b + i) := by
  refine List.ext_getElem? fun i => ?_
  rw [List.getElem?_drop, List.getElem?_map, List.getElem?_map]
  by_cases h : i < q
  · rw [List.getElem?_range (by omega), List.getElem?_range h]
    rfl
  · rw [List.getElem?_eq_none (by simp [ev_var, ev_int, ev_bl, ev_non, ev_str, ev_gint, ev_gstr, ev_bin, ev_neg, ev_cmp, ev_chain, ev_and, ev_or, ev_not, ev_ite, ev_tup, ev_lst, ev_ix, ev_call, ev_blt, ev_isi, ev_meth, ev_slc, evL, evI, ixO, itemsO, lisO, ixN, binO, binIO, cmpO, cmpIO, isBl, isInt, bltO, methO, eqO, isNon, isNonE, slcO, isiO, tyN, isSub, knownTy, tO, tsO, wipeP]; omega), List.getElem?_eq_none (by simp [ev_var, ev_int, ev_bl, ev_non, ev_str, ev_gint, ev_gstr, ev_bin, ev_neg, ev_cmp, ev_chain, ev_and, ev_or, ev_not, ev_ite, ev_tup, ev_lst, ev_ix, ev_call, ev_blt, ev_isi, ev_meth, ev_slc, evL, evI, ixO, itemsO, lisO, ixN, binO, binIO, cmpO, cmpIO, isBl, isInt, bltO, methO, eqO, isNon, isNonE, slcO, isiO, tyN, isSub, knownTy, tO, tsO, wipeP]; omega)]
    rfl
/-- where the law's own days begin -/
def tT (w : Nat) (H R : List Int) : Nat := H.length / R.length + w + 8
def bT (w : Nat) (H R : List Int) : Nat := H.length + tT w H R * R.length
section
variable {w sh : Nat} {t : List PR} {H R : List Int} (h : MOk w sh t H R)
include h
theorem per_law : ∀ n, bT w H R ≤ n → dg (eL H R) w t (n + w * R.length) = dg (eL H R) w t n := fun n hn => by
  have h1 := same_far (L := eL H R) (t := t) h.w1 h.h6 h.ok h.rl1 (eL_per H R) (k := tT w H R) (by unfold tT; generalize H.length / R.length = z; omega)
  have e : H.length + (tT w H R + w) * R.length = bT w H R + w * R.length := by unfold bT; rw [Nat.add_mul]; omega
  rw [e] at h1
  have h2 := (per_of h.w1 h.ok h1 (fun j => by
    have := L_times (eL_per H R) (bT w H R + j) (by unfold bT; omega) w
    show eL H R (bT w H R + j) = _
    rw [← this]
    congr 1
    omega) (n - bT w H R)).2
  have a1 : H.length + tT w H R * R.length + (n - bT w H R) = n := by unfold bT at hn ⊢; omega
  have a2 : bT w H R + w * R.length + (n - bT w H R) = n + w * R.length := by omega
  rw [a1, a2] at h2
  exact h2.symm
/-- _law_mean -/
theorem pc10 (hH : H.length ≤ 9) (hR : R.length ≤ 6) (d : Nat) : PC tbl (d + 3) 10 [.int w, tv t, vi H, vi R] (low (win (dg (eL H R) w t) (bT w H R) (w * R.length)) ((w * R.length : Nat) : Int)) := fun st Q X hq => by
  have hw := h.w1
  have hw2 := h.w2
  have hR1 := h.rl1
  have hdiv : H.length / R.length ≤ H.length := Nat.div_le_self _ _
  have hT1 : 9 ≤ tT w H R := by unfold tT; generalize H.length / R.length = z; omega
  have hT2 : tT w H R ≤ 45 := by unfold tT; generalize H.length / R.length = z at hdiv ⊢; omega
  have hspan : w * R.length ≤ 28 * 6 := Nat.mul_le_mul hw2 hR
  have hsp0 : 0 < w * R.length := Nat.mul_pos hw hR1
  have hTR : tT w H R * R.length ≤ 45 * 6 := Nat.mul_le_mul hT2 hR
  have hb : bT w H R = H.length + tT w H R * R.length := rfl
  have hN : H.length + (tT w H R + w) * R.length = bT w H R + w * R.length := by unfold bT; rw [Nat.add_mul]; omega
  refine wF_runE 4 9 b10 [some (.int w), some (tv t), some (vi H), some (vi R), none, none, none, none, none] rfl rfl (by decide) rfl (seqE (asg_ok (v := .int ((w * R.length : Nat) : Int)) ?_ (by simp [ev_var, ev_int, ev_bl, ev_non, ev_str, ev_gint, ev_gstr, ev_bin, ev_neg, ev_cmp, ev_chain, ev_and, ev_or, ev_not, ev_ite, ev_tup, ev_lst, ev_ix, ev_call, ev_blt, ev_isi, ev_meth, ev_slc, evL, evI, ixO, itemsO, lisO, ixN, binO, binIO, cmpO, cmpIO, isBl, isInt, bltO, methO, eqO, isNon, isNonE, slcO, isiO, tyN, isSub, knownTy, tO, tsO, wipeP]) ?_))
  · have hlog := log_small (i := (R.length : Int)) (j := (w : Int)) (by omega) (by omega) (by omega) (by omega)
    rw [Int.natAbs_natCast, Int.natAbs_natCast] at hlog
    have e : ((w * R.length : Nat) : Int) = (R.length : Int) * (w : Int) := by rw [Nat.mul_comm, Int.natCast_mul]
    rw [e]
    simp [ev_var, ev_int, ev_bl, ev_non, ev_str, ev_gint, ev_gstr, ev_bin, ev_neg, ev_cmp, ev_chain, ev_and, ev_or, ev_not, ev_ite, ev_tup, ev_lst, ev_ix, ev_call, ev_blt, ev_isi, ev_meth, ev_slc, evL, evI, ixO, itemsO, lisO, ixN, binO, binIO, cmpO, cmpIO, isBl, isInt, bltO, methO, eqO, isNon, isNonE, slcO, isiO, tyN, isSub, knownTy, tO, tsO, wipeP, hlog]
  show wS _ _ ⟨[some (.int w), some (tv t), some (vi H), some (vi R), some (.int ((w * R.length : Nat) : Int)), none, none, none, none], st⟩ _
  refine seqE (asg_ok (v := .int (tT w H R : Nat)) ?_ (by simp [ev_var, ev_int, ev_bl, ev_non, ev_str, ev_gint, ev_gstr, ev_bin, ev_neg, ev_cmp, ev_chain, ev_and, ev_or, ev_not, ev_ite, ev_tup, ev_lst, ev_ix, ev_call, ev_blt, ev_isi, ev_meth, ev_slc, evL, evI, ixO, itemsO, lisO, ixN, binO, binIO, cmpO, cmpIO, isBl, isInt, bltO, methO, eqO, isNon, isNonE, slcO, isiO, tyN, isSub, knownTy, tO, tsO, wipeP]) ?_)
  · have hlog := log_one (j := (R.length : Int)) (by omega) (by omega)
    rw [Int.natAbs_natCast] at hlog
    have e : ((tT w H R : Nat) : Int) = (H.length : Int) / (R.length : Int) + (w : Int) + 8 := by
      have : ((H.length / R.length : Nat) : Int) = (H.length : Int) / (R.length : Int) := Int.natCast_ediv _ _
      rw [← this]
      unfold tT
      omega
    rw [e]
    have : (0 : Int) < R.length := by omega
    simp [ev_var, ev_int, ev_bl, ev_non, ev_str, ev_gint, ev_gstr, ev_bin, ev_neg, ev_cmp, ev_chain, ev_and, ev_or, ev_not, ev_ite, ev_tup, ev_lst, ev_ix, ev_call, ev_blt, ev_isi, ev_meth, ev_slc, evL, evI, ixO, itemsO, lisO, ixN, binO, binIO, cmpO, cmpIO, isBl, isInt, bltO, methO, eqO, isNon, isNonE, slcO, isiO, tyN, isSub, knownTy, tO, tsO, wipeP, hlog, hR1]
  show wS _ _ ⟨[some (.int w), some (tv t), some (vi H), some (vi R), some (.int ((w * R.length : Nat) : Int)), some (.int (tT w H R : Nat)), none, none, none], st⟩ _
  generalize hTe : tT w H R = T at hT1 hT2 hTR hb hN
  have eline : P (eL H R) (bT w H R + w * R.length) = H ++ (List.replicate (T + w) R).flatten := by rw [← hN, P_rep]
  have hlen : (P (eL H R) (bT w H R + w * R.length)).length ≤ 900 := by rw [P_len]; omega
  refine seqE (asg_ok (v := vi (P (eL H R) (bT w H R + w * R.length))) ?_ (by simp [ev_var, ev_int, ev_bl, ev_non, ev_str, ev_gint, ev_gstr, ev_bin, ev_neg, ev_cmp, ev_chain, ev_and, ev_or, ev_not, ev_ite, ev_tup, ev_lst, ev_ix, ev_call, ev_blt, ev_isi, ev_meth, ev_slc, evL, evI, ixO, itemsO, lisO, ixN, binO, binIO, cmpO, cmpIO, isBl, isInt, bltO, methO, eqO, isNon, isNonE, slcO, isiO, tyN, isSub, knownTy, tO, tsO, wipeP]) ?_)
  · have hne : R ≠ [] := fun z => by rw [z] at hR1; simp [ev_var, ev_int, ev_bl, ev_non, ev_str, ev_gint, ev_gstr, ev_bin, ev_neg, ev_cmp, ev_chain, ev_and, ev_or, ev_not, ev_ite, ev_tup, ev_lst, ev_ix, ev_call, ev_blt, ev_isi, ev_meth, ev_slc, evL, evI, ixO, itemsO, lisO, ixN, binO, binIO, cmpO, cmpIO, isBl, isInt, bltO, methO, eqO, isNon, isNonE, slcO, isiO, tyN, isSub, knownTy, tO, tsO, wipeP] at hR1
    have e1 : ((T : Int) + (w : Int)).toNat = T + w := by omega
    have e2 : H.length + ((T + w) * R.length) ≤ 16777216 := by rw [hN]; omega
    rw [eline]
    have c : (1 : Int) ≤ (T : Int) + w ∧ (T : Int) + w ≤ 1000 ∧ R.length ≤ 1000 := ⟨by omega, by omega, by omega⟩
    have hm : ev noG (.bin .Mult false (.var 3) (.bin .Add false (.var 5) (.var 0))) ⟨[some (.int w), some (tv t), some (vi H), some (vi R), some (.int ((w * R.length : Nat) : Int)), some (.int (T : Nat)), none, none, none], st⟩ = some (vi (List.replicate (T + w) R).flatten) := by
      have hA : ev noG (.bin .Add false (.var 5) (.var 0)) ⟨[some (.int w), some (tv t), some (vi H), some (vi R), some (.int ((w * R.length : Nat) : Int)), some (.int (T : Nat)), none, none, none], st⟩ = some (.int ((T : Int) + (w : Int))) := by simp [ev_var, ev_int, ev_bl, ev_non, ev_str, ev_gint, ev_gstr, ev_bin, ev_neg, ev_cmp, ev_chain, ev_and, ev_or, ev_not, ev_ite, ev_tup, ev_lst, ev_ix, ev_call, ev_blt, ev_isi, ev_meth, ev_slc, evL, evI, ixO, itemsO, lisO, ixN, binO, binIO, cmpO, cmpIO, isBl, isInt, bltO, methO, eqO, isNon, isNonE, slcO, isiO, tyN, isSub, knownTy, tO, tsO, wipeP]
      rw [ev_bin, hA, ev_var]
      show (if _ then _ else none) = _
      rw [if_pos ⟨rfl, by simpa [ev_var, ev_int, ev_bl, ev_non, ev_str, ev_gint, ev_gstr, ev_bin, ev_neg, ev_cmp, ev_chain, ev_and, ev_or, ev_not, ev_ite, ev_tup, ev_lst, ev_ix, ev_call, ev_blt, ev_isi, ev_meth, ev_slc, evL, evI, ixO, itemsO, lisO, ixN, binO, binIO, cmpO, cmpIO, isBl, isInt, bltO, methO, eqO, isNon, isNonE, slcO, isiO, tyN, isSub, knownTy, tO, tsO, wipeP] using hne, c.1, c.2.1, by rw [List.length_map]; exact c.2.2⟩, e1, rep_map]
    rw [ev_bin, hm]
    have e3 : (H.map PV.int).length + (((List.replicate (T + w) R).flatten).map PV.int).length ≤ 16777216 := by
      rw [List.length_map, List.length_map]
      have := congrArg List.length eline
      rw [P_len, List.length_append] at this
      omega
    rw [ev_var]
    show (if _ then _ else none) = _
    rw [if_pos ⟨rfl, e3⟩, ← List.map_append]
  generalize hln : P (eL H R) (bT w H R + w * R.length) = ln at hlen eline
  have hlnl : ln.length = bT w H R + w * R.length := by rw [← hln, P_len]
  show wS _ _ ⟨[some (.int w), some (tv t), some (vi H), some (vi R), some (.int ((w * R.length : Nat) : Int)), some (.int (T : Nat)), some (vi ln), none, none], st⟩ _
  refine seqE (asg_ok (v := .int (bT w H R : Nat)) ?_ (by simp [ev_var, ev_int, ev_bl, ev_non, ev_str, ev_gint, ev_gstr, ev_bin, ev_neg, ev_cmp, ev_chain, ev_and, ev_or, ev_not, ev_ite, ev_tup, ev_lst, ev_ix, ev_call, ev_blt, ev_isi, ev_meth, ev_slc, evL, evI, ixO, itemsO, lisO, ixN, binO, binIO, cmpO, cmpIO, isBl, isInt, bltO, methO, eqO, isNon, isNonE, slcO, isiO, tyN, isSub, knownTy, tO, tsO, wipeP]) ?_)
  · have hlog := log_small (i := (R.length : Int)) (j := (T : Int)) (by omega) (by omega) (by omega) (by omega)
    rw [Int.natAbs_natCast, Int.natAbs_natCast] at hlog
    have e : ((bT w H R : Nat) : Int) = (H.length : Int) + (R.length : Int) * (T : Int) := by rw [hb, Int.natCast_add, Int.natCast_mul, Int.mul_comm]
    rw [e]
    simp [ev_var, ev_int, ev_bl, ev_non, ev_str, ev_gint, ev_gstr, ev_bin, ev_neg, ev_cmp, ev_chain, ev_and, ev_or, ev_not, ev_ite, ev_tup, ev_lst, ev_ix, ev_call, ev_blt, ev_isi, ev_meth, ev_slc, evL, evI, ixO, itemsO, lisO, ixN, binO, binIO, cmpO, cmpIO, isBl, isInt, bltO, methO, eqO, isNon, isNonE, slcO, isiO, tyN, isSub, knownTy, tO, tsO, wipeP, hlog]
  show wS _ _ ⟨[some (.int w), some (tv t), some (vi H), some (vi R), some (.int ((w * R.length : Nat) : Int)), some (.int (T : Nat)), some (vi ln), some (.int (bT w H R : Nat)), none], st⟩ _
  have hcut : cutP (ln.map PV.int) none (some ((bT w H R : Int) + ((w * R.length : Nat) : Int))) = ln.map PV.int := by
    rw [cutP_takeV (by omega), List.take_of_length_le (by omega)]
  refine seqE ?_
  rw [wS, wE]
  refine e_pc (pc8 hw hw2 t h.rl h.l12 ln hlen d) ?_ ?_
  · rw [Int.natCast_mul] at hcut
    simp [ev_var, ev_int, ev_bl, ev_non, ev_str, ev_gint, ev_gstr, ev_bin, ev_neg, ev_cmp, ev_chain, ev_and, ev_or, ev_not, ev_ite, ev_tup, ev_lst, ev_ix, ev_call, ev_blt, ev_isi, ev_meth, ev_slc, evL, evI, ixO, itemsO, lisO, ixN, binO, binIO, cmpO, cmpIO, isBl, isInt, bltO, methO, eqO, isNon, isNonE, slcO, isiO, tyN, isSub, knownTy, tO, tsO, wipeP, hcut]
  refine e0 (v := .int (bT w H R : Nat)) (by simp [ev_var, ev_int, ev_bl, ev_non, ev_str, ev_gint, ev_gstr, ev_bin, ev_neg, ev_cmp, ev_chain, ev_and, ev_or, ev_not, ev_ite, ev_tup, ev_lst, ev_ix, ev_call, ev_blt, ev_isi, ev_meth, ev_slc, evL, evI, ixO, itemsO, lisO, ixN, binO, binIO, cmpO, cmpIO, isBl, isInt, bltO, methO, eqO, isNon, isNonE, slcO, isiO, tyN, isSub, knownTy, tO, tsO, wipeP]) ⟨_, rfl, ?_⟩
  show wT _ (.tup (cutP ((pays w t [] ln).map PV.int) (some (bT w H R : Nat)) none)) _ _
  have hp : cutP ((pays w t [] ln).map PV.int) (some (bT w H R : Nat)) none = ((List.range (w * R.length)).map fun i => dg (eL H R) w t (bT w H R + i)).map PV.int := by
    rw [cutP_drop (by omega), ← hln, pays_P, drop_vi]
    have : ((bT w H R : Nat) : Int).toNat = bT w H R := by omega
    rw [this, drop_range]
  rw [hp, wT]
  refine ⟨by simp [ev_var, ev_int, ev_bl, ev_non, ev_str, ev_gint, ev_gstr, ev_bin, ev_neg, ev_cmp, ev_chain, ev_and, ev_or, ev_not, ev_ite, ev_tup, ev_lst, ev_ix, ev_call, ev_blt, ev_isi, ev_meth, ev_slc, evL, evI, ixO, itemsO, lisO, ixN, binO, binIO, cmpO, cmpIO, isBl, isInt, bltO, methO, eqO, isNon, isNonE, slcO, isiO, tyN, isSub, knownTy, tO, tsO, wipeP], ?_⟩
  refine seqE ?_
  rw [wS]
  refine e_pc (pc32 (a := win (dg (eL H R) w t) (bT w H R) (w * R.length)) (b := ((w * R.length : Nat) : Int)) (by omega) (by omega) (d + 1)) ?_ hq
  have hs : allInt (((List.range (w * R.length)).map fun i => dg (eL H R) w t (bT w H R + i)).map PV.int) = some ((List.range (w * R.length)).map fun i => dg (eL H R) w t (bT w H R + i)) := allInt_map _
  have hs2 := win_range (dg (eL H R) w t) (bT w H R) (w * R.length)
  generalize ((List.range (w * R.length)).map fun i => dg (eL H R) w t (bT w H R + i)) = G at hs hs2
  simp [ev_var, ev_int, ev_bl, ev_non, ev_str, ev_gint, ev_gstr, ev_bin, ev_neg, ev_cmp, ev_chain, ev_and, ev_or, ev_not, ev_ite, ev_tup, ev_lst, ev_ix, ev_call, ev_blt, ev_isi, ev_meth, ev_slc, evL, evI, ixO, itemsO, lisO, ixN, binO, binIO, cmpO, cmpIO, isBl, isInt, bltO, methO, eqO, isNon, isNonE, slcO, isiO, tyN, isSub, knownTy, tO, tsO, wipeP, hs, hs2]
end
end K69

/-! K69y: the law. -/
namespace K69
open Den
/-! ### the same line told otherwise -/
theorem nx_add (L : Nat → Int) (n a : Nat) : ∀ b, nx L n (a + b) = nx L n a ++ nx L (n + a) b
  | 0 => by simp [ev_var, ev_int, ev_bl, ev_non, ev_str, ev_gint, ev_gstr, ev_bin, ev_neg, ev_cmp, ev_chain, ev_and, ev_or, ev_not, ev_ite, ev_tup, ev_lst, ev_ix, ev_call, ev_blt, ev_isi, ev_meth, ev_slc, evL, evI, ixO, itemsO, lisO, ixN, binO, binIO, cmpO, cmpIO, isBl, isInt, bltO, methO, eqO, isNon, isNonE, slcO, isiO, tyN, isSub, knownTy, tO, tsO, wipeP, nx]
  | b + 1 => by rw [← Nat.add_assoc, nx_succ, nx_add L n a b, nx_succ, List.append_assoc, Nat.add_assoc]
theorem eL_is {L : Nat → Int} {n0 ρ : Nat} (hρ : 0 < ρ) (h : ∀ n, n0 ≤ n → L (n + ρ) = L n) : eL (P L n0) (nx L n0 ρ) = L := by
  funext n
  unfold eL
  rw [P_len, nx_len]
  by_cases hn : n < n0
  · rw [if_pos hn]
    simp [ev_var, ev_int, ev_bl, ev_non, ev_str, ev_gint, ev_gstr, ev_bin, ev_neg, ev_cmp, ev_chain, ev_and, ev_or, ev_not, ev_ite, ev_tup, ev_lst, ev_ix, ev_call, ev_blt, ev_isi, ev_meth, ev_slc, evL, evI, ixO, itemsO, lisO, ixN, binO, binIO, cmpO, cmpIO, isBl, isInt, bltO, methO, eqO, isNon, isNonE, slcO, isiO, tyN, isSub, knownTy, tO, tsO, wipeP, P, hn]
  · rw [if_neg hn]
    have hm := Nat.mod_lt (n - n0) hρ
    have e : (nx L n0 ρ).getD ((n - n0) % ρ) 0 = L (n0 + (n - n0) % ρ) := by simp [ev_var, ev_int, ev_bl, ev_non, ev_str, ev_gint, ev_gstr, ev_bin, ev_neg, ev_cmp, ev_chain, ev_and, ev_or, ev_not, ev_ite, ev_tup, ev_lst, ev_ix, ev_call, ev_blt, ev_isi, ev_meth, ev_slc, evL, evI, ixO, itemsO, lisO, ixN, binO, binIO, cmpO, cmpIO, isBl, isInt, bltO, methO, eqO, isNon, isNonE, slcO, isiO, tyN, isSub, knownTy, tO, tsO, wipeP, nx, hm]
    rw [e, ← L_times h (n0 + (n - n0) % ρ) (by omega) ((n - n0) / ρ)]
    congr 1
    have := Nat.mod_add_div (n - n0) ρ
    rw [Nat.mul_comm] at this
    omega
theorem nx_rep {L : Nat → Int} {n0 ρ : Nat} (h : ∀ n, n0 ≤ n → L (n + ρ) = L n) : ∀ m, nx L n0 (m * ρ) = (List.replicate m (nx L n0 ρ)).flatten
  | 0 => by simp [ev_var, ev_int, ev_bl, ev_non, ev_str, ev_gint, ev_gstr, ev_bin, ev_neg, ev_cmp, ev_chain, ev_and, ev_or, ev_not, ev_ite, ev_tup, ev_lst, ev_ix, ev_call, ev_blt, ev_isi, ev_meth, ev_slc, evL, evI, ixO, itemsO, lisO, ixN, binO, binIO, cmpO, cmpIO, isBl, isInt, bltO, methO, eqO, isNon, isNonE, slcO, isiO, tyN, isSub, knownTy, tO, tsO, wipeP, nx]
  | m + 1 => by
    have e : nx L (n0 + m * ρ) ρ = nx L n0 ρ := nx_eq fun i => by
      have := L_times h (n0 + i) (by omega) m
      rw [← this]
      congr 1
      omega
    rw [Nat.succ_mul, nx_add, nx_rep h m, e, List.replicate_succ', List.flatten_append]
    simp [ev_var, ev_int, ev_bl, ev_non, ev_str, ev_gint, ev_gstr, ev_bin, ev_neg, ev_cmp, ev_chain, ev_and, ev_or, ev_not, ev_ite, ev_tup, ev_lst, ev_ix, ev_call, ev_blt, ev_isi, ev_meth, ev_slc, evL, evI, ixO, itemsO, lisO, ixN, binO, binIO, cmpO, cmpIO, isBl, isInt, bltO, methO, eqO, isNon, isNonE, slcO, isiO, tyN, isSub, knownTy, tO, tsO, wipeP]
theorem other_is {H R : List Int} (hR : 0 < R.length) {a m : Nat} (ha : a ≤ R.length) (hm : 0 < m) :
    eL (H ++ R.take a) ((List.replicate m (R.drop a ++ R.take a)).flatten) = eL H R := by
  have per := eL_per H R
  have hh : nx (eL H R) H.length R.length = R := by simpa [ev_var, ev_int, ev_bl, ev_non, ev_str, ev_gint, ev_gstr, ev_bin, ev_neg, ev_cmp, ev_chain, ev_and, ev_or, ev_not, ev_ite, ev_tup, ev_lst, ev_ix, ev_call, ev_blt, ev_isi, ev_meth, ev_slc, evL, evI, ixO, itemsO, lisO, ixN, binO, binIO, cmpO, cmpIO, isBl, isInt, bltO, methO, eqO, isNon, isNonE, slcO, isiO, tyN, isSub, knownTy, tO, tsO, wipeP] using nx_ring H R 0
  have hs : R.length = a + (R.length - a) := by omega
  have hsplit : nx (eL H R) H.length a ++ nx (eL H R) (H.length + a) (R.length - a) = R := by rw [← nx_add, ← hs, hh]
  have ht : nx (eL H R) H.length a = R.take a := by
    have := congrArg (List.take a) hsplit
    rw [List.take_append_of_le_length (by rw [nx_len]; exact Nat.le_refl _), List.take_of_length_le (by rw [nx_len]; exact Nat.le_refl _)] at this
    exact this
  have hd : nx (eL H R) (H.length + a) (R.length - a) = R.drop a := by
    have := congrArg (List.drop a) hsplit
    rw [List.drop_append_of_le_length (by rw [nx_len]; exact Nat.le_refl _), List.drop_of_length_le (by rw [nx_len]; exact Nat.le_refl _), List.nil_append] at this
    exact this
  have hB : nx (eL H R) (H.length + a) R.length = R.drop a ++ R.take a := by
    have e : nx (eL H R) (H.length + a + (R.length - a)) a = nx (eL H R) H.length a := nx_eq fun i => by
      have := per (H.length + i) (by omega)
      rw [← this]
      congr 1
      omega
    have : R.length = (R.length - a) + a := by omega
    rw [this, nx_add, hd, e, ht]
  have per2 : ∀ n, H.length + a ≤ n → eL H R (n + R.length) = eL H R n := fun n hn => per n (by omega)
  have e1 : H ++ R.take a = P (eL H R) (H.length + a) := by rw [P_add, P_head, ht]
  rw [e1, ← hB, ← nx_rep per2 m]
  refine eL_is (Nat.mul_pos hm hR) fun n hn => ?_
  exact L_times per2 n hn m
theorem eL_let {H R : List Int} (hR : 0 < R.length) {sh : Nat} (h1 : ∀ x ∈ H, 0 ≤ x ∧ x ≤ (sh : Int)) (h2 : ∀ x ∈ R, 0 ≤ x ∧ x ≤ (sh : Int)) (n : Nat) : 0 ≤ eL H R n ∧ eL H R n ≤ (sh : Int) := by
  unfold eL
  by_cases hn : n < H.length
  · rw [if_pos hn]
    have : H.getD n 0 = H[n] := by simp [ev_var, ev_int, ev_bl, ev_non, ev_str, ev_gint, ev_gstr, ev_bin, ev_neg, ev_cmp, ev_chain, ev_and, ev_or, ev_not, ev_ite, ev_tup, ev_lst, ev_ix, ev_call, ev_blt, ev_isi, ev_meth, ev_slc, evL, evI, ixO, itemsO, lisO, ixN, binO, binIO, cmpO, cmpIO, isBl, isInt, bltO, methO, eqO, isNon, isNonE, slcO, isiO, tyN, isSub, knownTy, tO, tsO, wipeP, List.getD_eq_getElem?_getD, hn]
    rw [this]
    exact h1 _ (List.getElem_mem hn)
  · rw [if_neg hn]
    have hm := Nat.mod_lt (n - H.length) hR
    have : R.getD ((n - H.length) % R.length) 0 = R[(n - H.length) % R.length] := by simp [ev_var, ev_int, ev_bl, ev_non, ev_str, ev_gint, ev_gstr, ev_bin, ev_neg, ev_cmp, ev_chain, ev_and, ev_or, ev_not, ev_ite, ev_tup, ev_lst, ev_ix, ev_call, ev_blt, ev_isi, ev_meth, ev_slc, evL, evI, ixO, itemsO, lisO, ixN, binO, binIO, cmpO, cmpIO, isBl, isInt, bltO, methO, eqO, isNon, isNonE, slcO, isiO, tyN, isSub, knownTy, tO, tsO, wipeP, List.getD_eq_getElem?_getD, hm]
    rw [this]
    exact h2 _ (List.getElem_mem hm)
/-! ### the plain tariff -/
def ups (sh : Nat) : List Int := (List.range sh).map fun i : Nat => 1 + (i : Int)
def pl (sh : Nat) : List PR := [.each [0] 3, .each (ups sh) (-2)]
def phi (l : Int) : Int := if l = 0 then 3 else -2
theorem mem_ups {sh : Nat} {l : Int} : l ∈ ups sh ↔ 1 ≤ l ∧ l ≤ (sh : Int) := by
  unfold ups
  rw [List.mem_map]
  constructor
  · rintro ⟨i, hi, rfl⟩
    have := List.mem_range.mp hi
    omega
  · rintro ⟨h1, h2⟩
    exact ⟨(l - 1).toNat, List.mem_range.mpr (by omega), by omega⟩
theorem pl_ok {sh : Nat} (w : Int) (hs : 0 < sh) : ∀ r ∈ pl sh, PrOk w sh r := by
  intro r hr
  simp only [pl, List.mem_cons, List.not_mem_nil, or_false] at hr
  rcases hr with rfl | rfl
  · refine ⟨⟨by simp [ev_var, ev_int, ev_bl, ev_non, ev_str, ev_gint, ev_gstr, ev_bin, ev_neg, ev_cmp, ev_chain, ev_and, ev_or, ev_not, ev_ite, ev_tup, ev_lst, ev_ix, ev_call, ev_blt, ev_isi, ev_meth, ev_slc, evL, evI, ixO, itemsO, lisO, ixN, binO, binIO, cmpO, cmpIO, isBl, isInt, bltO, methO, eqO, isNon, isNonE, slcO, isiO, tyN, isSub, knownTy, tO, tsO, wipeP], fun t ht => ?_, by simp [ev_var, ev_int, ev_bl, ev_non, ev_str, ev_gint, ev_gstr, ev_bin, ev_neg, ev_cmp, ev_chain, ev_and, ev_or, ev_not, ev_ite, ev_tup, ev_lst, ev_ix, ev_call, ev_blt, ev_isi, ev_meth, ev_slc, evL, evI, ixO, itemsO, lisO, ixN, binO, binIO, cmpO, cmpIO, isBl, isInt, bltO, methO, eqO, isNon, isNonE, slcO, isiO, tyN, isSub, knownTy, tO, tsO, wipeP]⟩, by decide, by decide⟩
    rw [List.mem_singleton.mp ht]
    omega
  · refine ⟨⟨fun z => ?_, fun t ht => ?_, ?_⟩, by decide, by decide⟩
    · have := congrArg List.length z
      simp [ev_var, ev_int, ev_bl, ev_non, ev_str, ev_gint, ev_gstr, ev_bin, ev_neg, ev_cmp, ev_chain, ev_and, ev_or, ev_not, ev_ite, ev_tup, ev_lst, ev_ix, ev_call, ev_blt, ev_isi, ev_meth, ev_slc, evL, evI, ixO, itemsO, lisO, ixN, binO, binIO, cmpO, cmpIO, isBl, isInt, bltO, methO, eqO, isNon, isNonE, slcO, isiO, tyN, isSub, knownTy, tO, tsO, wipeP, ups] at this
      omega
    · have := mem_ups.mp ht
      omega
    · unfold ups
      rw [List.pairwise_map]
      refine List.Pairwise.imp (fun {a b} h => ?_) List.pairwise_lt_range
      omega
theorem dg_pl {L : Nat → Int} {sh : Nat} (hL : ∀ n, 0 ≤ L n ∧ L n ≤ (sh : Int)) (w n : Nat) : dg L w (pl sh) n = phi (L n) := by
  have h1 := hL n
  have e : dg L w (pl sh) n = (if L n ∈ [(0 : Int)] then 3 else 0) + ((if L n ∈ ups sh then -2 else 0) + 0) := rfl
  rw [e]
  unfold phi
  by_cases h : L n = 0
  · rw [if_pos (by simp [ev_var, ev_int, ev_bl, ev_non, ev_str, ev_gint, ev_gstr, ev_bin, ev_neg, ev_cmp, ev_chain, ev_and, ev_or, ev_not, ev_ite, ev_tup, ev_lst, ev_ix, ev_call, ev_blt, ev_isi, ev_meth, ev_slc, evL, evI, ixO, itemsO, lisO, ixN, binO, binIO, cmpO, cmpIO, isBl, isInt, bltO, methO, eqO, isNon, isNonE, slcO, isiO, tyN, isSub, knownTy, tO, tsO, wipeP, h]), if_neg (fun z => by have := mem_ups.mp z; omega), if_pos h]
    rfl
  · rw [if_neg (by simp [ev_var, ev_int, ev_bl, ev_non, ev_str, ev_gint, ev_gstr, ev_bin, ev_neg, ev_cmp, ev_chain, ev_and, ev_or, ev_not, ev_ite, ev_tup, ev_lst, ev_ix, ev_call, ev_blt, ev_isi, ev_meth, ev_slc, evL, evI, ixO, itemsO, lisO, ixN, binO, binIO, cmpO, cmpIO, isBl, isInt, bltO, methO, eqO, isNon, isNonE, slcO, isiO, tyN, isSub, knownTy, tO, tsO, wipeP, h]), if_pos (mem_ups.mpr ⟨by omega, h1.2⟩), if_neg h]
    rfl
theorem win_pl {H R : List Int} {sh : Nat} (hL : ∀ n, 0 ≤ eL H R n ∧ eL H R n ≤ (sh : Int)) (w : Nat) : win (dg (eL H R) w (pl sh)) H.length R.length = (R.map phi).sum := by
  rw [← win_range]
  have e : (List.range R.length).map (fun i => dg (eL H R) w (pl sh) (H.length + i)) = R.map phi := by
    have hh : nx (eL H R) H.length R.length = R := by simpa [ev_var, ev_int, ev_bl, ev_non, ev_str, ev_gint, ev_gstr, ev_bin, ev_neg, ev_cmp, ev_chain, ev_and, ev_or, ev_not, ev_ite, ev_tup, ev_lst, ev_ix, ev_call, ev_blt, ev_isi, ev_meth, ev_slc, evL, evI, ixO, itemsO, lisO, ixN, binO, binIO, cmpO, cmpIO, isBl, isInt, bltO, methO, eqO, isNon, isNonE, slcO, isiO, tyN, isSub, knownTy, tO, tsO, wipeP] using nx_ring H R 0
    have : R.map phi = (nx (eL H R) H.length R.length).map phi := by rw [hh]
    rw [this]
    unfold nx
    rw [List.map_map]
    exact List.map_congr_left fun i _ => dg_pl hL w _
  rw [e]
theorem rng_small2 {lo hi : Int} (h0 : 0 ≤ lo) (h1 : lo ≤ 1000) (h2 : 0 ≤ hi) (h3 : hi ≤ 1000) : rngOkB lo hi = true := by
  unfold rngOkB
  refine decide_eq_true ⟨?_, ?_, ?_, ?_⟩ <;> omega
theorem rng_ups {sh : Nat} (hs : sh ≤ 6) : rngO true false 1 ((sh : Int) + 1) = some (vi (ups sh)) := by
  have e : ((sh : Int) + 1 - 1).toNat = sh := by omega
  unfold rngO
  rw [e, if_pos ⟨rng_small2 (by omega) (by omega) (by omega) (by omega), by omega⟩, if_pos rfl]
  unfold rngL ups
  rw [vi, List.map_map]
  rfl
/-! ### a turn -/
abbrev Fr (ns : List Int) (e2 e3 e4 e5 e6 e7 e8 e9 e10 e11 e12 : Option PV) : List (Option PV) := [some (.lck (ns.map .int)), some (.ref 0), e2, e3, e4, e5, e6, e7, e8, e9, e10, e11, e12, none, none]
theorem c_bool {F : FT} {c : E} {p : PSt} {D : Post} (h : ∀ R : QV, R (.bl true) p → wE F c p R D.ex) (hD : D.nx p) : wS F (.ite (.not c) (.seq (.ret (.bl false)) .nop) .nop) p D := by
  rw [wS, wE]
  refine h _ ⟨true, rfl, false, rfl, ?_⟩
  rw [if_neg Bool.false_ne_true]
  exact nopE hD
abbrev lineE (cnt : E) : E := .blt .tuple false (.cons (.lc false [("day", 13)] (.name 13) (.rng1 cnt) (.bl true) (.call 1 (.cons (.var 1) (.cons (.bin .Add false (.var 12) (.int 1)) .nil)))) .nil)
theorem c_line {ns : List Int} {e2 e3 e4 e5 e6 e7 e8 e9 e10 e11 : Option PV} {sh n lo hi : Nat} {S : Store} {cnt : E} {Q : QV} {X : QX} (hsh : sh ≤ 6) (hn1 : n < 600000) (hhi : hi ≤ 20)
    (hc : ∀ R : QV, (∀ (c : Nat) (S' : Store), lo ≤ c → c ≤ hi → HandAt S' 0 (n + 1) → R (.int (c : Nat)) ⟨Fr ns e2 e3 e4 e5 e6 e7 e8 e9 e10 e11 (some (.int sh)), S'⟩) → wE (wF tbl 20) cnt ⟨Fr ns e2 e3 e4 e5 e6 e7 e8 e9 e10 e11 (some (.int sh)), S⟩ R X)
    (hQ : ∀ (l : List Int) (S' : Store), lo ≤ l.length → l.length ≤ hi → (∀ x ∈ l, 0 ≤ x ∧ x ≤ (sh : Int)) → HandAt S' 0 (n + 30) → Q (vi l) ⟨Fr ns e2 e3 e4 e5 e6 e7 e8 e9 e10 e11 (some (.int sh)), S'⟩) :
    wE (wF tbl 20) (lineE cnt) ⟨Fr ns e2 e3 e4 e5 e6 e7 e8 e9 e10 e11 (some (.int sh)), S⟩ Q X := by
  rw [wE, wL, wE, wI]
  refine hc _ fun ln S4 hl1 hl2 h4 => ?_
  refine ⟨(ln : Int), rfl, rngOk_of (rng_small (by omega) (by omega)), ?_⟩
  refine lc_ind (fun xs acc p => ∃ (ks : List Nat) (ls : List Int) (n' : Nat) (S' : Store), xs = ks.map (fun k => PV.int (k : Nat)) ∧ acc = ls.map .int ∧ (∀ t ∈ ls, 0 ≤ t ∧ t ≤ (sh : Int)) ∧ ls.length + ks.length = ln ∧ HandAt S' 0 n' ∧ n' + ks.length ≤ n + 1 + ln ∧
    p = ⟨Fr ns e2 e3 e4 e5 e6 e7 e8 e9 e10 e11 (some (.int sh)), S'⟩) ?_ ?_ _ _ _ ?_
  rotate_left
  · rintro x xs acc p R ⟨ks, ls, n', S', e1, rfl, q1, q2, q3, q4, rfl⟩ hR1 hR2
    cases ks with
    | nil => cases e1
    | cons y ks =>
      cases e1
      simp only [List.length_cons] at q2 q4
      refine ⟨trivial, by simp [ev_var, ev_int, ev_bl, ev_non, ev_str, ev_gint, ev_gstr, ev_bin, ev_neg, ev_cmp, ev_chain, ev_and, ev_or, ev_not, ev_ite, ev_tup, ev_lst, ev_ix, ev_call, ev_blt, ev_isi, ev_meth, ev_slc, evL, evI, ixO, itemsO, lisO, ixN, binO, binIO, cmpO, cmpIO, isBl, isInt, bltO, methO, eqO, isNon, isNonE, slcO, isiO, tyN, isSub, knownTy, tO, tsO, wipeP]; omega, tO_ok _ _ _ [some (.lck (ns.map .int)), some (.ref 0), e2, e3, e4, e5, e6, e7, e8, e9, e10, e11, some (.int sh), some (.int (y : Nat)), none] _ (by simp [ev_var, ev_int, ev_bl, ev_non, ev_str, ev_gint, ev_gstr, ev_bin, ev_neg, ev_cmp, ev_chain, ev_and, ev_or, ev_not, ev_ite, ev_tup, ev_lst, ev_ix, ev_call, ev_blt, ev_isi, ev_meth, ev_slc, evL, evI, ixO, itemsO, lisO, ixN, binO, binIO, cmpO, cmpIO, isBl, isInt, bltO, methO, eqO, isNon, isNonE, slcO, isiO, tyN, isSub, knownTy, tO, tsO, wipeP]) ?_⟩
      refine e0 (v := .bl true) (by simp [ev_var, ev_int, ev_bl, ev_non, ev_str, ev_gint, ev_gstr, ev_bin, ev_neg, ev_cmp, ev_chain, ev_and, ev_or, ev_not, ev_ite, ev_tup, ev_lst, ev_ix, ev_call, ev_blt, ev_isi, ev_meth, ev_slc, evL, evI, ixO, itemsO, lisO, ixN, binO, binIO, cmpO, cmpIO, isBl, isInt, bltO, methO, eqO, isNon, isNonE, slcO, isiO, tyN, isSub, knownTy, tO, tsO, wipeP]) ⟨true, rfl, ?_⟩
      rw [if_pos rfl]
      refine c_draw (d := 19) (n := n') (many := (sh : Int) + 1) (by simp [ev_var, ev_int, ev_bl, ev_non, ev_str, ev_gint, ev_gstr, ev_bin, ev_neg, ev_cmp, ev_chain, ev_and, ev_or, ev_not, ev_ite, ev_tup, ev_lst, ev_ix, ev_call, ev_blt, ev_isi, ev_meth, ev_slc, evL, evI, ixO, itemsO, lisO, ixN, binO, binIO, cmpO, cmpIO, isBl, isInt, bltO, methO, eqO, isNon, isNonE, slcO, isiO, tyN, isSub, knownTy, tO, tsO, wipeP]) (by simp [ev_var, ev_int, ev_bl, ev_non, ev_str, ev_gint, ev_gstr, ev_bin, ev_neg, ev_cmp, ev_chain, ev_and, ev_or, ev_not, ev_ite, ev_tup, ev_lst, ev_ix, ev_call, ev_blt, ev_isi, ev_meth, ev_slc, evL, evI, ixO, itemsO, lisO, ixN, binO, binIO, cmpO, cmpIO, isBl, isInt, bltO, methO, eqO, isNon, isNonE, slcO, isiO, tyN, isSub, knownTy, tO, tsO, wipeP]) q3 (by omega) (by omega) (by omega) fun l S5 l0' l1 h5 sb5 => ?_
      refine hR2 _ _ ⟨ks, ls ++ [l], n' + 1, S5, rfl, by simp [ev_var, ev_int, ev_bl, ev_non, ev_str, ev_gint, ev_gstr, ev_bin, ev_neg, ev_cmp, ev_chain, ev_and, ev_or, ev_not, ev_ite, ev_tup, ev_lst, ev_ix, ev_call, ev_blt, ev_isi, ev_meth, ev_slc, evL, evI, ixO, itemsO, lisO, ixN, binO, binIO, cmpO, cmpIO, isBl, isInt, bltO, methO, eqO, isNon, isNonE, slcO, isiO, tyN, isSub, knownTy, tO, tsO, wipeP], fun z hz => ?_, by simp [ev_var, ev_int, ev_bl, ev_non, ev_str, ev_gint, ev_gstr, ev_bin, ev_neg, ev_cmp, ev_chain, ev_and, ev_or, ev_not, ev_ite, ev_tup, ev_lst, ev_ix, ev_call, ev_blt, ev_isi, ev_meth, ev_slc, evL, evI, ixO, itemsO, lisO, ixN, binO, binIO, cmpO, cmpIO, isBl, isInt, bltO, methO, eqO, isNon, isNonE, slcO, isiO, tyN, isSub, knownTy, tO, tsO, wipeP]; omega, h5, by omega, rfl⟩
      rcases List.mem_append.mp hz with q | q
      · exact q1 z q
      · rw [List.mem_singleton.mp q]; omega
  · exact ⟨List.range ln, [], n + 1, S4, by unfold rngL; simp [ev_var, ev_int, ev_bl, ev_non, ev_str, ev_gint, ev_gstr, ev_bin, ev_neg, ev_cmp, ev_chain, ev_and, ev_or, ev_not, ev_ite, ev_tup, ev_lst, ev_ix, ev_call, ev_blt, ev_isi, ev_meth, ev_slc, evL, evI, ixO, itemsO, lisO, ixN, binO, binIO, cmpO, cmpIO, isBl, isInt, bltO, methO, eqO, isNon, isNonE, slcO, isiO, tyN, isSub, knownTy, tO, tsO, wipeP], rfl, fun t ht => (by cases ht), by simp [ev_var, ev_int, ev_bl, ev_non, ev_str, ev_gint, ev_gstr, ev_bin, ev_neg, ev_cmp, ev_chain, ev_and, ev_or, ev_not, ev_ite, ev_tup, ev_lst, ev_ix, ev_call, ev_blt, ev_isi, ev_meth, ev_slc, evL, evI, ixO, itemsO, lisO, ixN, binO, binIO, cmpO, cmpIO, isBl, isInt, bltO, methO, eqO, isNon, isNonE, slcO, isiO, tyN, isSub, knownTy, tO, tsO, wipeP], h4, by simp [ev_var, ev_int, ev_bl, ev_non, ev_str, ev_gint, ev_gstr, ev_bin, ev_neg, ev_cmp, ev_chain, ev_and, ev_or, ev_not, ev_ite, ev_tup, ev_lst, ev_ix, ev_call, ev_blt, ev_isi, ev_meth, ev_slc, evL, evI, ixO, itemsO, lisO, ixN, binO, binIO, cmpO, cmpIO, isBl, isInt, bltO, methO, eqO, isNon, isNonE, slcO, isiO, tyN, isSub, knownTy, tO, tsO, wipeP], rfl⟩
  rintro acc p ⟨ks, line, n', S', e1, rfl, q1, q2, q3, q4, rfl⟩
  obtain rfl : ks = [] := by cases ks with | nil => rfl | cons _ _ => cases e1
  simp only [List.length_nil, Nat.add_zero] at q2 q4
  refine ⟨trivial, by simp [ev_var, ev_int, ev_bl, ev_non, ev_str, ev_gint, ev_gstr, ev_bin, ev_neg, ev_cmp, ev_chain, ev_and, ev_or, ev_not, ev_ite, ev_tup, ev_lst, ev_ix, ev_call, ev_blt, ev_isi, ev_meth, ev_slc, evL, evI, ixO, itemsO, lisO, ixN, binO, binIO, cmpO, cmpIO, isBl, isInt, bltO, methO, eqO, isNon, isNonE, slcO, isiO, tyN, isSub, knownTy, tO, tsO, wipeP, szOk]; omega, ?_⟩
  rw [if_neg Bool.false_ne_true]
  dsimp only
  rw [wL]
  exact hQ line S' (by omega) (by omega) q1 (hand_le q3 (by omega))
theorem fn {P : PV → Prop} : ∀ x ∈ ([] : List PV), P x := fun _ h => by cases h
theorem fc {P : PV → Prop} {x : PV} {l : List PV} (h : P x) (h' : ∀ y ∈ l, P y) : ∀ y ∈ x :: l, P y := fun y hy => by
  rcases List.mem_cons.mp hy with rfl | hy
  · exact h
  · exact h' y hy
theorem dat_low (a b : Int) : Dat 3 (low a b) := .tup (by simp [ev_var, ev_int, ev_bl, ev_non, ev_str, ev_gint, ev_gstr, ev_bin, ev_neg, ev_cmp, ev_chain, ev_and, ev_or, ev_not, ev_ite, ev_tup, ev_lst, ev_ix, ev_call, ev_blt, ev_isi, ev_meth, ev_slc, evL, evI, ixO, itemsO, lisO, ixN, binO, binIO, cmpO, cmpIO, isBl, isInt, bltO, methO, eqO, isNon, isNonE, slcO, isiO, tyN, isSub, knownTy, tO, tsO, wipeP]) (fc .int (fc .int fn))
abbrev plainE : E := .tup (.cons (.tup (.cons (.str "each") (.cons (.tup (.cons (.int 0) .nil)) (.cons (.int 3) .nil)))) (.cons (.tup (.cons (.str "each") (.cons (.trg2 true false (.int 1) (.bin .Add false (.var 12) (.int 1))) (.cons (.neg (.int 2)) .nil)))) .nil))
theorem trg2_ev {p : PSt} {t m : Bool} {a b : E} {lo hi : Int} {v : Option PV} (h1 : ev noG a p = some (.int lo)) (h2 : ev noG b p = some (.int hi)) (h3 : rngO t m lo hi = v) : ev noG (.trg2 t m a b) p = v := by
  rw [ev_trg2, h1, h2]
  exact h3
theorem trg_e {p : PSt} {sh : Nat} (hs : sh ≤ 6) (h12 : p.env[12]? = some (some (.int sh))) : ev noG (.trg2 true false (.int 1) (.bin .Add false (.var 12) (.int 1))) p = some (vi (ups sh)) := by
  have hr := rng_ups hs
  generalize vi (ups sh) = u at hr
  have h1 : ev noG (.bin .Add false (.var 12) (.int 1)) p = some (.int ((sh : Int) + 1)) := by simp [ev_var, ev_int, ev_bl, ev_non, ev_str, ev_gint, ev_gstr, ev_bin, ev_neg, ev_cmp, ev_chain, ev_and, ev_or, ev_not, ev_ite, ev_tup, ev_lst, ev_ix, ev_call, ev_blt, ev_isi, ev_meth, ev_slc, evL, evI, ixO, itemsO, lisO, ixN, binO, binIO, cmpO, cmpIO, isBl, isInt, bltO, methO, eqO, isNon, isNonE, slcO, isiO, tyN, isSub, knownTy, tO, tsO, wipeP, h12]
  exact trg2_ev (ev_int 1) h1 hr
theorem plain_e {p : PSt} {sh : Nat} (hs : sh ≤ 6) (h12 : p.env[12]? = some (some (.int sh))) : ev noG plainE p = some (tv (pl sh)) := by
  have h1 := trg_e hs h12
  unfold tv pl
  rw [List.map_cons, List.map_cons, List.map_nil]
  unfold PR.v
  dsimp only
  generalize vi (ups sh) = u at h1
  generalize hE : E.trg2 true false (.int 1) (.bin .Add false (.var 12) (.int 1)) = e at h1
  simp [ev_var, ev_int, ev_bl, ev_non, ev_str, ev_gint, ev_gstr, ev_bin, ev_neg, ev_cmp, ev_chain, ev_and, ev_or, ev_not, ev_ite, ev_tup, ev_lst, ev_ix, ev_call, ev_blt, ev_isi, ev_meth, ev_slc, evL, evI, ixO, itemsO, lisO, ixN, binO, binIO, cmpO, cmpIO, isBl, isInt, bltO, methO, eqO, isNon, isNonE, slcO, isiO, tyN, isSub, knownTy, tO, tsO, wipeP, hE, h1]
theorem turn_c {ns : List Int} {n : Nat} {S7 : Store} {e2 e3 e6 e7 e8 e9 e10 : Option PV} {w sh : Nat} {H R : List Int} {D : Post} (h7 : HandAt S7 0 n) (hw : 0 < w) (hw2 : w ≤ 28) (hs1 : 0 < sh) (hs2 : sh ≤ 3) (hH2 : H.length ≤ 9) (hR1 : 1 ≤ R.length) (hR2 : R.length ≤ 6)
    (hHl : ∀ x ∈ H, 0 ≤ x ∧ x ≤ (sh : Int)) (hRl : ∀ x ∈ R, 0 ≤ x ∧ x ≤ (sh : Int))
    (hD : ∀ (e9 e10 : Option PV), D.nx ⟨Fr ns e2 e3 (some (vi H)) (some (vi R)) e6 e7 e8 e9 e10 (some (.int w)) (some (.int sh)), S7⟩)
    {b : Den.S} (hb : ∃ r s1 s2 s3 s4 s5 s6 s7 s8 s9 f, b4 = .seq r (.seq (.for (.name 2) (.rng1 (.int 3)) (.seq s1 (.seq s2 (.seq s3 (.seq s4 (.seq s5 (.seq s6 (.seq s7 (.seq s8 (.seq s9 b)))))))))) f)) :
    wS (wF tbl 20) b ⟨Fr ns e2 e3 (some (vi H)) (some (vi R)) e6 e7 e8 e9 e10 (some (.int w)) (some (.int sh)), S7⟩ D := by
  obtain ⟨r, s1, s2, s3, s4, s5, s6, s7, s8, s9, f, hb⟩ := hb
  injection hb with _ hb
  injection hb with hb _
  injection hb with _ _ hb
  injection hb with _ hb
  injection hb with _ hb
  injection hb with _ hb
  injection hb with _ hb
  injection hb with _ hb
  injection hb with _ hb
  injection hb with _ hb
  injection hb with _ hb
  injection hb with _ hb
  subst hb
  -- the plain tariff
  refine seqE (asg_ok (v := tv (pl sh)) ?_ (by simp [ev_var, ev_int, ev_bl, ev_non, ev_str, ev_gint, ev_gstr, ev_bin, ev_neg, ev_cmp, ev_chain, ev_and, ev_or, ev_not, ev_ite, ev_tup, ev_lst, ev_ix, ev_call, ev_blt, ev_isi, ev_meth, ev_slc, evL, evI, ixO, itemsO, lisO, ixN, binO, binIO, cmpO, cmpIO, isBl, isInt, bltO, methO, eqO, isNon, isNonE, slcO, isiO, tyN, isSub, knownTy, tO, tsO, wipeP]) ?_)
  · exact plain_e (by omega) rfl
  show wS _ _ ⟨Fr ns e2 e3 (some (vi H)) (some (vi R)) e6 e7 e8 (some (tv (pl sh))) e10 (some (.int w)) (some (.int sh)), S7⟩ _
  refine seqE (asg_ok (v := .int (R.map phi).sum) ?_ (by simp [ev_var, ev_int, ev_bl, ev_non, ev_str, ev_gint, ev_gstr, ev_bin, ev_neg, ev_cmp, ev_chain, ev_and, ev_or, ev_not, ev_ite, ev_tup, ev_lst, ev_ix, ev_call, ev_blt, ev_isi, ev_meth, ev_slc, evL, evI, ixO, itemsO, lisO, ixN, binO, binIO, cmpO, cmpIO, isBl, isInt, bltO, methO, eqO, isNon, isNonE, slcO, isiO, tyN, isSub, knownTy, tO, tsO, wipeP]) ?_)
  · have h1 := ev_lcA (G := noG) (p := ⟨Fr ns e2 e3 (some (vi H)) (some (vi R)) e6 e7 e8 (some (tv (pl sh))) e10 (some (.int w)) (some (.int sh)), S7⟩) (own := [("letter", 14)]) (tg := .name 14) (it := .seq (.var 5)) (e := .ite (.cmp .Eq (.var 14) (.int 0)) (.int 3) (.neg (.int 2))) PV.int (fun l => .int (phi l)) R (by simp [ev_var, ev_int, ev_bl, ev_non, ev_str, ev_gint, ev_gstr, ev_bin, ev_neg, ev_cmp, ev_chain, ev_and, ev_or, ev_not, ev_ite, ev_tup, ev_lst, ev_ix, ev_call, ev_blt, ev_isi, ev_meth, ev_slc, evL, evI, ixO, itemsO, lisO, ixN, binO, binIO, cmpO, cmpIO, isBl, isInt, bltO, methO, eqO, isNon, isNonE, slcO, isiO, tyN, isSub, knownTy, tO, tsO, wipeP]) (by omega) fun l hl => ⟨_, by simp [ev_var, ev_int, ev_bl, ev_non, ev_str, ev_gint, ev_gstr, ev_bin, ev_neg, ev_cmp, ev_chain, ev_and, ev_or, ev_not, ev_ite, ev_tup, ev_lst, ev_ix, ev_call, ev_blt, ev_isi, ev_meth, ev_slc, evL, evI, ixO, itemsO, lisO, ixN, binO, binIO, cmpO, cmpIO, isBl, isInt, bltO, methO, eqO, isNon, isNonE, slcO, isiO, tyN, isSub, knownTy, tO, tsO, wipeP]; rfl, by
      unfold phi
      by_cases hz : l = 0
      · simp [ev_var, ev_int, ev_bl, ev_non, ev_str, ev_gint, ev_gstr, ev_bin, ev_neg, ev_cmp, ev_chain, ev_and, ev_or, ev_not, ev_ite, ev_tup, ev_lst, ev_ix, ev_call, ev_blt, ev_isi, ev_meth, ev_slc, evL, evI, ixO, itemsO, lisO, ixN, binO, binIO, cmpO, cmpIO, isBl, isInt, bltO, methO, eqO, isNon, isNonE, slcO, isiO, tyN, isSub, knownTy, tO, tsO, wipeP, hz]
      · simp [ev_var, ev_int, ev_bl, ev_non, ev_str, ev_gint, ev_gstr, ev_bin, ev_neg, ev_cmp, ev_chain, ev_and, ev_or, ev_not, ev_ite, ev_tup, ev_lst, ev_ix, ev_call, ev_blt, ev_isi, ev_meth, ev_slc, evL, evI, ixO, itemsO, lisO, ixN, binO, binIO, cmpO, cmpIO, isBl, isInt, bltO, methO, eqO, isNon, isNonE, slcO, isiO, tyN, isSub, knownTy, tO, tsO, wipeP, hz]⟩
    refine ev_sum (xs := R.map phi) ?_
    rw [h1, List.map_map]
    rfl
  show wS _ _ ⟨Fr ns e2 e3 (some (vi H)) (some (vi R)) e6 e7 e8 (some (tv (pl sh))) (some (.int (R.map phi).sum)) (some (.int w)) (some (.int sh)), S7⟩ _
  have okp : MOk w sh (pl sh) H R := ⟨hw, hw2, hs1, by omega, by simp [ev_var, ev_int, ev_bl, ev_non, ev_str, ev_gint, ev_gstr, ev_bin, ev_neg, ev_cmp, ev_chain, ev_and, ev_or, ev_not, ev_ite, ev_tup, ev_lst, ev_ix, ev_call, ev_blt, ev_isi, ev_meth, ev_slc, evL, evI, ixO, itemsO, lisO, ixN, binO, binIO, cmpO, cmpIO, isBl, isInt, bltO, methO, eqO, isNon, isNonE, slcO, isiO, tyN, isSub, knownTy, tO, tsO, wipeP, pl], by simp [ev_var, ev_int, ev_bl, ev_non, ev_str, ev_gint, ev_gstr, ev_bin, ev_neg, ev_cmp, ev_chain, ev_and, ev_or, ev_not, ev_ite, ev_tup, ev_lst, ev_ix, ev_call, ev_blt, ev_isi, ev_meth, ev_slc, evL, evI, ixO, itemsO, lisO, ixN, binO, binIO, cmpO, cmpIO, isBl, isInt, bltO, methO, eqO, isNon, isNonE, slcO, isiO, tyN, isSub, knownTy, tO, tsO, wipeP, pl], pl_ok _ hs1, by omega, by omega, by omega, hHl, hRl⟩
  have hlet := fun n => eL_let (H := H) (R := R) (by omega) hHl hRl n
  have hpp : ∀ n, H.length ≤ n → dg (eL H R) w (pl sh) (n + R.length) = dg (eL H R) w (pl sh) n := fun n hn' => by rw [dg_pl hlet, dg_pl hlet, eL_per H R n hn']
  have hwin := win_pl hlet w
  refine seqE (c_bool (fun Z hZ => ?_) ?_)
  · rw [wE, wL]
    refine e_pc (pc22 okp (b := H.length) (q := R.length) (by omega) (by omega) hpp 11) (by simp [ev_var, ev_int, ev_bl, ev_non, ev_str, ev_gint, ev_gstr, ev_bin, ev_neg, ev_cmp, ev_chain, ev_and, ev_or, ev_not, ev_ite, ev_tup, ev_lst, ev_ix, ev_call, ev_blt, ev_isi, ev_meth, ev_slc, evL, evI, ixO, itemsO, lisO, ixN, binO, binIO, cmpO, cmpIO, isBl, isInt, bltO, methO, eqO, isNon, isNonE, slcO, isiO, tyN, isSub, knownTy, tO, tsO, wipeP]) ?_
    rw [hwin, wL]
    refine e_pc (pc32 (a := (R.map phi).sum) (b := (R.length : Int)) (by omega) (by omega) 19) (by simp [ev_var, ev_int, ev_bl, ev_non, ev_str, ev_gint, ev_gstr, ev_bin, ev_neg, ev_cmp, ev_chain, ev_and, ev_or, ev_not, ev_ite, ev_tup, ev_lst, ev_ix, ev_call, ev_blt, ev_isi, ev_meth, ev_slc, evL, evI, ixO, itemsO, lisO, ixN, binO, binIO, cmpO, cmpIO, isBl, isInt, bltO, methO, eqO, isNon, isNonE, slcO, isiO, tyN, isSub, knownTy, tO, tsO, wipeP]) ?_
    rw [wL]
    exact pc3 hn 3 16 _ (dat_low _ _) S7 _ _ hZ
  exact nopE (F := wF tbl 20) (hD _ _)
theorem turn_b {ns : List Int} {n : Nat} {S5 : Store} {e2 e6 e7 e8 e9 e10 : Option PV} {w sh : Nat} {t : List PR} {H R : List Int} {D : Post} (h5 : HandAt S5 0 n) (hn1 : n < 600000) (hw : 0 < w) (hw2 : w ≤ 28) (hs1 : 0 < sh) (hs2 : sh ≤ 3) (tne : t ≠ []) (t12 : t.length ≤ 12) (tok : ∀ r ∈ t, PrOk w sh r) (hH2 : H.length ≤ 9) (hR1 : 1 ≤ R.length) (hR2 : R.length ≤ 6)
    (hHl : ∀ x ∈ H, 0 ≤ x ∧ x ≤ (sh : Int)) (hRl : ∀ x ∈ R, 0 ≤ x ∧ x ≤ (sh : Int))
    (hD : ∀ (e3 e4 e5 e6 e7 e8 e9 e10 e11 e12 : Option PV) (S' : Store), HandAt S' 0 (n + 2) → D.nx ⟨Fr ns e2 e3 e4 e5 e6 e7 e8 e9 e10 e11 e12, S'⟩)
    {b : Den.S} (hb : ∃ r s1 s2 s3 s4 f, b4 = .seq r (.seq (.for (.name 2) (.rng1 (.int 3)) (.seq s1 (.seq s2 (.seq s3 (.seq s4 b))))) f)) :
    wS (wF tbl 20) b ⟨Fr ns e2 (some (tv t)) (some (vi H)) (some (vi R)) e6 e7 e8 e9 e10 (some (.int w)) (some (.int sh)), S5⟩ D := by
  have ok : MOk w sh t H R := ⟨hw, hw2, hs1, by omega, tne, t12, tok, by omega, by omega, by omega, hHl, hRl⟩
  obtain ⟨r, s1, s2, s3, s4, f, hb⟩ := hb
  injection hb with _ hb
  injection hb with hb _
  injection hb with _ _ hb
  injection hb with _ hb
  injection hb with _ hb
  injection hb with _ hb
  injection hb with _ hb
  subst hb
  have hq0 : 0 < w * R.length := Nat.mul_pos hw (by omega)
  have hqb : w * R.length < 1000 := by
    have : w * R.length ≤ 28 * 6 := Nat.mul_le_mul hw2 hR2
    omega
  have hper := per_law ok
  -- what is due
  refine seqE ?_
  rw [wS]
  refine e_pc (pc10 ok hH2 hR2 17) (by simp [ev_var, ev_int, ev_bl, ev_non, ev_str, ev_gint, ev_gstr, ev_bin, ev_neg, ev_cmp, ev_chain, ev_and, ev_or, ev_not, ev_ite, ev_tup, ev_lst, ev_ix, ev_call, ev_blt, ev_isi, ev_meth, ev_slc, evL, evI, ixO, itemsO, lisO, ixN, binO, binIO, cmpO, cmpIO, isBl, isInt, bltO, methO, eqO, isNon, isNonE, slcO, isiO, tyN, isSub, knownTy, tO, tsO, wipeP]) ?_
  generalize hdue : low (win (dg (eL H R) w t) (bT w H R) (w * R.length)) ((w * R.length : Nat) : Int) = due
  have hdat : Dat 3 due := by rw [← hdue]; exact dat_low _ _
  rw [wT]
  refine ⟨by simp [ev_var, ev_int, ev_bl, ev_non, ev_str, ev_gint, ev_gstr, ev_bin, ev_neg, ev_cmp, ev_chain, ev_and, ev_or, ev_not, ev_ite, ev_tup, ev_lst, ev_ix, ev_call, ev_blt, ev_isi, ev_meth, ev_slc, evL, evI, ixO, itemsO, lisO, ixN, binO, binIO, cmpO, cmpIO, isBl, isInt, bltO, methO, eqO, isNon, isNonE, slcO, isiO, tyN, isSub, knownTy, tO, tsO, wipeP], ?_⟩
  show wS _ _ ⟨Fr ns e2 (some (tv t)) (some (vi H)) (some (vi R)) (some due) e7 e8 e9 e10 (some (.int w)) (some (.int sh)), S5⟩ _
  refine seqE (c_bool (fun Z hZ => ?_) ?_)
  · rw [wE, wL]
    refine e_pc (pc22 ok hq0 hqb hper 11) (by simp [ev_var, ev_int, ev_bl, ev_non, ev_str, ev_gint, ev_gstr, ev_bin, ev_neg, ev_cmp, ev_chain, ev_and, ev_or, ev_not, ev_ite, ev_tup, ev_lst, ev_ix, ev_call, ev_blt, ev_isi, ev_meth, ev_slc, evL, evI, ixO, itemsO, lisO, ixN, binO, binIO, cmpO, cmpIO, isBl, isInt, bltO, methO, eqO, isNon, isNonE, slcO, isiO, tyN, isSub, knownTy, tO, tsO, wipeP]) ?_
    rw [hdue, wL]
    refine e0 (v := due) (by simp [ev_var, ev_int, ev_bl, ev_non, ev_str, ev_gint, ev_gstr, ev_bin, ev_neg, ev_cmp, ev_chain, ev_and, ev_or, ev_not, ev_ite, ev_tup, ev_lst, ev_ix, ev_call, ev_blt, ev_isi, ev_meth, ev_slc, evL, evI, ixO, itemsO, lisO, ixN, binO, binIO, cmpO, cmpIO, isBl, isInt, bltO, methO, eqO, isNon, isNonE, slcO, isiO, tyN, isSub, knownTy, tO, tsO, wipeP]) ?_
    rw [wL]
    exact pc3 hn 3 16 due hdat S5 _ _ hZ
  -- the same line told otherwise
  refine seqE ?_
  rw [wS]
  refine c_draw (d := 19) (n := n) (many := (R.length : Int)) (by simp [ev_var, ev_int, ev_bl, ev_non, ev_str, ev_gint, ev_gstr, ev_bin, ev_neg, ev_cmp, ev_chain, ev_and, ev_or, ev_not, ev_ite, ev_tup, ev_lst, ev_ix, ev_call, ev_blt, ev_isi, ev_meth, ev_slc, evL, evI, ixO, itemsO, lisO, ixN, binO, binIO, cmpO, cmpIO, isBl, isInt, bltO, methO, eqO, isNon, isNonE, slcO, isiO, tyN, isSub, knownTy, tO, tsO, wipeP]) (by simp [ev_var, ev_int, ev_bl, ev_non, ev_str, ev_gint, ev_gstr, ev_bin, ev_neg, ev_cmp, ev_chain, ev_and, ev_or, ev_not, ev_ite, ev_tup, ev_lst, ev_ix, ev_call, ev_blt, ev_isi, ev_meth, ev_slc, evL, evI, ixO, itemsO, lisO, ixN, binO, binIO, cmpO, cmpIO, isBl, isInt, bltO, methO, eqO, isNon, isNonE, slcO, isiO, tyN, isSub, knownTy, tO, tsO, wipeP]) h5 (by omega) (by omega) (by omega) fun a S6 a0 a1 h6 sb6 => ?_
  obtain ⟨a, rfl⟩ : ∃ k : Nat, a = (k : Int) := ⟨a.toNat, by omega⟩
  rw [wT]
  refine ⟨by simp [ev_var, ev_int, ev_bl, ev_non, ev_str, ev_gint, ev_gstr, ev_bin, ev_neg, ev_cmp, ev_chain, ev_and, ev_or, ev_not, ev_ite, ev_tup, ev_lst, ev_ix, ev_call, ev_blt, ev_isi, ev_meth, ev_slc, evL, evI, ixO, itemsO, lisO, ixN, binO, binIO, cmpO, cmpIO, isBl, isInt, bltO, methO, eqO, isNon, isNonE, slcO, isiO, tyN, isSub, knownTy, tO, tsO, wipeP], ?_⟩
  show wS _ _ ⟨Fr ns e2 (some (tv t)) (some (vi H)) (some (vi R)) (some due) (some (.int (a : Nat))) e8 e9 e10 (some (.int w)) (some (.int sh)), S6⟩ _
  have hcut : cutP (R.map PV.int) none (some (a : Int)) = (R.take a).map PV.int := by
    rw [cutP_takeV (by omega)]
    congr 2
  have hcut2 : cutP (R.map PV.int) (some (a : Int)) none = (R.drop a).map PV.int := by
    rw [cutP_drop (by omega), drop_vi]
    congr 2
  refine seqE ?_
  rw [wS, wE, wL]
  refine e0 (v := vi (H ++ R.take a)) ?_ ?_
  · have : H.length + min a R.length ≤ 16777216 := by omega
    simp [ev_var, ev_int, ev_bl, ev_non, ev_str, ev_gint, ev_gstr, ev_bin, ev_neg, ev_cmp, ev_chain, ev_and, ev_or, ev_not, ev_ite, ev_tup, ev_lst, ev_ix, ev_call, ev_blt, ev_isi, ev_meth, ev_slc, evL, evI, ixO, itemsO, lisO, ixN, binO, binIO, cmpO, cmpIO, isBl, isInt, bltO, methO, eqO, isNon, isNonE, slcO, isiO, tyN, isSub, knownTy, tO, tsO, wipeP, hcut, this]
  rw [wL, wE]
  refine e0 (v := vi (R.drop a ++ R.take a)) ?_ ?_
  · have : (R.length - a) + min a R.length ≤ 16777216 := by omega
    simp [ev_var, ev_int, ev_bl, ev_non, ev_str, ev_gint, ev_gstr, ev_bin, ev_neg, ev_cmp, ev_chain, ev_and, ev_or, ev_not, ev_ite, ev_tup, ev_lst, ev_ix, ev_call, ev_blt, ev_isi, ev_meth, ev_slc, evL, evI, ixO, itemsO, lisO, ixN, binO, binIO, cmpO, cmpIO, isBl, isInt, bltO, methO, eqO, isNon, isNonE, slcO, isiO, tyN, isSub, knownTy, tO, tsO, wipeP, hcut, hcut2, this]
  rw [wE, wE]
  refine c_draw (d := 19) (n := n + 1) (many := 2) (by simp [ev_var, ev_int, ev_bl, ev_non, ev_str, ev_gint, ev_gstr, ev_bin, ev_neg, ev_cmp, ev_chain, ev_and, ev_or, ev_not, ev_ite, ev_tup, ev_lst, ev_ix, ev_call, ev_blt, ev_isi, ev_meth, ev_slc, evL, evI, ixO, itemsO, lisO, ixN, binO, binIO, cmpO, cmpIO, isBl, isInt, bltO, methO, eqO, isNon, isNonE, slcO, isiO, tyN, isSub, knownTy, tO, tsO, wipeP]) (by simp [ev_var, ev_int, ev_bl, ev_non, ev_str, ev_gint, ev_gstr, ev_bin, ev_neg, ev_cmp, ev_chain, ev_and, ev_or, ev_not, ev_ite, ev_tup, ev_lst, ev_ix, ev_call, ev_blt, ev_isi, ev_meth, ev_slc, evL, evI, ixO, itemsO, lisO, ixN, binO, binIO, cmpO, cmpIO, isBl, isInt, bltO, methO, eqO, isNon, isNonE, slcO, isiO, tyN, isSub, knownTy, tO, tsO, wipeP]) h6 (by omega) (by decide) (by decide) fun m S7 m0 m1 h7 sb7 => ?_
  obtain ⟨m, rfl⟩ : ∃ k : Nat, m = (k : Int) := ⟨m.toNat, by omega⟩
  refine bin_add ?_
  refine ⟨⟨rfl, fun z => ?_, by omega, by omega, by simp [ev_var, ev_int, ev_bl, ev_non, ev_str, ev_gint, ev_gstr, ev_bin, ev_neg, ev_cmp, ev_chain, ev_and, ev_or, ev_not, ev_ite, ev_tup, ev_lst, ev_ix, ev_call, ev_blt, ev_isi, ev_meth, ev_slc, evL, evI, ixO, itemsO, lisO, ixN, binO, binIO, cmpO, cmpIO, isBl, isInt, bltO, methO, eqO, isNon, isNonE, slcO, isiO, tyN, isSub, knownTy, tO, tsO, wipeP]; omega⟩, ?_⟩
  · have := congrArg List.length z
    simp [ev_var, ev_int, ev_bl, ev_non, ev_str, ev_gint, ev_gstr, ev_bin, ev_neg, ev_cmp, ev_chain, ev_and, ev_or, ev_not, ev_ite, ev_tup, ev_lst, ev_ix, ev_call, ev_blt, ev_isi, ev_meth, ev_slc, evL, evI, ixO, itemsO, lisO, ixN, binO, binIO, cmpO, cmpIO, isBl, isInt, bltO, methO, eqO, isNon, isNonE, slcO, isiO, tyN, isSub, knownTy, tO, tsO, wipeP] at this
    omega
  have em : ((1 : Int) + (m : Int)).toNat = 1 + m := by omega
  rw [em, rep_map]
  dsimp only
  rw [wL]
  refine ⟨by simp [ev_var, ev_int, ev_bl, ev_non, ev_str, ev_gint, ev_gstr, ev_bin, ev_neg, ev_cmp, ev_chain, ev_and, ev_or, ev_not, ev_ite, ev_tup, ev_lst, ev_ix, ev_call, ev_blt, ev_isi, ev_meth, ev_slc, evL, evI, ixO, itemsO, lisO, ixN, binO, binIO, cmpO, cmpIO, isBl, isInt, bltO, methO, eqO, isNon, isNonE, slcO, isiO, tyN, isSub, knownTy, tO, tsO, wipeP, szOk], ?_⟩
  generalize hH' : H ++ R.take a = H'
  generalize hR' : (List.replicate (1 + m) (R.drop a ++ R.take a)).flatten = R'
  have hoth : eL H' R' = eL H R := by rw [← hH', ← hR']; exact other_is (by omega) (by omega) (by omega)
  have hHl' : H'.length ≤ 20 := by rw [← hH', List.length_append, List.length_take]; omega
  have hRlen : R'.length = (1 + m) * R.length := by
    rw [← hR', List.length_flatten]
    simp [ev_var, ev_int, ev_bl, ev_non, ev_str, ev_gint, ev_gstr, ev_bin, ev_neg, ev_cmp, ev_chain, ev_and, ev_or, ev_not, ev_ite, ev_tup, ev_lst, ev_ix, ev_call, ev_blt, ev_isi, ev_meth, ev_slc, evL, evI, ixO, itemsO, lisO, ixN, binO, binIO, cmpO, cmpIO, isBl, isInt, bltO, methO, eqO, isNon, isNonE, slcO, isiO, tyN, isSub, knownTy, tO, tsO, wipeP]
    have : R.length - a + min a R.length = R.length := by omega
    rw [this]
  have hR1' : 0 < R'.length := by rw [hRlen]; exact Nat.mul_pos (by omega) (by omega)
  have hR2' : R'.length ≤ 12 := by
    rw [hRlen]
    have : (1 + m) * R.length ≤ 2 * 6 := Nat.mul_le_mul (by omega) hR2
    omega
  have ok' : MOk w sh t H' R' := ⟨hw, hw2, hs1, by omega, tne, t12, tok, hHl', hR1', hR2', fun x hx => by
    rw [← hH'] at hx
    rcases List.mem_append.mp hx with z | z
    · exact hHl x z
    · exact hRl x (List.mem_of_mem_take z), fun x hx => by
    rw [← hR'] at hx
    obtain ⟨l, hl, hx⟩ := List.mem_flatten.mp hx
    rw [List.eq_of_mem_replicate hl] at hx
    rcases List.mem_append.mp hx with z | z
    · exact hRl x (List.mem_of_mem_drop z)
    · exact hRl x (List.mem_of_mem_take z)⟩
  rw [wT]
  refine ⟨by simp [ev_var, ev_int, ev_bl, ev_non, ev_str, ev_gint, ev_gstr, ev_bin, ev_neg, ev_cmp, ev_chain, ev_and, ev_or, ev_not, ev_ite, ev_tup, ev_lst, ev_ix, ev_call, ev_blt, ev_isi, ev_meth, ev_slc, evL, evI, ixO, itemsO, lisO, ixN, binO, binIO, cmpO, cmpIO, isBl, isInt, bltO, methO, eqO, isNon, isNonE, slcO, isiO, tyN, isSub, knownTy, tO, tsO, wipeP], ?_⟩
  show wS _ _ ⟨Fr ns e2 (some (tv t)) (some (vi H)) (some (vi R)) (some due) (some (.int (a : Nat))) (some (.tup [vi H', vi R'])) e9 e10 (some (.int w)) (some (.int sh)), S7⟩ _
  refine seqE (c_bool (fun Z hZ => ?_) ?_)
  · rw [wE, wL]
    refine e_pc (pc22 ok' (b := bT w H R) hq0 hqb (by rw [hoth]; exact hper) 11) (by simp [ev_var, ev_int, ev_bl, ev_non, ev_str, ev_gint, ev_gstr, ev_bin, ev_neg, ev_cmp, ev_chain, ev_and, ev_or, ev_not, ev_ite, ev_tup, ev_lst, ev_ix, ev_call, ev_blt, ev_isi, ev_meth, ev_slc, evL, evI, ixO, itemsO, lisO, ixN, binO, binIO, cmpO, cmpIO, isBl, isInt, bltO, methO, eqO, isNon, isNonE, slcO, isiO, tyN, isSub, knownTy, tO, tsO, wipeP]) ?_
    rw [hoth, hdue, wL]
    refine e0 (v := due) (by simp [ev_var, ev_int, ev_bl, ev_non, ev_str, ev_gint, ev_gstr, ev_bin, ev_neg, ev_cmp, ev_chain, ev_and, ev_or, ev_not, ev_ite, ev_tup, ev_lst, ev_ix, ev_call, ev_blt, ev_isi, ev_meth, ev_slc, evL, evI, ixO, itemsO, lisO, ixN, binO, binIO, cmpO, cmpIO, isBl, isInt, bltO, methO, eqO, isNon, isNonE, slcO, isiO, tyN, isSub, knownTy, tO, tsO, wipeP]) ?_
    rw [wL]
    exact pc3 hn 3 16 due hdat S7 _ _ hZ
  exact turn_c h7 hw hw2 hs1 hs2 hH2 hR1 hR2 hHl hRl (fun e9 e10 => hD _ _ _ _ _ _ _ _ _ _ S7 h7) ⟨_, _, _, _, _, _, _, _, _, _, _, rfl⟩
theorem turn_ok {ns : List Int} {n : Nat} {S : Store} {e2 e3 e4 e5 e6 e7 e8 e9 e10 e11 e12 : Option PV} {D : Post} (hh : HandAt S 0 n) (hn1 : n < 500000)
    (hD : ∀ (e3 e4 e5 e6 e7 e8 e9 e10 e11 e12 : Option PV) (S' : Store), HandAt S' 0 (n + 3000) → D.nx ⟨Fr ns e2 e3 e4 e5 e6 e7 e8 e9 e10 e11 e12, S'⟩) {b : Den.S} (hb : ∃ r, b4 = .seq r (.seq (.for (.name 2) (.rng1 (.int 3)) b) (.seq (.ret (.bl true)) .nop))) :
    wS (wF tbl 20) b ⟨Fr ns e2 e3 e4 e5 e6 e7 e8 e9 e10 e11 e12, S⟩ D := by
  obtain ⟨r, hb⟩ := hb
  injection hb with _ hb
  injection hb with hb _
  injection hb with _ _ hb
  subst hb
  refine seqE ?_
  rw [wS, wE, wL]
  refine c_some (d := 18) (n := n) (things := [.int 1, .int 2, .int 3, .int 5, .int 7, .int 7, .int 8, .int 14, .int 28]) (by simp [ev_var, ev_int, ev_bl, ev_non, ev_str, ev_gint, ev_gstr, ev_bin, ev_neg, ev_cmp, ev_chain, ev_and, ev_or, ev_not, ev_ite, ev_tup, ev_lst, ev_ix, ev_call, ev_blt, ev_isi, ev_meth, ev_slc, evL, evI, ixO, itemsO, lisO, ixN, binO, binIO, cmpO, cmpIO, isBl, isInt, bltO, methO, eqO, isNon, isNonE, slcO, isiO, tyN, isSub, knownTy, tO, tsO, wipeP]) (by simp [ev_var, ev_int, ev_bl, ev_non, ev_str, ev_gint, ev_gstr, ev_bin, ev_neg, ev_cmp, ev_chain, ev_and, ev_or, ev_not, ev_ite, ev_tup, ev_lst, ev_ix, ev_call, ev_blt, ev_isi, ev_meth, ev_slc, evL, evI, ixO, itemsO, lisO, ixN, binO, binIO, cmpO, cmpIO, isBl, isInt, bltO, methO, eqO, isNon, isNonE, slcO, isiO, tyN, isSub, knownTy, tO, tsO, wipeP]) hh (by omega) (by simp [ev_var, ev_int, ev_bl, ev_non, ev_str, ev_gint, ev_gstr, ev_bin, ev_neg, ev_cmp, ev_chain, ev_and, ev_or, ev_not, ev_ite, ev_tup, ev_lst, ev_ix, ev_call, ev_blt, ev_isi, ev_meth, ev_slc, evL, evI, ixO, itemsO, lisO, ixN, binO, binIO, cmpO, cmpIO, isBl, isInt, bltO, methO, eqO, isNon, isNonE, slcO, isiO, tyN, isSub, knownTy, tO, tsO, wipeP]) (by simp [ev_var, ev_int, ev_bl, ev_non, ev_str, ev_gint, ev_gstr, ev_bin, ev_neg, ev_cmp, ev_chain, ev_and, ev_or, ev_not, ev_ite, ev_tup, ev_lst, ev_ix, ev_call, ev_blt, ev_isi, ev_meth, ev_slc, evL, evI, ixO, itemsO, lisO, ixN, binO, binIO, cmpO, cmpIO, isBl, isInt, bltO, methO, eqO, isNon, isNonE, slcO, isiO, tyN, isSub, knownTy, tO, tsO, wipeP]) fun x hx S1 h1 sb1 => ?_
  obtain ⟨w, rfl, hw, hw2⟩ : ∃ w : Nat, x = .int w ∧ 0 < w ∧ w ≤ 28 := by
    simp only [List.mem_cons, List.not_mem_nil, or_false] at hx
    rcases hx with rfl | rfl | rfl | rfl | rfl | rfl | rfl | rfl | rfl
    · exact ⟨1, rfl, by decide, by decide⟩
    · exact ⟨2, rfl, by decide, by decide⟩
    · exact ⟨3, rfl, by decide, by decide⟩
    · exact ⟨5, rfl, by decide, by decide⟩
    · exact ⟨7, rfl, by decide, by decide⟩
    · exact ⟨7, rfl, by decide, by decide⟩
    · exact ⟨8, rfl, by decide, by decide⟩
    · exact ⟨14, rfl, by decide, by decide⟩
    · exact ⟨28, rfl, by decide, by decide⟩
  rw [wL, wE, wE]
  refine c_draw (d := 19) (n := n + 1) (many := 3) (by simp [ev_var, ev_int, ev_bl, ev_non, ev_str, ev_gint, ev_gstr, ev_bin, ev_neg, ev_cmp, ev_chain, ev_and, ev_or, ev_not, ev_ite, ev_tup, ev_lst, ev_ix, ev_call, ev_blt, ev_isi, ev_meth, ev_slc, evL, evI, ixO, itemsO, lisO, ixN, binO, binIO, cmpO, cmpIO, isBl, isInt, bltO, methO, eqO, isNon, isNonE, slcO, isiO, tyN, isSub, knownTy, tO, tsO, wipeP]) (by simp [ev_var, ev_int, ev_bl, ev_non, ev_str, ev_gint, ev_gstr, ev_bin, ev_neg, ev_cmp, ev_chain, ev_and, ev_or, ev_not, ev_ite, ev_tup, ev_lst, ev_ix, ev_call, ev_blt, ev_isi, ev_meth, ev_slc, evL, evI, ixO, itemsO, lisO, ixN, binO, binIO, cmpO, cmpIO, isBl, isInt, bltO, methO, eqO, isNon, isNonE, slcO, isiO, tyN, isSub, knownTy, tO, tsO, wipeP]) h1 (by omega) (by decide) (by decide) fun s0 S2 r0 r1 h2 sb2 => ?_
  obtain ⟨sh, hsh, hs1, hs2⟩ : ∃ sh : Nat, 1 + s0 = (sh : Int) ∧ 0 < sh ∧ sh ≤ 3 := ⟨(1 + s0).toNat, by omega, by omega, by omega⟩
  refine bin_add ?_
  rw [hsh, wL]
  refine ⟨by simp [ev_var, ev_int, ev_bl, ev_non, ev_str, ev_gint, ev_gstr, ev_bin, ev_neg, ev_cmp, ev_chain, ev_and, ev_or, ev_not, ev_ite, ev_tup, ev_lst, ev_ix, ev_call, ev_blt, ev_isi, ev_meth, ev_slc, evL, evI, ixO, itemsO, lisO, ixN, binO, binIO, cmpO, cmpIO, isBl, isInt, bltO, methO, eqO, isNon, isNonE, slcO, isiO, tyN, isSub, knownTy, tO, tsO, wipeP, szOk], ?_⟩
  refine tO_ok _ _ _ (Fr ns e2 e3 e4 e5 e6 e7 e8 e9 e10 (some (.int w)) (some (.int sh))) _ (by simp [ev_var, ev_int, ev_bl, ev_non, ev_str, ev_gint, ev_gstr, ev_bin, ev_neg, ev_cmp, ev_chain, ev_and, ev_or, ev_not, ev_ite, ev_tup, ev_lst, ev_ix, ev_call, ev_blt, ev_isi, ev_meth, ev_slc, evL, evI, ixO, itemsO, lisO, ixN, binO, binIO, cmpO, cmpIO, isBl, isInt, bltO, methO, eqO, isNon, isNonE, slcO, isiO, tyN, isSub, knownTy, tO, tsO, wipeP]) ?_
  refine seqE ?_
  rw [wS, wE]
  refine l0 (v := [.ref 0, .int w, .int sh, .int (6 : Nat)]) (by simp [ev_var, ev_int, ev_bl, ev_non, ev_str, ev_gint, ev_gstr, ev_bin, ev_neg, ev_cmp, ev_chain, ev_and, ev_or, ev_not, ev_ite, ev_tup, ev_lst, ev_ix, ev_call, ev_blt, ev_isi, ev_meth, ev_slc, evL, evI, ixO, itemsO, lisO, ixN, binO, binIO, cmpO, cmpIO, isBl, isInt, bltO, methO, eqO, isNon, isNonE, slcO, isiO, tyN, isSub, knownTy, tO, tsO, wipeP]) ?_
  refine q_tariff 16 h2 (by omega) hw hw2 hs1 (by omega) (by decide) (by decide) fun t S3 tne t12 tok h3 sb3 => ?_
  dsimp only
  rw [wT]
  refine ⟨by simp [ev_var, ev_int, ev_bl, ev_non, ev_str, ev_gint, ev_gstr, ev_bin, ev_neg, ev_cmp, ev_chain, ev_and, ev_or, ev_not, ev_ite, ev_tup, ev_lst, ev_ix, ev_call, ev_blt, ev_isi, ev_meth, ev_slc, evL, evI, ixO, itemsO, lisO, ixN, binO, binIO, cmpO, cmpIO, isBl, isInt, bltO, methO, eqO, isNon, isNonE, slcO, isiO, tyN, isSub, knownTy, tO, tsO, wipeP], ?_⟩
  show wS _ _ ⟨Fr ns e2 (some (tv t)) e4 e5 e6 e7 e8 e9 e10 (some (.int w)) (some (.int sh)), S3⟩ _
  -- head and ring
  refine seqE ?_
  rw [wS]
  refine c_line (lo := 0) (hi := 9) (n := n + 2 + 2500) (by omega) (by omega) (by decide) (fun R hR => ?_) fun H S4 hH1 hH2 hHl h4 => ?_
  · refine c_draw (d := 19) (n := n + 2 + 2500) (many := 10) (by simp [ev_var, ev_int, ev_bl, ev_non, ev_str, ev_gint, ev_gstr, ev_bin, ev_neg, ev_cmp, ev_chain, ev_and, ev_or, ev_not, ev_ite, ev_tup, ev_lst, ev_ix, ev_call, ev_blt, ev_isi, ev_meth, ev_slc, evL, evI, ixO, itemsO, lisO, ixN, binO, binIO, cmpO, cmpIO, isBl, isInt, bltO, methO, eqO, isNon, isNonE, slcO, isiO, tyN, isSub, knownTy, tO, tsO, wipeP]) (by simp [ev_var, ev_int, ev_bl, ev_non, ev_str, ev_gint, ev_gstr, ev_bin, ev_neg, ev_cmp, ev_chain, ev_and, ev_or, ev_not, ev_ite, ev_tup, ev_lst, ev_ix, ev_call, ev_blt, ev_isi, ev_meth, ev_slc, evL, evI, ixO, itemsO, lisO, ixN, binO, binIO, cmpO, cmpIO, isBl, isInt, bltO, methO, eqO, isNon, isNonE, slcO, isiO, tyN, isSub, knownTy, tO, tsO, wipeP]) h3 (by omega) (by decide) (by decide) fun c S' c0 c1 hc sbc => ?_
    obtain ⟨c, rfl⟩ : ∃ k : Nat, c = (k : Int) := ⟨c.toNat, by omega⟩
    exact hR c S' (by omega) (by omega) hc
  rw [wT]
  refine ⟨by simp [ev_var, ev_int, ev_bl, ev_non, ev_str, ev_gint, ev_gstr, ev_bin, ev_neg, ev_cmp, ev_chain, ev_and, ev_or, ev_not, ev_ite, ev_tup, ev_lst, ev_ix, ev_call, ev_blt, ev_isi, ev_meth, ev_slc, evL, evI, ixO, itemsO, lisO, ixN, binO, binIO, cmpO, cmpIO, isBl, isInt, bltO, methO, eqO, isNon, isNonE, slcO, isiO, tyN, isSub, knownTy, tO, tsO, wipeP], ?_⟩
  show wS _ _ ⟨Fr ns e2 (some (tv t)) (some (vi H)) e5 e6 e7 e8 e9 e10 (some (.int w)) (some (.int sh)), S4⟩ _
  refine seqE ?_
  rw [wS]
  refine c_line (lo := 1) (hi := 6) (n := n + 2 + 2500 + 30) (by omega) (by omega) (by decide) (fun R hR => ?_) fun R S5 hR1 hR2 hRl h5 => ?_
  · rw [wE, wE]
    refine c_draw (d := 19) (n := n + 2 + 2500 + 30) (many := 6) (by simp [ev_var, ev_int, ev_bl, ev_non, ev_str, ev_gint, ev_gstr, ev_bin, ev_neg, ev_cmp, ev_chain, ev_and, ev_or, ev_not, ev_ite, ev_tup, ev_lst, ev_ix, ev_call, ev_blt, ev_isi, ev_meth, ev_slc, evL, evI, ixO, itemsO, lisO, ixN, binO, binIO, cmpO, cmpIO, isBl, isInt, bltO, methO, eqO, isNon, isNonE, slcO, isiO, tyN, isSub, knownTy, tO, tsO, wipeP]) (by simp [ev_var, ev_int, ev_bl, ev_non, ev_str, ev_gint, ev_gstr, ev_bin, ev_neg, ev_cmp, ev_chain, ev_and, ev_or, ev_not, ev_ite, ev_tup, ev_lst, ev_ix, ev_call, ev_blt, ev_isi, ev_meth, ev_slc, evL, evI, ixO, itemsO, lisO, ixN, binO, binIO, cmpO, cmpIO, isBl, isInt, bltO, methO, eqO, isNon, isNonE, slcO, isiO, tyN, isSub, knownTy, tO, tsO, wipeP]) h4 (by omega) (by decide) (by decide) fun c S' c0 c1 hc sbc => ?_
    obtain ⟨c, rfl⟩ : ∃ k : Nat, c = (k : Int) := ⟨c.toNat, by omega⟩
    refine bin_add ?_
    have e : (1 : Int) + (c : Int) = ((1 + c : Nat) : Int) := by omega
    rw [e]
    exact hR (1 + c) S' (by omega) (by omega) hc
  rw [wT]
  refine ⟨by simp [ev_var, ev_int, ev_bl, ev_non, ev_str, ev_gint, ev_gstr, ev_bin, ev_neg, ev_cmp, ev_chain, ev_and, ev_or, ev_not, ev_ite, ev_tup, ev_lst, ev_ix, ev_call, ev_blt, ev_isi, ev_meth, ev_slc, evL, evI, ixO, itemsO, lisO, ixN, binO, binIO, cmpO, cmpIO, isBl, isInt, bltO, methO, eqO, isNon, isNonE, slcO, isiO, tyN, isSub, knownTy, tO, tsO, wipeP], ?_⟩
  show wS _ _ ⟨Fr ns e2 (some (tv t)) (some (vi H)) (some (vi R)) e6 e7 e8 e9 e10 (some (.int w)) (some (.int sh)), S5⟩ _
  exact turn_b h5 (by omega) hw hw2 hs1 hs2 tne t12 tok hH2 hR1 hR2 hHl hRl (fun e3 e4 e5 e6 e7 e8 e9 e10 e11 e12 S' h' => hD _ _ _ _ _ _ _ _ _ _ S' (hand_le h' (by omega))) ⟨_, _, _, _, _, _, rfl⟩
theorem law_pure (ns : List Int) (hl : ns.length ≤ 63) (hb : ∀ z ∈ ns, PySem.Builtin.Int.intBits z ≤ 1048576) : wF tbl 21 4 [.lck (ns.map .int)] [] (fun v _ => v = .bl true) (fun _ _ => False) := by
  refine wF_runE 1 15 b4 [some (.lck (ns.map .int)), none, none, none, none, none, none, none, none, none, none, none, none, none, none] rfl rfl (by decide) rfl (seqE ?_)
  rw [wS, wE]
  refine l0 (v := [.lck (ns.map .int)]) (by simp [ev_var, ev_int, ev_bl, ev_non, ev_str, ev_gint, ev_gstr, ev_bin, ev_neg, ev_cmp, ev_chain, ev_and, ev_or, ev_not, ev_ite, ev_tup, ev_lst, ev_ix, ev_call, ev_blt, ev_isi, ev_meth, ev_slc, evL, evI, ixO, itemsO, lisO, ixN, binO, binIO, cmpO, cmpIO, isBl, isInt, bltO, methO, eqO, isNon, isNonE, slcO, isiO, tyN, isSub, knownTy, tO, tsO, wipeP]) ?_
  refine p_hand hn 19 ns hl fun T hT => ?_
  dsimp only
  rw [wT]
  refine ⟨by simp [ev_var, ev_int, ev_bl, ev_non, ev_str, ev_gint, ev_gstr, ev_bin, ev_neg, ev_cmp, ev_chain, ev_and, ev_or, ev_not, ev_ite, ev_tup, ev_lst, ev_ix, ev_call, ev_blt, ev_isi, ev_meth, ev_slc, evL, evI, ixO, itemsO, lisO, ixN, binO, binIO, cmpO, cmpIO, isBl, isInt, bltO, methO, eqO, isNon, isNonE, slcO, isiO, tyN, isSub, knownTy, tO, tsO, wipeP], ?_⟩
  show wS _ _ ⟨Fr ns none none none none none none none none none none none, [T]⟩ _
  refine cut (fun p => True) ?_ ?_
  · rw [wS]
    refine i_rng (k := 3) (by simp [ev_var, ev_int, ev_bl, ev_non, ev_str, ev_gint, ev_gstr, ev_bin, ev_neg, ev_cmp, ev_chain, ev_and, ev_or, ev_not, ev_ite, ev_tup, ev_lst, ev_ix, ev_call, ev_blt, ev_isi, ev_meth, ev_slc, evL, evI, ixO, itemsO, lisO, ixN, binO, binIO, cmpO, cmpIO, isBl, isInt, bltO, methO, eqO, isNon, isNonE, slcO, isiO, tyN, isSub, knownTy, tO, tsO, wipeP]) (by decide) (by decide) ?_
    refine for_ind (fun xs p => ∃ (ks : List Nat) (e2 e3 e4 e5 e6 e7 e8 e9 e10 e11 e12 : Option PV) (S : Store) (n : Nat), xs = ks.map (fun k => PV.int (k : Nat)) ∧ HandAt S 0 n ∧ n + 3000 * ks.length ≤ 12000 ∧ p = ⟨Fr ns e2 e3 e4 e5 e6 e7 e8 e9 e10 e11 e12, S⟩) ?_ ?_ _ _ ?_
    · rintro p _
      exact ⟨trivial, trivial⟩
    · rintro x xs p K ⟨ks, e2, e3, e4, e5, e6, e7, e8, e9, e10, e11, e12, S, n, e1, hS, hl', rfl⟩ hK
      cases ks with
      | nil => cases e1
      | cons k ks =>
        cases e1
        simp only [List.length_cons] at hl'
        refine ⟨trivial, tO_ok _ _ _ (Fr ns (some (.int (k : Nat))) e3 e4 e5 e6 e7 e8 e9 e10 e11 e12) _ (by simp [ev_var, ev_int, ev_bl, ev_non, ev_str, ev_gint, ev_gstr, ev_bin, ev_neg, ev_cmp, ev_chain, ev_and, ev_or, ev_not, ev_ite, ev_tup, ev_lst, ev_ix, ev_call, ev_blt, ev_isi, ev_meth, ev_slc, evL, evI, ixO, itemsO, lisO, ixN, binO, binIO, cmpO, cmpIO, isBl, isInt, bltO, methO, eqO, isNon, isNonE, slcO, isiO, tyN, isSub, knownTy, tO, tsO, wipeP]) ?_⟩
        refine turn_ok hS (by omega) (fun e3 e4 e5 e6 e7 e8 e9 e10 e11 e12 S' h' => ?_) ⟨_, rfl⟩
        exact hK _ ⟨ks, _, _, _, _, _, _, _, _, _, _, _, S', n + 3000, rfl, h', by omega, rfl⟩
    · refine ⟨List.range 3, _, _, _, _, _, _, _, _, _, _, _, [T], 0, ?_, hT, by simp [ev_var, ev_int, ev_bl, ev_non, ev_str, ev_gint, ev_gstr, ev_bin, ev_neg, ev_cmp, ev_chain, ev_and, ev_or, ev_not, ev_ite, ev_tup, ev_lst, ev_ix, ev_call, ev_blt, ev_isi, ev_meth, ev_slc, evL, evI, ixO, itemsO, lisO, ixN, binO, binIO, cmpO, cmpIO, isBl, isInt, bltO, methO, eqO, isNon, isNonE, slcO, isiO, tyN, isSub, knownTy, tO, tsO, wipeP], rfl⟩
      unfold rngL
      simp [ev_var, ev_int, ev_bl, ev_non, ev_str, ev_gint, ev_gstr, ev_bin, ev_neg, ev_cmp, ev_chain, ev_and, ev_or, ev_not, ev_ite, ev_tup, ev_lst, ev_ix, ev_call, ev_blt, ev_isi, ev_meth, ev_slc, evL, evI, ixO, itemsO, lisO, ixN, binO, binIO, cmpO, cmpIO, isBl, isInt, bltO, methO, eqO, isNon, isNonE, slcO, isiO, tyN, isSub, knownTy, tO, tsO, wipeP]
  · rintro ⟨env, st⟩ _
    exact seqE (ret_ok (v := .bl true) (by simp [ev_var, ev_int, ev_bl, ev_non, ev_str, ev_gint, ev_gstr, ev_bin, ev_neg, ev_cmp, ev_chain, ev_and, ev_or, ev_not, ev_ite, ev_tup, ev_lst, ev_ix, ev_call, ev_blt, ev_isi, ev_meth, ev_slc, evL, evI, ixO, itemsO, lisO, ixN, binO, binIO, cmpO, cmpIO, isBl, isInt, bltO, methO, eqO, isNon, isNonE, slcO, isiO, tyN, isSub, knownTy, tO, tsO, wipeP]) rfl)
end K69

namespace K69
open PySem Den L2
def top (i : Nat) : Stmt := PySem.Challenge.pw_evercrew_k69_whole_mean_pay_of_endless_l.main.body.getD i (.Pass ⟨0, 0, 0, 0⟩)
abbrev s0 : Stmt := top 42
abbrev N0 : List Str := ["script", "cells", "cell"]
abbrev s1 : Stmt := top 43
abbrev N1 : List Str := ["hand", "many", "number", "cell", "figure"]
abbrev s2 : Stmt := top 44
abbrev N2 : List Str := ["hand", "things"]
abbrev s3 : Stmt := top 50
abbrev N3 : List Str := ["told", "due", "one", "two"]
abbrev s4 : Stmt := top 53
abbrev N4 : List Str := ["script", "hand", "turn", "tariff", "head", "ring", "due", "at", "other", "plain", "days", "wheel", "shifts", "day", "letter"]
abbrev s5 : Stmt := top 47
abbrev N5 : List Str := ["hand", "wheel", "shifts", "most", "turn"]
abbrev s6 : Stmt := top 46
abbrev N6 : List Str := ["hand", "wheel", "shifts", "kind", "amount", "letters", "turn"]
abbrev s7 : Stmt := top 45
abbrev N7 : List Str := ["hand", "many", "found", "number"]
abbrev s8 : Stmt := top 49
abbrev N8 : List Str := ["wheel", "tariff", "line", "day", "rule"]
abbrev s9 : Stmt := top 48
abbrev N9 : List Str := ["wheel", "rule", "line", "last", "day", "row", "is_row_v", "week", "bears", "letter", "lot"]
abbrev s10 : Stmt := top 52
abbrev N10 : List Str := ["wheel", "tariff", "head", "ring", "span", "turns", "line", "begin", "pays"]
abbrev s11 : Stmt := top 20
abbrev N11 : List Str := ["wheel", "shifts"]
abbrev s12 : Stmt := top 6
abbrev N12 : List Str := ["thing"]
abbrev s13 : Stmt := top 4
abbrev N13 : List Str := ["thing", "low", "high"]
abbrev s14 : Stmt := top 3
abbrev N14 : List Str := ["thing"]
abbrev s15 : Stmt := top 7
abbrev N15 : List Str := ["thing"]
abbrev s16 : Stmt := top 32
abbrev N16 : List Str := ["wheel", "shifts", "thing", "rule"]
abbrev s17 : Stmt := top 5
abbrev N17 : List Str := ["thing", "low", "high"]
abbrev s18 : Stmt := top 31
abbrev N18 : List Str := ["wheel", "shifts", "thing", "word"]
abbrev s19 : Stmt := top 8
abbrev N19 : List Str := ["thing", "low", "high", "one", "other"]
abbrev s20 : Stmt := top 30
abbrev N20 : List Str := ["thing"]
abbrev s21 : Stmt := top 19
abbrev N21 : List Str := ["shifts", "thing", "lot"]
abbrev s22 : Stmt := top 40
abbrev N22 : List Str := ["wheel", "shifts", "tariff", "line", "known", "turn_of", "sums", "turns", "head", "ring", "brought"]
abbrev s23 : Stmt := top 33
abbrev N23 : List Str := ["wheel", "shifts", "tariff"]
abbrev s24 : Stmt := top 10
abbrev N24 : List Str := ["shifts", "thing", "letter"]
abbrev s25 : Stmt := top 9
abbrev N25 : List Str := ["shifts", "thing"]
abbrev s26 : Stmt := top 39
abbrev N26 : List Str := ["wheel", "tariff", "known", "letters", "found", "letter", "brought"]
abbrev s27 : Stmt := top 38
abbrev N27 : List Str := ["wheel", "tariff", "known", "letter", "found", "day", "held", "rule", "one", "pair"]
abbrev s28 : Stmt := top 37
abbrev N28 : List Str := ["rule", "wheel", "day", "letter", "held"]
abbrev s29 : Stmt := top 35
abbrev N29 : List Str := ["rule", "letter", "held", "letters", "row", "is_met", "one", "lot"]
abbrev s30 : Stmt := top 36
abbrev N30 : List Str := ["rule", "wheel", "day", "letter", "held", "is_one", "brought", "later"]
abbrev s31 : Stmt := top 34
abbrev N31 : List Str := ["tariff", "rule"]
abbrev s32 : Stmt := top 51
abbrev N32 : List Str := ["top", "bottom", "one", "other"]
abbrev s33 : Stmt := top 23
abbrev N33 : List Str := ["top", "bottom", "part"]
abbrev s34 : Stmt := top 22
abbrev N34 : List Str := ["one", "other"]
abbrev s35 : Stmt := top 11
abbrev N35 : List Str := ["shifts", "thing"]
def gd : GD := ⟨[(("_law_hand" : Str), (1 : Nat)), (("_law_draw" : Str), (2 : Nat)), (("_law_some" : Str), (2 : Nat)), (("_law_is" : Str), (2 : Nat)), (("law" : Str), (1 : Nat)), (("_law_tariff" : Str), (4 : Nat)), (("_law_pay_rule" : Str), (3 : Nat)), (("_law_lot" : Str), (2 : Nat)), (("_law_pays" : Str), (3 : Nat)), (("_law_brings" : Str), (3 : Nat)), (("_law_mean" : Str), (4 : Nat)), (("check_sizes" : Str), (2 : Nat)), (("is_wheel" : Str), (1 : Nat)), (("is_within" : Str), (3 : Nat)), (("is_integer" : Str), (1 : Nat)), (("is_shifts" : Str), (1 : Nat)), (("is_tariff_of" : Str), (3 : Nat)), (("is_sized" : Str), (3 : Nat)), (("is_pay_rule" : Str), (3 : Nat)), (("is_lot" : Str), (3 : Nat)), (("is_amount" : Str), (1 : Nat)), (("is_row" : Str), (2 : Nat)), (("mean_pay" : Str), (4 : Nat)), (("check_tariff" : Str), (3 : Nat)), (("is_finite" : Str), (2 : Nat)), (("is_letter" : Str), (2 : Nat)), (("paid" : Str), (4 : Nat)), (("led_pay" : Str), (4 : Nat)), (("led_pay_rule" : Str), (5 : Nat)), (("led_row" : Str), (3 : Nat)), (("led_over" : Str), (5 : Nat)), (("first_pay" : Str), (1 : Nat)), (("_law_lowest" : Str), (2 : Nat)), (("share" : Str), (2 : Nat)), (("common" : Str), (2 : Nat)), (("is_endless" : Str), (2 : Nat))], [("MOST_PAY", 12), ("MOST_SHIFTS", 6), ("MOST_WHEEL", 28)], ["abs", "all", "bool", "int", "isinstance", "len", "list", "min", "range", "str", "sum", "tuple", "zip"], [("EACH", "each"), ("ON", "on"), ("OVER", "over"), ("ROW", "row")], [], [], []⟩
theorem ck0 : cSs gd ⟨N0, defScope s0, fun _ => true⟩ b0 (defBody s0) = true := chk_of (n := 100) (by decide +kernel)
theorem sc0 : FnScope N0 ["script"] (defScope s0) := ⟨rfl, rfl, rfl, by decide +kernel, rfl, by decide +kernel, by decide +kernel⟩
theorem ck1 : cSs gd ⟨N1, defScope s1, fun _ => true⟩ b1 (defBody s1) = true := chk_of (n := 100) (by decide +kernel)
theorem sc1 : FnScope N1 ["hand", "many"] (defScope s1) := ⟨rfl, rfl, rfl, by decide +kernel, rfl, by decide +kernel, by decide +kernel⟩
theorem ck2 : cSs gd ⟨N2, defScope s2, fun _ => true⟩ b2 (defBody s2) = true := chk_of (n := 100) (by decide +kernel)
theorem sc2 : FnScope N2 ["hand", "things"] (defScope s2) := ⟨rfl, rfl, rfl, by decide +kernel, rfl, by decide +kernel, by decide +kernel⟩
theorem ck3 : cSs gd ⟨N3, defScope s3, fun _ => true⟩ b3 (defBody s3) = true := chk_of (n := 100) (by decide +kernel)
theorem sc3 : FnScope N3 ["told", "due"] (defScope s3) := ⟨rfl, rfl, rfl, by decide +kernel, rfl, by decide +kernel, by decide +kernel⟩
theorem ck4 : cSs gd ⟨N4, defScope s4, fun _ => true⟩ b4 (defBody s4) = true := chk_of (n := 100) (by decide +kernel)
theorem sc4 : FnScope N4 ["script"] (defScope s4) := ⟨rfl, rfl, rfl, by decide +kernel, rfl, by decide +kernel, by decide +kernel⟩
theorem ck5 : cSs gd ⟨N5, defScope s5, fun _ => true⟩ b5 (defBody s5) = true := chk_of (n := 100) (by decide +kernel)
theorem sc5 : FnScope N5 ["hand", "wheel", "shifts", "most"] (defScope s5) := ⟨rfl, rfl, rfl, by decide +kernel, rfl, by decide +kernel, by decide +kernel⟩
theorem ck6 : cSs gd ⟨N6, defScope s6, fun _ => true⟩ b6 (defBody s6) = true := chk_of (n := 100) (by decide +kernel)
theorem sc6 : FnScope N6 ["hand", "wheel", "shifts"] (defScope s6) := ⟨rfl, rfl, rfl, by decide +kernel, rfl, by decide +kernel, by decide +kernel⟩
theorem ck7 : cSs gd ⟨N7, defScope s7, fun _ => true⟩ b7 (defBody s7) = true := chk_of (n := 100) (by decide +kernel)
theorem sc7 : FnScope N7 ["hand", "many"] (defScope s7) := ⟨rfl, rfl, rfl, by decide +kernel, rfl, by decide +kernel, by decide +kernel⟩
theorem ck8 : cSs gd ⟨N8, defScope s8, fun _ => true⟩ b8 (defBody s8) = true := chk_of (n := 100) (by decide +kernel)
theorem sc8 : FnScope N8 ["wheel", "tariff", "line"] (defScope s8) := ⟨rfl, rfl, rfl, by decide +kernel, rfl, by decide +kernel, by decide +kernel⟩
theorem ck9 : cSs gd ⟨N9, defScope s9, fun _ => true⟩ b9 (defBody s9) = true := chk_of (n := 100) (by decide +kernel)
theorem sc9 : FnScope N9 ["wheel", "rule", "line"] (defScope s9) := ⟨rfl, rfl, rfl, by decide +kernel, rfl, by decide +kernel, by decide +kernel⟩
theorem ck10 : cSs gd ⟨N10, defScope s10, fun _ => true⟩ b10 (defBody s10) = true := chk_of (n := 100) (by decide +kernel)
theorem sc10 : FnScope N10 ["wheel", "tariff", "head", "ring"] (defScope s10) := ⟨rfl, rfl, rfl, by decide +kernel, rfl, by decide +kernel, by decide +kernel⟩
theorem ck11 : cSs gd ⟨N11, defScope s11, fun _ => true⟩ b11 (defBody s11) = true := chk_of (n := 100) (by decide +kernel)
theorem sc11 : FnScope N11 ["wheel", "shifts"] (defScope s11) := ⟨rfl, rfl, rfl, by decide +kernel, rfl, by decide +kernel, by decide +kernel⟩
theorem ck12 : cSs gd ⟨N12, defScope s12, fun _ => true⟩ b12 (defBody s12) = true := chk_of (n := 100) (by decide +kernel)
theorem sc12 : FnScope N12 ["thing"] (defScope s12) := ⟨rfl, rfl, rfl, by decide +kernel, rfl, by decide +kernel, by decide +kernel⟩
theorem ck13 : cSs gd ⟨N13, defScope s13, fun _ => true⟩ b13 (defBody s13) = true := chk_of (n := 100) (by decide +kernel)
theorem sc13 : FnScope N13 ["thing", "low", "high"] (defScope s13) := ⟨rfl, rfl, rfl, by decide +kernel, rfl, by decide +kernel, by decide +kernel⟩
theorem ck14 : cSs gd ⟨N14, defScope s14, fun _ => true⟩ b14 (defBody s14) = true := chk_of (n := 100) (by decide +kernel)
theorem sc14 : FnScope N14 ["thing"] (defScope s14) := ⟨rfl, rfl, rfl, by decide +kernel, rfl, by decide +kernel, by decide +kernel⟩
theorem ck15 : cSs gd ⟨N15, defScope s15, fun _ => true⟩ b15 (defBody s15) = true := chk_of (n := 100) (by decide +kernel)
theorem sc15 : FnScope N15 ["thing"] (defScope s15) := ⟨rfl, rfl, rfl, by decide +kernel, rfl, by decide +kernel, by decide +kernel⟩
theorem ck16 : cSs gd ⟨N16, defScope s16, fun _ => true⟩ b16 (defBody s16) = true := chk_of (n := 100) (by decide +kernel)
theorem sc16 : FnScope N16 ["wheel", "shifts", "thing"] (defScope s16) := ⟨rfl, rfl, rfl, by decide +kernel, rfl, by decide +kernel, by decide +kernel⟩
theorem ck17 : cSs gd ⟨N17, defScope s17, fun _ => true⟩ b17 (defBody s17) = true := chk_of (n := 100) (by decide +kernel)
theorem sc17 : FnScope N17 ["thing", "low", "high"] (defScope s17) := ⟨rfl, rfl, rfl, by decide +kernel, rfl, by decide +kernel, by decide +kernel⟩
theorem ck18 : cSs gd ⟨N18, defScope s18, fun _ => true⟩ b18 (defBody s18) = true := chk_of (n := 100) (by decide +kernel)
theorem sc18 : FnScope N18 ["wheel", "shifts", "thing"] (defScope s18) := ⟨rfl, rfl, rfl, by decide +kernel, rfl, by decide +kernel, by decide +kernel⟩
theorem ck19 : cSs gd ⟨N19, defScope s19, fun _ => true⟩ b19 (defBody s19) = true := chk_of (n := 100) (by decide +kernel)
theorem sc19 : FnScope N19 ["thing", "low", "high"] (defScope s19) := ⟨rfl, rfl, rfl, by decide +kernel, rfl, by decide +kernel, by decide +kernel⟩
theorem ck20 : cSs gd ⟨N20, defScope s20, fun _ => true⟩ b20 (defBody s20) = true := chk_of (n := 100) (by decide +kernel)
theorem sc20 : FnScope N20 ["thing"] (defScope s20) := ⟨rfl, rfl, rfl, by decide +kernel, rfl, by decide +kernel, by decide +kernel⟩
theorem ck21 : cSs gd ⟨N21, defScope s21, fun _ => true⟩ b21 (defBody s21) = true := chk_of (n := 100) (by decide +kernel)
theorem sc21 : FnScope N21 ["shifts", "thing"] (defScope s21) := ⟨rfl, rfl, rfl, by decide +kernel, rfl, by decide +kernel, by decide +kernel⟩
theorem ck22 : cSs gd ⟨N22, defScope s22, fun _ => true⟩ b22 (defBody s22) = true := chk_of (n := 100) (by decide +kernel)
theorem sc22 : FnScope N22 ["wheel", "shifts", "tariff", "line"] (defScope s22) := ⟨rfl, rfl, rfl, by decide +kernel, rfl, by decide +kernel, by decide +kernel⟩
theorem ck23 : cSs gd ⟨N23, defScope s23, fun _ => true⟩ b23 (defBody s23) = true := chk_of (n := 100) (by decide +kernel)
theorem sc23 : FnScope N23 ["wheel", "shifts", "tariff"] (defScope s23) := ⟨rfl, rfl, rfl, by decide +kernel, rfl, by decide +kernel, by decide +kernel⟩
theorem ck24 : cSs gd ⟨N24, defScope s24, fun _ => true⟩ b24 (defBody s24) = true := chk_of (n := 100) (by decide +kernel)
theorem sc24 : FnScope N24 ["shifts", "thing"] (defScope s24) := ⟨rfl, rfl, rfl, by decide +kernel, rfl, by decide +kernel, by decide +kernel⟩
theorem ck25 : cSs gd ⟨N25, defScope s25, fun _ => true⟩ b25 (defBody s25) = true := chk_of (n := 100) (by decide +kernel)
theorem sc25 : FnScope N25 ["shifts", "thing"] (defScope s25) := ⟨rfl, rfl, rfl, by decide +kernel, rfl, by decide +kernel, by decide +kernel⟩
theorem ck26 : cSs gd ⟨N26, defScope s26, fun _ => true⟩ b26 (defBody s26) = true := chk_of (n := 100) (by decide +kernel)
theorem sc26 : FnScope N26 ["wheel", "tariff", "known", "letters"] (defScope s26) := ⟨rfl, rfl, rfl, by decide +kernel, rfl, by decide +kernel, by decide +kernel⟩
theorem ck27 : cSs gd ⟨N27, defScope s27, fun _ => true⟩ b27 (defBody s27) = true := chk_of (n := 100) (by decide +kernel)
theorem sc27 : FnScope N27 ["wheel", "tariff", "known", "letter"] (defScope s27) := ⟨rfl, rfl, rfl, by decide +kernel, rfl, by decide +kernel, by decide +kernel⟩
theorem ck28 : cSs gd ⟨N28, defScope s28, fun _ => true⟩ b28 (defBody s28) = true := chk_of (n := 100) (by decide +kernel)
theorem sc28 : FnScope N28 ["rule", "wheel", "day", "letter", "held"] (defScope s28) := ⟨rfl, rfl, rfl, by decide +kernel, rfl, by decide +kernel, by decide +kernel⟩
theorem ck29 : cSs gd ⟨N29, defScope s29, fun _ => true⟩ b29 (defBody s29) = true := chk_of (n := 100) (by decide +kernel)
theorem sc29 : FnScope N29 ["rule", "letter", "held"] (defScope s29) := ⟨rfl, rfl, rfl, by decide +kernel, rfl, by decide +kernel, by decide +kernel⟩
theorem ck30 : cSs gd ⟨N30, defScope s30, fun _ => true⟩ b30 (defBody s30) = true := chk_of (n := 100) (by decide +kernel)
theorem sc30 : FnScope N30 ["rule", "wheel", "day", "letter", "held"] (defScope s30) := ⟨rfl, rfl, rfl, by decide +kernel, rfl, by decide +kernel, by decide +kernel⟩
theorem ck31 : cSs gd ⟨N31, defScope s31, fun _ => true⟩ b31 (defBody s31) = true := chk_of (n := 100) (by decide +kernel)
theorem sc31 : FnScope N31 ["tariff"] (defScope s31) := ⟨rfl, rfl, rfl, by decide +kernel, rfl, by decide +kernel, by decide +kernel⟩
theorem ck32 : cSs gd ⟨N32, defScope s32, fun _ => true⟩ b32 (defBody s32) = true := chk_of (n := 100) (by decide +kernel)
theorem sc32 : FnScope N32 ["top", "bottom"] (defScope s32) := ⟨rfl, rfl, rfl, by decide +kernel, rfl, by decide +kernel, by decide +kernel⟩
theorem ck33 : cSs gd ⟨N33, defScope s33, fun _ => true⟩ b33 (defBody s33) = true := chk_of (n := 100) (by decide +kernel)
theorem sc33 : FnScope N33 ["top", "bottom"] (defScope s33) := ⟨rfl, rfl, rfl, by decide +kernel, rfl, by decide +kernel, by decide +kernel⟩
theorem ck34 : cSs gd ⟨N34, defScope s34, fun _ => true⟩ b34 (defBody s34) = true := chk_of (n := 100) (by decide +kernel)
theorem sc34 : FnScope N34 ["one", "other"] (defScope s34) := ⟨rfl, rfl, rfl, by decide +kernel, rfl, by decide +kernel, by decide +kernel⟩
theorem ck35 : cSs gd ⟨N35, defScope s35, fun _ => true⟩ b35 (defBody s35) = true := chk_of (n := 100) (by decide +kernel)
theorem sc35 : FnScope N35 ["shifts", "thing"] (defScope s35) := ⟨rfl, rfl, rfl, by decide +kernel, rfl, by decide +kernel, by decide +kernel⟩
end K69

namespace K69
open PySem Den L2
set_option maxHeartbeats 0 in
theorem all_mk {l : PySem.W.OpenLaw} {w : World} {K : PySem.W.Frag} {h : Heap} {mg : Str → Option Value} {fa f0 f1 f2 f3 f4 f5 f6 f7 f8 f9 f10 f11 f12 f13 f14 f15 f16 f17 f18 f19 f20 f21 f22 f23 f24 f25 f26 f27 f28 f29 f30 f31 f32 f33 f34 f35 : Addr} (X : K.In h) (G : h.Ns mainGlobals mg) (hfa : mg "law" = some (.ref fa))
    {od0 an0 od1 an1 od2 an2 od3 an3 od4 an4 od5 an5 od6 an6 od7 an7 od8 an8 od9 an9 od10 an10 od11 an11 od12 an12 od13 an13 od14 an14 od15 an15 od16 an16 od17 an17 od18 an18 od19 an19 od20 an20 od21 an21 od22 an22 od23 an23 od24 an24 od25 an25 od26 an26 od27 an27 od28 an28 od29 an29 od30 an30 od31 an31 od32 an32 od33 an33 od34 an34 od35 an35 : Option Addr} {sl0 sl1 sl2 sl3 sl4 sl5 sl6 sl7 sl8 sl9 sl10 sl11 sl12 sl13 sl14 sl15 sl16 sl17 sl18 sl19 sl20 sl21 sl22 sl23 sl24 sl25 sl26 sl27 sl28 sl29 sl30 sl31 sl32 sl33 sl34 sl35 : Array (Option Value)} {oc0 kV0 dc0 pm0 cd0 ct0 oc1 kV1 dc1 pm1 cd1 ct1 oc2 kV2 dc2 pm2 cd2 ct2 oc3 kV3 dc3 pm3 cd3 ct3 oc4 kV4 dc4 pm4 cd4 ct4 oc5 kV5 dc5 pm5 cd5 ct5 oc6 kV6 dc6 pm6 cd6 ct6 oc7 kV7 dc7 pm7 cd7 ct7 oc8 kV8 dc8 pm8 cd8 ct8 oc9 kV9 dc9 pm9 cd9 ct9 oc10 kV10 dc10 pm10 cd10 ct10 oc11 kV11 dc11 pm11 cd11 ct11 oc12 kV12 dc12 pm12 cd12 ct12 oc13 kV13 dc13 pm13 cd13 ct13 oc14 kV14 dc14 pm14 cd14 ct14 oc15 kV15 dc15 pm15 cd15 ct15 oc16 kV16 dc16 pm16 cd16 ct16 oc17 kV17 dc17 pm17 cd17 ct17 oc18 kV18 dc18 pm18 cd18 ct18 oc19 kV19 dc19 pm19 cd19 ct19 oc20 kV20 dc20 pm20 cd20 ct20 oc21 kV21 dc21 pm21 cd21 ct21 oc22 kV22 dc22 pm22 cd22 ct22 oc23 kV23 dc23 pm23 cd23 ct23 oc24 kV24 dc24 pm24 cd24 ct24 oc25 kV25 dc25 pm25 cd25 ct25 oc26 kV26 dc26 pm26 cd26 ct26 oc27 kV27 dc27 pm27 cd27 ct27 oc28 kV28 dc28 pm28 cd28 ct28 oc29 kV29 dc29 pm29 cd29 ct29 oc30 kV30 dc30 pm30 cd30 ct30 oc31 kV31 dc31 pm31 cd31 ct31 oc32 kV32 dc32 pm32 cd32 ct32 oc33 kV33 dc33 pm33 cd33 ct33 oc34 kV34 dc34 pm34 cd34 ct34 oc35 kV35 dc35 pm35 cd35 ct35 : Value} {t0 t1 t2 v0 v1 v2 v3 : Tok}
    (a0 : PySem.W.nsIn K mainGlobals "_law_hand" = some (some (.ref f0)))
    (l0 : K.lookup f0 = some ⟨oc0, od0, .func (PySem.W.fnOf "_law_hand" "_law_hand" (defArgs s0) (defBody s0) (defScope s0) .none kV0 dc0 pm0 an0 cd0 ct0), sl0⟩) (c0 : PySem.W.codeIn K cd0 "_law_hand" = true) (k0 : PySem.W.keepIn K (.ref f0) = true)
    (a1 : PySem.W.nsIn K mainGlobals "_law_draw" = some (some (.ref f1)))
    (l1 : K.lookup f1 = some ⟨oc1, od1, .func (PySem.W.fnOf "_law_draw" "_law_draw" (defArgs s1) (defBody s1) (defScope s1) .none kV1 dc1 pm1 an1 cd1 ct1), sl1⟩) (c1 : PySem.W.codeIn K cd1 "_law_draw" = true) (k1 : PySem.W.keepIn K (.ref f1) = true)
    (a2 : PySem.W.nsIn K mainGlobals "_law_some" = some (some (.ref f2)))
    (l2 : K.lookup f2 = some ⟨oc2, od2, .func (PySem.W.fnOf "_law_some" "_law_some" (defArgs s2) (defBody s2) (defScope s2) .none kV2 dc2 pm2 an2 cd2 ct2), sl2⟩) (c2 : PySem.W.codeIn K cd2 "_law_some" = true) (k2 : PySem.W.keepIn K (.ref f2) = true)
    (a3 : PySem.W.nsIn K mainGlobals "_law_is" = some (some (.ref f3)))
    (l3 : K.lookup f3 = some ⟨oc3, od3, .func (PySem.W.fnOf "_law_is" "_law_is" (defArgs s3) (defBody s3) (defScope s3) .none kV3 dc3 pm3 an3 cd3 ct3), sl3⟩) (c3 : PySem.W.codeIn K cd3 "_law_is" = true) (k3 : PySem.W.keepIn K (.ref f3) = true)
    (a4 : PySem.W.nsIn K mainGlobals "law" = some (some (.ref f4)))
    (l4 : K.lookup f4 = some ⟨oc4, od4, .func (PySem.W.fnOf "law" "law" (defArgs s4) (defBody s4) (defScope s4) .none kV4 dc4 pm4 an4 cd4 ct4), sl4⟩) (c4 : PySem.W.codeIn K cd4 "law" = true) (k4 : PySem.W.keepIn K (.ref f4) = true)
    (a5 : PySem.W.nsIn K mainGlobals "_law_tariff" = some (some (.ref f5)))
    (l5 : K.lookup f5 = some ⟨oc5, od5, .func (PySem.W.fnOf "_law_tariff" "_law_tariff" (defArgs s5) (defBody s5) (defScope s5) .none kV5 dc5 pm5 an5 cd5 ct5), sl5⟩) (c5 : PySem.W.codeIn K cd5 "_law_tariff" = true) (k5 : PySem.W.keepIn K (.ref f5) = true)
    (a6 : PySem.W.nsIn K mainGlobals "_law_pay_rule" = some (some (.ref f6)))
    (l6 : K.lookup f6 = some ⟨oc6, od6, .func (PySem.W.fnOf "_law_pay_rule" "_law_pay_rule" (defArgs s6) (defBody s6) (defScope s6) .none kV6 dc6 pm6 an6 cd6 ct6), sl6⟩) (c6 : PySem.W.codeIn K cd6 "_law_pay_rule" = true) (k6 : PySem.W.keepIn K (.ref f6) = true)
    (a7 : PySem.W.nsIn K mainGlobals "_law_lot" = some (some (.ref f7)))
    (l7 : K.lookup f7 = some ⟨oc7, od7, .func (PySem.W.fnOf "_law_lot" "_law_lot" (defArgs s7) (defBody s7) (defScope s7) .none kV7 dc7 pm7 an7 cd7 ct7), sl7⟩) (c7 : PySem.W.codeIn K cd7 "_law_lot" = true) (k7 : PySem.W.keepIn K (.ref f7) = true)
    (a8 : PySem.W.nsIn K mainGlobals "_law_pays" = some (some (.ref f8)))
    (l8 : K.lookup f8 = some ⟨oc8, od8, .func (PySem.W.fnOf "_law_pays" "_law_pays" (defArgs s8) (defBody s8) (defScope s8) .none kV8 dc8 pm8 an8 cd8 ct8), sl8⟩) (c8 : PySem.W.codeIn K cd8 "_law_pays" = true) (k8 : PySem.W.keepIn K (.ref f8) = true)
    (a9 : PySem.W.nsIn K mainGlobals "_law_brings" = some (some (.ref f9)))
    (l9 : K.lookup f9 = some ⟨oc9, od9, .func (PySem.W.fnOf "_law_brings" "_law_brings" (defArgs s9) (defBody s9) (defScope s9) .none kV9 dc9 pm9 an9 cd9 ct9), sl9⟩) (c9 : PySem.W.codeIn K cd9 "_law_brings" = true) (k9 : PySem.W.keepIn K (.ref f9) = true)
    (a10 : PySem.W.nsIn K mainGlobals "_law_mean" = some (some (.ref f10)))
    (l10 : K.lookup f10 = some ⟨oc10, od10, .func (PySem.W.fnOf "_law_mean" "_law_mean" (defArgs s10) (defBody s10) (defScope s10) .none kV10 dc10 pm10 an10 cd10 ct10), sl10⟩) (c10 : PySem.W.codeIn K cd10 "_law_mean" = true) (k10 : PySem.W.keepIn K (.ref f10) = true)
    (a11 : PySem.W.nsIn K mainGlobals "check_sizes" = some (some (.ref f11)))
    (l11 : K.lookup f11 = some ⟨oc11, od11, .func (PySem.W.fnOf "check_sizes" "check_sizes" (defArgs s11) (defBody s11) (defScope s11) .none kV11 dc11 pm11 an11 cd11 ct11), sl11⟩) (c11 : PySem.W.codeIn K cd11 "check_sizes" = true) (k11 : PySem.W.keepIn K (.ref f11) = true)
    (a12 : PySem.W.nsIn K mainGlobals "is_wheel" = some (some (.ref f12)))
    (l12 : K.lookup f12 = some ⟨oc12, od12, .func (PySem.W.fnOf "is_wheel" "is_wheel" (defArgs s12) (defBody s12) (defScope s12) .none kV12 dc12 pm12 an12 cd12 ct12), sl12⟩) (c12 : PySem.W.codeIn K cd12 "is_wheel" = true) (k12 : PySem.W.keepIn K (.ref f12) = true)
    (a13 : PySem.W.nsIn K mainGlobals "is_within" = some (some (.ref f13)))
    (l13 : K.lookup f13 = some ⟨oc13, od13, .func (PySem.W.fnOf "is_within" "is_within" (defArgs s13) (defBody s13) (defScope s13) .none kV13 dc13 pm13 an13 cd13 ct13), sl13⟩) (c13 : PySem.W.codeIn K cd13 "is_within" = true) (k13 : PySem.W.keepIn K (.ref f13) = true)
    (a14 : PySem.W.nsIn K mainGlobals "is_integer" = some (some (.ref f14)))
    (l14 : K.lookup f14 = some ⟨oc14, od14, .func (PySem.W.fnOf "is_integer" "is_integer" (defArgs s14) (defBody s14) (defScope s14) .none kV14 dc14 pm14 an14 cd14 ct14), sl14⟩) (c14 : PySem.W.codeIn K cd14 "is_integer" = true) (k14 : PySem.W.keepIn K (.ref f14) = true)
    (a15 : PySem.W.nsIn K mainGlobals "is_shifts" = some (some (.ref f15)))
    (l15 : K.lookup f15 = some ⟨oc15, od15, .func (PySem.W.fnOf "is_shifts" "is_shifts" (defArgs s15) (defBody s15) (defScope s15) .none kV15 dc15 pm15 an15 cd15 ct15), sl15⟩) (c15 : PySem.W.codeIn K cd15 "is_shifts" = true) (k15 : PySem.W.keepIn K (.ref f15) = true)
    (a16 : PySem.W.nsIn K mainGlobals "is_tariff_of" = some (some (.ref f16)))
    (l16 : K.lookup f16 = some ⟨oc16, od16, .func (PySem.W.fnOf "is_tariff_of" "is_tariff_of" (defArgs s16) (defBody s16) (defScope s16) .none kV16 dc16 pm16 an16 cd16 ct16), sl16⟩) (c16 : PySem.W.codeIn K cd16 "is_tariff_of" = true) (k16 : PySem.W.keepIn K (.ref f16) = true)
    (a17 : PySem.W.nsIn K mainGlobals "is_sized" = some (some (.ref f17)))
    (l17 : K.lookup f17 = some ⟨oc17, od17, .func (PySem.W.fnOf "is_sized" "is_sized" (defArgs s17) (defBody s17) (defScope s17) .none kV17 dc17 pm17 an17 cd17 ct17), sl17⟩) (c17 : PySem.W.codeIn K cd17 "is_sized" = true) (k17 : PySem.W.keepIn K (.ref f17) = true)
    (a18 : PySem.W.nsIn K mainGlobals "is_pay_rule" = some (some (.ref f18)))
    (l18 : K.lookup f18 = some ⟨oc18, od18, .func (PySem.W.fnOf "is_pay_rule" "is_pay_rule" (defArgs s18) (defBody s18) (defScope s18) .none kV18 dc18 pm18 an18 cd18 ct18), sl18⟩) (c18 : PySem.W.codeIn K cd18 "is_pay_rule" = true) (k18 : PySem.W.keepIn K (.ref f18) = true)
    (a19 : PySem.W.nsIn K mainGlobals "is_lot" = some (some (.ref f19)))
    (l19 : K.lookup f19 = some ⟨oc19, od19, .func (PySem.W.fnOf "is_lot" "is_lot" (defArgs s19) (defBody s19) (defScope s19) .none kV19 dc19 pm19 an19 cd19 ct19), sl19⟩) (c19 : PySem.W.codeIn K cd19 "is_lot" = true) (k19 : PySem.W.keepIn K (.ref f19) = true)
    (a20 : PySem.W.nsIn K mainGlobals "is_amount" = some (some (.ref f20)))
    (l20 : K.lookup f20 = some ⟨oc20, od20, .func (PySem.W.fnOf "is_amount" "is_amount" (defArgs s20) (defBody s20) (defScope s20) .none kV20 dc20 pm20 an20 cd20 ct20), sl20⟩) (c20 : PySem.W.codeIn K cd20 "is_amount" = true) (k20 : PySem.W.keepIn K (.ref f20) = true)
    (a21 : PySem.W.nsIn K mainGlobals "is_row" = some (some (.ref f21)))
    (l21 : K.lookup f21 = some ⟨oc21, od21, .func (PySem.W.fnOf "is_row" "is_row" (defArgs s21) (defBody s21) (defScope s21) .none kV21 dc21 pm21 an21 cd21 ct21), sl21⟩) (c21 : PySem.W.codeIn K cd21 "is_row" = true) (k21 : PySem.W.keepIn K (.ref f21) = true)
    (a22 : PySem.W.nsIn K mainGlobals "mean_pay" = some (some (.ref f22)))
    (l22 : K.lookup f22 = some ⟨oc22, od22, .func (PySem.W.fnOf "mean_pay" "mean_pay" (defArgs s22) (defBody s22) (defScope s22) .none kV22 dc22 pm22 an22 cd22 ct22), sl22⟩) (c22 : PySem.W.codeIn K cd22 "mean_pay" = true) (k22 : PySem.W.keepIn K (.ref f22) = true)
    (a23 : PySem.W.nsIn K mainGlobals "check_tariff" = some (some (.ref f23)))
    (l23 : K.lookup f23 = some ⟨oc23, od23, .func (PySem.W.fnOf "check_tariff" "check_tariff" (defArgs s23) (defBody s23) (defScope s23) .none kV23 dc23 pm23 an23 cd23 ct23), sl23⟩) (c23 : PySem.W.codeIn K cd23 "check_tariff" = true) (k23 : PySem.W.keepIn K (.ref f23) = true)
    (a24 : PySem.W.nsIn K mainGlobals "is_finite" = some (some (.ref f24)))
    (l24 : K.lookup f24 = some ⟨oc24, od24, .func (PySem.W.fnOf "is_finite" "is_finite" (defArgs s24) (defBody s24) (defScope s24) .none kV24 dc24 pm24 an24 cd24 ct24), sl24⟩) (c24 : PySem.W.codeIn K cd24 "is_finite" = true) (k24 : PySem.W.keepIn K (.ref f24) = true)
    (a25 : PySem.W.nsIn K mainGlobals "is_letter" = some (some (.ref f25)))
    (l25 : K.lookup f25 = some ⟨oc25, od25, .func (PySem.W.fnOf "is_letter" "is_letter" (defArgs s25) (defBody s25) (defScope s25) .none kV25 dc25 pm25 an25 cd25 ct25), sl25⟩) (c25 : PySem.W.codeIn K cd25 "is_letter" = true) (k25 : PySem.W.keepIn K (.ref f25) = true)
    (a26 : PySem.W.nsIn K mainGlobals "paid" = some (some (.ref f26)))
    (l26 : K.lookup f26 = some ⟨oc26, od26, .func (PySem.W.fnOf "paid" "paid" (defArgs s26) (defBody s26) (defScope s26) .none kV26 dc26 pm26 an26 cd26 ct26), sl26⟩) (c26 : PySem.W.codeIn K cd26 "paid" = true) (k26 : PySem.W.keepIn K (.ref f26) = true)
    (a27 : PySem.W.nsIn K mainGlobals "led_pay" = some (some (.ref f27)))
    (l27 : K.lookup f27 = some ⟨oc27, od27, .func (PySem.W.fnOf "led_pay" "led_pay" (defArgs s27) (defBody s27) (defScope s27) .none kV27 dc27 pm27 an27 cd27 ct27), sl27⟩) (c27 : PySem.W.codeIn K cd27 "led_pay" = true) (k27 : PySem.W.keepIn K (.ref f27) = true)
    (a28 : PySem.W.nsIn K mainGlobals "led_pay_rule" = some (some (.ref f28)))
    (l28 : K.lookup f28 = some ⟨oc28, od28, .func (PySem.W.fnOf "led_pay_rule" "led_pay_rule" (defArgs s28) (defBody s28) (defScope s28) .none kV28 dc28 pm28 an28 cd28 ct28), sl28⟩) (c28 : PySem.W.codeIn K cd28 "led_pay_rule" = true) (k28 : PySem.W.keepIn K (.ref f28) = true)
    (a29 : PySem.W.nsIn K mainGlobals "led_row" = some (some (.ref f29)))
    (l29 : K.lookup f29 = some ⟨oc29, od29, .func (PySem.W.fnOf "led_row" "led_row" (defArgs s29) (defBody s29) (defScope s29) .none kV29 dc29 pm29 an29 cd29 ct29), sl29⟩) (c29 : PySem.W.codeIn K cd29 "led_row" = true) (k29 : PySem.W.keepIn K (.ref f29) = true)
    (a30 : PySem.W.nsIn K mainGlobals "led_over" = some (some (.ref f30)))
    (l30 : K.lookup f30 = some ⟨oc30, od30, .func (PySem.W.fnOf "led_over" "led_over" (defArgs s30) (defBody s30) (defScope s30) .none kV30 dc30 pm30 an30 cd30 ct30), sl30⟩) (c30 : PySem.W.codeIn K cd30 "led_over" = true) (k30 : PySem.W.keepIn K (.ref f30) = true)
    (a31 : PySem.W.nsIn K mainGlobals "first_pay" = some (some (.ref f31)))
    (l31 : K.lookup f31 = some ⟨oc31, od31, .func (PySem.W.fnOf "first_pay" "first_pay" (defArgs s31) (defBody s31) (defScope s31) .none kV31 dc31 pm31 an31 cd31 ct31), sl31⟩) (c31 : PySem.W.codeIn K cd31 "first_pay" = true) (k31 : PySem.W.keepIn K (.ref f31) = true)
    (a32 : PySem.W.nsIn K mainGlobals "_law_lowest" = some (some (.ref f32)))
    (l32 : K.lookup f32 = some ⟨oc32, od32, .func (PySem.W.fnOf "_law_lowest" "_law_lowest" (defArgs s32) (defBody s32) (defScope s32) .none kV32 dc32 pm32 an32 cd32 ct32), sl32⟩) (c32 : PySem.W.codeIn K cd32 "_law_lowest" = true) (k32 : PySem.W.keepIn K (.ref f32) = true)
    (a33 : PySem.W.nsIn K mainGlobals "share" = some (some (.ref f33)))
    (l33 : K.lookup f33 = some ⟨oc33, od33, .func (PySem.W.fnOf "share" "share" (defArgs s33) (defBody s33) (defScope s33) .none kV33 dc33 pm33 an33 cd33 ct33), sl33⟩) (c33 : PySem.W.codeIn K cd33 "share" = true) (k33 : PySem.W.keepIn K (.ref f33) = true)
    (a34 : PySem.W.nsIn K mainGlobals "common" = some (some (.ref f34)))
    (l34 : K.lookup f34 = some ⟨oc34, od34, .func (PySem.W.fnOf "common" "common" (defArgs s34) (defBody s34) (defScope s34) .none kV34 dc34 pm34 an34 cd34 ct34), sl34⟩) (c34 : PySem.W.codeIn K cd34 "common" = true) (k34 : PySem.W.keepIn K (.ref f34) = true)
    (a35 : PySem.W.nsIn K mainGlobals "is_endless" = some (some (.ref f35)))
    (l35 : K.lookup f35 = some ⟨oc35, od35, .func (PySem.W.fnOf "is_endless" "is_endless" (defArgs s35) (defBody s35) (defScope s35) .none kV35 dc35 pm35 an35 cd35 ct35), sl35⟩) (c35 : PySem.W.codeIn K cd35 "is_endless" = true) (k35 : PySem.W.keepIn K (.ref f35) = true)
    (n0 : PySem.W.nsIn K mainGlobals "MOST_PAY" = some (some (.int 12 t0)))
    (n1 : PySem.W.nsIn K mainGlobals "MOST_SHIFTS" = some (some (.int 6 t1)))
    (n2 : PySem.W.nsIn K mainGlobals "MOST_WHEEL" = some (some (.int 28 t2)))
    (y0 : PySem.W.nsIn K mainGlobals "EACH" = some (some (.str "each" v0)))
    (y1 : PySem.W.nsIn K mainGlobals "ON" = some (some (.str "on" v1)))
    (y2 : PySem.W.nsIn K mainGlobals "OVER" = some (some (.str "over" v2)))
    (y3 : PySem.W.nsIn K mainGlobals "ROW" = some (some (.str "row" v3)))
    (z0 : PySem.W.nsIn K mainGlobals "abs" = some none)
    (z1 : PySem.W.nsIn K mainGlobals "all" = some none)
    (z2 : PySem.W.nsIn K mainGlobals "bool" = some none)
    (z3 : PySem.W.nsIn K mainGlobals "int" = some none)
    (z4 : PySem.W.nsIn K mainGlobals "isinstance" = some none)
    (z5 : PySem.W.nsIn K mainGlobals "len" = some none)
    (z6 : PySem.W.nsIn K mainGlobals "list" = some none)
    (z7 : PySem.W.nsIn K mainGlobals "min" = some none)
    (z8 : PySem.W.nsIn K mainGlobals "range" = some none)
    (z9 : PySem.W.nsIn K mainGlobals "str" = some none)
    (z10 : PySem.W.nsIn K mainGlobals "sum" = some none)
    (z11 : PySem.W.nsIn K mainGlobals "tuple" = some none)
    (z12 : PySem.W.nsIn K mainGlobals "zip" = some none)
    : ∃ fd : FuncData, (∀ (s : Shared) (u : Value), BindsTo s fd ⟨[u], []⟩ [("script", u)]) ∧ (∃ N qual st fn x, Fun K x qual st fa fd ∧ FnScope N ["script"] (defScope st) ∧ tbl[4]? = some fn ∧ fn.n = N.length ∧ cSs gd ⟨N, defScope st, fun _ => true⟩ fn.body (defBody st) = true) ∧
        ∀ base : Heap, Tab l.prog w K mg base gd tbl (ctOf K [] fun k => k.hash w) := by
  have e := hfa.symm.trans (PySem.W.mg_of X G a4)
  cases e
  have F0 := fun_mk (st := s0) l0 c0 k0
  have b0 := F0.binds (ps := ["script"]) fun _ _ _ _ _ _ us hl => match us, hl with | [_], _ => rfl
  have F1 := fun_mk (st := s1) l1 c1 k1
  have b1 := F1.binds (ps := ["hand", "many"]) fun _ _ _ _ _ _ us hl => match us, hl with | [_, _], _ => rfl
  have F2 := fun_mk (st := s2) l2 c2 k2
  have b2 := F2.binds (ps := ["hand", "things"]) fun _ _ _ _ _ _ us hl => match us, hl with | [_, _], _ => rfl
  have F3 := fun_mk (st := s3) l3 c3 k3
  have b3 := F3.binds (ps := ["told", "due"]) fun _ _ _ _ _ _ us hl => match us, hl with | [_, _], _ => rfl
  have F4 := fun_mk (st := s4) l4 c4 k4
  have b4 := F4.binds (ps := ["script"]) fun _ _ _ _ _ _ us hl => match us, hl with | [_], _ => rfl
  have F5 := fun_mk (st := s5) l5 c5 k5
  have b5 := F5.binds (ps := ["hand", "wheel", "shifts", "most"]) fun _ _ _ _ _ _ us hl => match us, hl with | [_, _, _, _], _ => rfl
  have F6 := fun_mk (st := s6) l6 c6 k6
  have b6 := F6.binds (ps := ["hand", "wheel", "shifts"]) fun _ _ _ _ _ _ us hl => match us, hl with | [_, _, _], _ => rfl
  have F7 := fun_mk (st := s7) l7 c7 k7
  have b7 := F7.binds (ps := ["hand", "many"]) fun _ _ _ _ _ _ us hl => match us, hl with | [_, _], _ => rfl
  have F8 := fun_mk (st := s8) l8 c8 k8
  have b8 := F8.binds (ps := ["wheel", "tariff", "line"]) fun _ _ _ _ _ _ us hl => match us, hl with | [_, _, _], _ => rfl
  have F9 := fun_mk (st := s9) l9 c9 k9
  have b9 := F9.binds (ps := ["wheel", "rule", "line"]) fun _ _ _ _ _ _ us hl => match us, hl with | [_, _, _], _ => rfl
  have F10 := fun_mk (st := s10) l10 c10 k10
  have b10 := F10.binds (ps := ["wheel", "tariff", "head", "ring"]) fun _ _ _ _ _ _ us hl => match us, hl with | [_, _, _, _], _ => rfl
  have F11 := fun_mk (st := s11) l11 c11 k11
  have b11 := F11.binds (ps := ["wheel", "shifts"]) fun _ _ _ _ _ _ us hl => match us, hl with | [_, _], _ => rfl
  have F12 := fun_mk (st := s12) l12 c12 k12
  have b12 := F12.binds (ps := ["thing"]) fun _ _ _ _ _ _ us hl => match us, hl with | [_], _ => rfl
  have F13 := fun_mk (st := s13) l13 c13 k13
  have b13 := F13.binds (ps := ["thing", "low", "high"]) fun _ _ _ _ _ _ us hl => match us, hl with | [_, _, _], _ => rfl
  have F14 := fun_mk (st := s14) l14 c14 k14
  have b14 := F14.binds (ps := ["thing"]) fun _ _ _ _ _ _ us hl => match us, hl with | [_], _ => rfl
  have F15 := fun_mk (st := s15) l15 c15 k15
  have b15 := F15.binds (ps := ["thing"]) fun _ _ _ _ _ _ us hl => match us, hl with | [_], _ => rfl
  have F16 := fun_mk (st := s16) l16 c16 k16
  have b16 := F16.binds (ps := ["wheel", "shifts", "thing"]) fun _ _ _ _ _ _ us hl => match us, hl with | [_, _, _], _ => rfl
  have F17 := fun_mk (st := s17) l17 c17 k17
  have b17 := F17.binds (ps := ["thing", "low", "high"]) fun _ _ _ _ _ _ us hl => match us, hl with | [_, _, _], _ => rfl
  have F18 := fun_mk (st := s18) l18 c18 k18
  have b18 := F18.binds (ps := ["wheel", "shifts", "thing"]) fun _ _ _ _ _ _ us hl => match us, hl with | [_, _, _], _ => rfl
  have F19 := fun_mk (st := s19) l19 c19 k19
  have b19 := F19.binds (ps := ["thing", "low", "high"]) fun _ _ _ _ _ _ us hl => match us, hl with | [_, _, _], _ => rfl
  have F20 := fun_mk (st := s20) l20 c20 k20
  have b20 := F20.binds (ps := ["thing"]) fun _ _ _ _ _ _ us hl => match us, hl with | [_], _ => rfl
  have F21 := fun_mk (st := s21) l21 c21 k21
  have b21 := F21.binds (ps := ["shifts", "thing"]) fun _ _ _ _ _ _ us hl => match us, hl with | [_, _], _ => rfl
  have F22 := fun_mk (st := s22) l22 c22 k22
  have b22 := F22.binds (ps := ["wheel", "shifts", "tariff", "line"]) fun _ _ _ _ _ _ us hl => match us, hl with | [_, _, _, _], _ => rfl
  have F23 := fun_mk (st := s23) l23 c23 k23
  have b23 := F23.binds (ps := ["wheel", "shifts", "tariff"]) fun _ _ _ _ _ _ us hl => match us, hl with | [_, _, _], _ => rfl
  have F24 := fun_mk (st := s24) l24 c24 k24
  have b24 := F24.binds (ps := ["shifts", "thing"]) fun _ _ _ _ _ _ us hl => match us, hl with | [_, _], _ => rfl
  have F25 := fun_mk (st := s25) l25 c25 k25
  have b25 := F25.binds (ps := ["shifts", "thing"]) fun _ _ _ _ _ _ us hl => match us, hl with | [_, _], _ => rfl
  have F26 := fun_mk (st := s26) l26 c26 k26
  have b26 := F26.binds (ps := ["wheel", "tariff", "known", "letters"]) fun _ _ _ _ _ _ us hl => match us, hl with | [_, _, _, _], _ => rfl
  have F27 := fun_mk (st := s27) l27 c27 k27
  have b27 := F27.binds (ps := ["wheel", "tariff", "known", "letter"]) fun _ _ _ _ _ _ us hl => match us, hl with | [_, _, _, _], _ => rfl
  have F28 := fun_mk (st := s28) l28 c28 k28
  have b28 := F28.binds (ps := ["rule", "wheel", "day", "letter", "held"]) fun _ _ _ _ _ _ us hl => match us, hl with | [_, _, _, _, _], _ => rfl
  have F29 := fun_mk (st := s29) l29 c29 k29
  have b29 := F29.binds (ps := ["rule", "letter", "held"]) fun _ _ _ _ _ _ us hl => match us, hl with | [_, _, _], _ => rfl
  have F30 := fun_mk (st := s30) l30 c30 k30
  have b30 := F30.binds (ps := ["rule", "wheel", "day", "letter", "held"]) fun _ _ _ _ _ _ us hl => match us, hl with | [_, _, _, _, _], _ => rfl
  have F31 := fun_mk (st := s31) l31 c31 k31
  have b31 := F31.binds (ps := ["tariff"]) fun _ _ _ _ _ _ us hl => match us, hl with | [_], _ => rfl
  have F32 := fun_mk (st := s32) l32 c32 k32
  have b32 := F32.binds (ps := ["top", "bottom"]) fun _ _ _ _ _ _ us hl => match us, hl with | [_, _], _ => rfl
  have F33 := fun_mk (st := s33) l33 c33 k33
  have b33 := F33.binds (ps := ["top", "bottom"]) fun _ _ _ _ _ _ us hl => match us, hl with | [_, _], _ => rfl
  have F34 := fun_mk (st := s34) l34 c34 k34
  have b34 := F34.binds (ps := ["one", "other"]) fun _ _ _ _ _ _ us hl => match us, hl with | [_, _], _ => rfl
  have F35 := fun_mk (st := s35) l35 c35 k35
  have b35 := F35.binds (ps := ["shifts", "thing"]) fun _ _ _ _ _ _ us hl => match us, hl with | [_, _], _ => rfl
  refine ⟨_, fun s u => .of_eq rfl, ⟨N4, _, s4, ⟨1, N4.length, K69.b4⟩, _, F4, sc4, rfl, rfl, ck4⟩, fun base => ⟨fun i x n hi => ?_, fun x i hx => ?_, fun x i hx => ?_, fun x hx => ?_, fun c i n h => ?_, fun c C h => ?_, fun c C h => ?_, fun c f h C hC => ?_, fun c m i n h => ?_⟩⟩
  · match i, hi with
    | 0, hi => cases hi; exact ⟨_, _, _, PySem.W.mg_of X G a0, k0, ⟨b0, rfl, N0, _, s0, ⟨1, N0.length, K69.b0⟩, _, F0, sc0, rfl, rfl, rfl, ck0⟩⟩
    | 1, hi => cases hi; exact ⟨_, _, _, PySem.W.mg_of X G a1, k1, ⟨b1, rfl, N1, _, s1, ⟨2, N1.length, K69.b1⟩, _, F1, sc1, rfl, rfl, rfl, ck1⟩⟩
    | 2, hi => cases hi; exact ⟨_, _, _, PySem.W.mg_of X G a2, k2, ⟨b2, rfl, N2, _, s2, ⟨2, N2.length, K69.b2⟩, _, F2, sc2, rfl, rfl, rfl, ck2⟩⟩
    | 3, hi => cases hi; exact ⟨_, _, _, PySem.W.mg_of X G a3, k3, ⟨b3, rfl, N3, _, s3, ⟨2, N3.length, K69.b3⟩, _, F3, sc3, rfl, rfl, rfl, ck3⟩⟩
    | 4, hi => cases hi; exact ⟨_, _, _, PySem.W.mg_of X G a4, k4, ⟨b4, rfl, N4, _, s4, ⟨1, N4.length, K69.b4⟩, _, F4, sc4, rfl, rfl, rfl, ck4⟩⟩
    | 5, hi => cases hi; exact ⟨_, _, _, PySem.W.mg_of X G a5, k5, ⟨b5, rfl, N5, _, s5, ⟨4, N5.length, K69.b5⟩, _, F5, sc5, rfl, rfl, rfl, ck5⟩⟩
    | 6, hi => cases hi; exact ⟨_, _, _, PySem.W.mg_of X G a6, k6, ⟨b6, rfl, N6, _, s6, ⟨3, N6.length, K69.b6⟩, _, F6, sc6, rfl, rfl, rfl, ck6⟩⟩
    | 7, hi => cases hi; exact ⟨_, _, _, PySem.W.mg_of X G a7, k7, ⟨b7, rfl, N7, _, s7, ⟨2, N7.length, K69.b7⟩, _, F7, sc7, rfl, rfl, rfl, ck7⟩⟩
    | 8, hi => cases hi; exact ⟨_, _, _, PySem.W.mg_of X G a8, k8, ⟨b8, rfl, N8, _, s8, ⟨3, N8.length, K69.b8⟩, _, F8, sc8, rfl, rfl, rfl, ck8⟩⟩
    | 9, hi => cases hi; exact ⟨_, _, _, PySem.W.mg_of X G a9, k9, ⟨b9, rfl, N9, _, s9, ⟨3, N9.length, K69.b9⟩, _, F9, sc9, rfl, rfl, rfl, ck9⟩⟩
    | 10, hi => cases hi; exact ⟨_, _, _, PySem.W.mg_of X G a10, k10, ⟨b10, rfl, N10, _, s10, ⟨4, N10.length, K69.b10⟩, _, F10, sc10, rfl, rfl, rfl, ck10⟩⟩
    | 11, hi => cases hi; exact ⟨_, _, _, PySem.W.mg_of X G a11, k11, ⟨b11, rfl, N11, _, s11, ⟨2, N11.length, K69.b11⟩, _, F11, sc11, rfl, rfl, rfl, ck11⟩⟩
    | 12, hi => cases hi; exact ⟨_, _, _, PySem.W.mg_of X G a12, k12, ⟨b12, rfl, N12, _, s12, ⟨1, N12.length, K69.b12⟩, _, F12, sc12, rfl, rfl, rfl, ck12⟩⟩
    | 13, hi => cases hi; exact ⟨_, _, _, PySem.W.mg_of X G a13, k13, ⟨b13, rfl, N13, _, s13, ⟨3, N13.length, K69.b13⟩, _, F13, sc13, rfl, rfl, rfl, ck13⟩⟩
    | 14, hi => cases hi; exact ⟨_, _, _, PySem.W.mg_of X G a14, k14, ⟨b14, rfl, N14, _, s14, ⟨1, N14.length, K69.b14⟩, _, F14, sc14, rfl, rfl, rfl, ck14⟩⟩
    | 15, hi => cases hi; exact ⟨_, _, _, PySem.W.mg_of X G a15, k15, ⟨b15, rfl, N15, _, s15, ⟨1, N15.length, K69.b15⟩, _, F15, sc15, rfl, rfl, rfl, ck15⟩⟩
    | 16, hi => cases hi; exact ⟨_, _, _, PySem.W.mg_of X G a16, k16, ⟨b16, rfl, N16, _, s16, ⟨3, N16.length, K69.b16⟩, _, F16, sc16, rfl, rfl, rfl, ck16⟩⟩
    | 17, hi => cases hi; exact ⟨_, _, _, PySem.W.mg_of X G a17, k17, ⟨b17, rfl, N17, _, s17, ⟨3, N17.length, K69.b17⟩, _, F17, sc17, rfl, rfl, rfl, ck17⟩⟩
    | 18, hi => cases hi; exact ⟨_, _, _, PySem.W.mg_of X G a18, k18, ⟨b18, rfl, N18, _, s18, ⟨3, N18.length, K69.b18⟩, _, F18, sc18, rfl, rfl, rfl, ck18⟩⟩
    | 19, hi => cases hi; exact ⟨_, _, _, PySem.W.mg_of X G a19, k19, ⟨b19, rfl, N19, _, s19, ⟨3, N19.length, K69.b19⟩, _, F19, sc19, rfl, rfl, rfl, ck19⟩⟩
    | 20, hi => cases hi; exact ⟨_, _, _, PySem.W.mg_of X G a20, k20, ⟨b20, rfl, N20, _, s20, ⟨1, N20.length, K69.b20⟩, _, F20, sc20, rfl, rfl, rfl, ck20⟩⟩
    | 21, hi => cases hi; exact ⟨_, _, _, PySem.W.mg_of X G a21, k21, ⟨b21, rfl, N21, _, s21, ⟨2, N21.length, K69.b21⟩, _, F21, sc21, rfl, rfl, rfl, ck21⟩⟩
    | 22, hi => cases hi; exact ⟨_, _, _, PySem.W.mg_of X G a22, k22, ⟨b22, rfl, N22, _, s22, ⟨4, N22.length, K69.b22⟩, _, F22, sc22, rfl, rfl, rfl, ck22⟩⟩
    | 23, hi => cases hi; exact ⟨_, _, _, PySem.W.mg_of X G a23, k23, ⟨b23, rfl, N23, _, s23, ⟨3, N23.length, K69.b23⟩, _, F23, sc23, rfl, rfl, rfl, ck23⟩⟩
    | 24, hi => cases hi; exact ⟨_, _, _, PySem.W.mg_of X G a24, k24, ⟨b24, rfl, N24, _, s24, ⟨2, N24.length, K69.b24⟩, _, F24, sc24, rfl, rfl, rfl, ck24⟩⟩
    | 25, hi => cases hi; exact ⟨_, _, _, PySem.W.mg_of X G a25, k25, ⟨b25, rfl, N25, _, s25, ⟨2, N25.length, K69.b25⟩, _, F25, sc25, rfl, rfl, rfl, ck25⟩⟩
    | 26, hi => cases hi; exact ⟨_, _, _, PySem.W.mg_of X G a26, k26, ⟨b26, rfl, N26, _, s26, ⟨4, N26.length, K69.b26⟩, _, F26, sc26, rfl, rfl, rfl, ck26⟩⟩
    | 27, hi => cases hi; exact ⟨_, _, _, PySem.W.mg_of X G a27, k27, ⟨b27, rfl, N27, _, s27, ⟨4, N27.length, K69.b27⟩, _, F27, sc27, rfl, rfl, rfl, ck27⟩⟩
    | 28, hi => cases hi; exact ⟨_, _, _, PySem.W.mg_of X G a28, k28, ⟨b28, rfl, N28, _, s28, ⟨5, N28.length, K69.b28⟩, _, F28, sc28, rfl, rfl, rfl, ck28⟩⟩
    | 29, hi => cases hi; exact ⟨_, _, _, PySem.W.mg_of X G a29, k29, ⟨b29, rfl, N29, _, s29, ⟨3, N29.length, K69.b29⟩, _, F29, sc29, rfl, rfl, rfl, ck29⟩⟩
    | 30, hi => cases hi; exact ⟨_, _, _, PySem.W.mg_of X G a30, k30, ⟨b30, rfl, N30, _, s30, ⟨5, N30.length, K69.b30⟩, _, F30, sc30, rfl, rfl, rfl, ck30⟩⟩
    | 31, hi => cases hi; exact ⟨_, _, _, PySem.W.mg_of X G a31, k31, ⟨b31, rfl, N31, _, s31, ⟨1, N31.length, K69.b31⟩, _, F31, sc31, rfl, rfl, rfl, ck31⟩⟩
    | 32, hi => cases hi; exact ⟨_, _, _, PySem.W.mg_of X G a32, k32, ⟨b32, rfl, N32, _, s32, ⟨2, N32.length, K69.b32⟩, _, F32, sc32, rfl, rfl, rfl, ck32⟩⟩
    | 33, hi => cases hi; exact ⟨_, _, _, PySem.W.mg_of X G a33, k33, ⟨b33, rfl, N33, _, s33, ⟨2, N33.length, K69.b33⟩, _, F33, sc33, rfl, rfl, rfl, ck33⟩⟩
    | 34, hi => cases hi; exact ⟨_, _, _, PySem.W.mg_of X G a34, k34, ⟨b34, rfl, N34, _, s34, ⟨2, N34.length, K69.b34⟩, _, F34, sc34, rfl, rfl, rfl, ck34⟩⟩
    | 35, hi => cases hi; exact ⟨_, _, _, PySem.W.mg_of X G a35, k35, ⟨b35, rfl, N35, _, s35, ⟨2, N35.length, K69.b35⟩, _, F35, sc35, rfl, rfl, rfl, ck35⟩⟩
    | i + 36, hi => cases hi
  · have hm := PySem.mem_of_lookup hx
    simp only [gd, List.mem_cons, List.not_mem_nil, or_false, Prod.mk.injEq] at hm
    rcases hm with ⟨rfl, rfl⟩ | ⟨rfl, rfl⟩ | ⟨rfl, rfl⟩
    · exact ⟨t0, PySem.W.mg_of X G n0⟩
    · exact ⟨t1, PySem.W.mg_of X G n1⟩
    · exact ⟨t2, PySem.W.mg_of X G n2⟩
  · have hm := PySem.mem_of_lookup hx
    simp only [gd, List.mem_cons, List.not_mem_nil, or_false, Prod.mk.injEq] at hm
    rcases hm with ⟨rfl, rfl⟩ | ⟨rfl, rfl⟩ | ⟨rfl, rfl⟩ | ⟨rfl, rfl⟩
    · exact ⟨v0, PySem.W.mg_of X G y0⟩
    · exact ⟨v1, PySem.W.mg_of X G y1⟩
    · exact ⟨v2, PySem.W.mg_of X G y2⟩
    · exact ⟨v3, PySem.W.mg_of X G y3⟩
  · simp only [gd, List.mem_cons, List.not_mem_nil, or_false] at hx
    rcases hx with rfl | rfl | rfl | rfl | rfl | rfl | rfl | rfl | rfl | rfl | rfl | rfl | rfl
    · exact PySem.W.mg_none_of X G z0
    · exact PySem.W.mg_none_of X G z1
    · exact PySem.W.mg_none_of X G z2
    · exact PySem.W.mg_none_of X G z3
    · exact PySem.W.mg_none_of X G z4
    · exact PySem.W.mg_none_of X G z5
    · exact PySem.W.mg_none_of X G z6
    · exact PySem.W.mg_none_of X G z7
    · exact PySem.W.mg_none_of X G z8
    · exact PySem.W.mg_none_of X G z9
    · exact PySem.W.mg_none_of X G z10
    · exact PySem.W.mg_none_of X G z11
    · exact PySem.W.mg_none_of X G z12
  ·
    simp only [gd, List.mem_cons, List.not_mem_nil, or_false, Prod.mk.injEq] at h
  · obtain ⟨h, hn⟩ := ctOf_inv h
    simp only [List.mem_cons, List.not_mem_nil, or_false] at h
  · obtain ⟨h, hn⟩ := ctOf_inv h
    simp only [List.mem_cons, List.not_mem_nil, or_false] at h
  · have hn := ctOf_inv hC
    simp only [gd, List.mem_cons, List.not_mem_nil, or_false, Prod.mk.injEq] at h
  ·
    simp only [gd, List.mem_cons, List.not_mem_nil, or_false, Prod.mk.injEq] at h
set_option maxHeartbeats 0 in
theorem walk {l : PySem.W.OpenLaw} {q : Program} {loose : List Str} {XP : (Str → Option Value) → Heap → Prop} {YP : World → Heap → Prop} {d : DefRec} {K : Params → PySem.W.Frag} (hn : l.most = some 63) (hdf : d.params.defaults = [])
    (hY : ∀ (w : World) (h : Heap), YP w h → (K w.params).In h)
    (T : ∀ (w : World) (mg : Str → Option Value) (fa : Addr) (h : Heap), (K w.params).In h → h.Ns mainGlobals mg → mg d.name = some (.ref fa) →
      ∃ fd : FuncData, (∀ (s : Shared) (u : Value), BindsTo s fd ⟨[u], []⟩ [("script", u)]) ∧ (∃ N qual st fn x, Fun (K w.params) x qual st fa fd ∧ FnScope N ["script"] (defScope st) ∧ tbl[4]? = some fn ∧ fn.n = N.length ∧ cSs gd ⟨N, defScope st, fun _ => true⟩ fn.body (defBody st) = true) ∧
        ∀ base : Heap, Tab l.prog w (K w.params) mg base gd tbl (ctOf (K w.params) [] fun k => k.hash w)) :
    PySem.W.WalkO q loose XP YP l.row.toRowW d [] (fun f vs => PySem.call f vs) :=
  law_end (n := 63) (k := 20) (i := 4) hn (by decide) hdf ⟨rfl, by decide, by decide⟩ hY T law_pure
end K69
open PySem PySem.W PyProof.Rows
set_option maxRecDepth 100000 in
set_option maxHeartbeats 0 in
theorem PySem.Challenge.cw_evercrew_k69_whole_mean_pay_of_endless_l_holds : PySem.Challenge.rw_evercrew_k69_whole_mean_pay_of_endless_l.Holds := by
  w_on; o_law; k_head; (case hw => w_witness2)
  k_fill
  refine K69.walk (l := PySem.Challenge.rw_evercrew_k69_whole_mean_pay_of_endless_l) rfl rfl (fun w h Y => PySem.W.kIn_of Y) ?F
  case F =>
    intro w mg fa h KX G hmg
    refine' K69.all_mk KX G hmg ?a0 ?l0 ?c0 ?k0 ?a1 ?l1 ?c1 ?k1 ?a2 ?l2 ?c2 ?k2 ?a3 ?l3 ?c3 ?k3 ?a4 ?l4 ?c4 ?k4 ?a5 ?l5 ?c5 ?k5 ?a6 ?l6 ?c6 ?k6 ?a7 ?l7 ?c7 ?k7 ?a8 ?l8 ?c8 ?k8 ?a9 ?l9 ?c9 ?k9 ?a10 ?l10 ?c10 ?k10 ?a11 ?l11 ?c11 ?k11 ?a12 ?l12 ?c12 ?k12 ?a13 ?l13 ?c13 ?k13 ?a14 ?l14 ?c14 ?k14 ?a15 ?l15 ?c15 ?k15 ?a16 ?l16 ?c16 ?k16 ?a17 ?l17 ?c17 ?k17 ?a18 ?l18 ?c18 ?k18 ?a19 ?l19 ?c19 ?k19 ?a20 ?l20 ?c20 ?k20 ?a21 ?l21 ?c21 ?k21 ?a22 ?l22 ?c22 ?k22 ?a23 ?l23 ?c23 ?k23 ?a24 ?l24 ?c24 ?k24 ?a25 ?l25 ?c25 ?k25 ?a26 ?l26 ?c26 ?k26 ?a27 ?l27 ?c27 ?k27 ?a28 ?l28 ?c28 ?k28 ?a29 ?l29 ?c29 ?k29 ?a30 ?l30 ?c30 ?k30 ?a31 ?l31 ?c31 ?k31 ?a32 ?l32 ?c32 ?k32 ?a33 ?l33 ?c33 ?k33 ?a34 ?l34 ?c34 ?k34 ?a35 ?l35 ?c35 ?k35 ?n0 ?n1 ?n2 ?y0 ?y1 ?y2 ?y3 ?z0 ?z1 ?z2 ?z3 ?z4 ?z5 ?z6 ?z7 ?z8 ?z9 ?z10 ?z11 ?z12
    (case a0 => k_is); (case l0 => k_is); (case c0 => k_is); (case k0 => k_is); (case a1 => k_is); (case l1 => k_is)
    (case c1 => k_is); (case k1 => k_is); (case a2 => k_is); (case l2 => k_is); (case c2 => k_is); (case k2 => k_is)
    (case a3 => k_is); (case l3 => k_is); (case c3 => k_is); (case k3 => k_is); (case a4 => k_is); (case l4 => k_is)
    (case c4 => k_is); (case k4 => k_is); (case a5 => k_is); (case l5 => k_is); (case c5 => k_is); (case k5 => k_is)
    (case a6 => k_is); (case l6 => k_is); (case c6 => k_is); (case k6 => k_is); (case a7 => k_is); (case l7 => k_is)
    (case c7 => k_is); (case k7 => k_is); (case a8 => k_is); (case l8 => k_is); (case c8 => k_is); (case k8 => k_is)
    (case a9 => k_is); (case l9 => k_is); (case c9 => k_is); (case k9 => k_is); (case a10 => k_is); (case l10 => k_is)
    (case c10 => k_is); (case k10 => k_is); (case a11 => k_is); (case l11 => k_is); (case c11 => k_is); (case k11 => k_is)
    (case a12 => k_is); (case l12 => k_is); (case c12 => k_is); (case k12 => k_is); (case a13 => k_is); (case l13 => k_is)
    (case c13 => k_is); (case k13 => k_is); (case a14 => k_is); (case l14 => k_is); (case c14 => k_is); (case k14 => k_is)
    (case a15 => k_is); (case l15 => k_is); (case c15 => k_is); (case k15 => k_is); (case a16 => k_is); (case l16 => k_is)
    (case c16 => k_is); (case k16 => k_is); (case a17 => k_is); (case l17 => k_is); (case c17 => k_is); (case k17 => k_is)
    (case a18 => k_is); (case l18 => k_is); (case c18 => k_is); (case k18 => k_is); (case a19 => k_is); (case l19 => k_is)
    (case c19 => k_is); (case k19 => k_is); (case a20 => k_is); (case l20 => k_is); (case c20 => k_is); (case k20 => k_is)
    (case a21 => k_is); (case l21 => k_is); (case c21 => k_is); (case k21 => k_is); (case a22 => k_is); (case l22 => k_is)
    (case c22 => k_is); (case k22 => k_is); (case a23 => k_is); (case l23 => k_is); (case c23 => k_is); (case k23 => k_is)
    (case a24 => k_is); (case l24 => k_is); (case c24 => k_is); (case k24 => k_is); (case a25 => k_is); (case l25 => k_is)
    (case c25 => k_is); (case k25 => k_is); (case a26 => k_is); (case l26 => k_is); (case c26 => k_is); (case k26 => k_is)
    (case a27 => k_is); (case l27 => k_is); (case c27 => k_is); (case k27 => k_is); (case a28 => k_is); (case l28 => k_is)
    (case c28 => k_is); (case k28 => k_is); (case a29 => k_is); (case l29 => k_is); (case c29 => k_is); (case k29 => k_is)
    (case a30 => k_is); (case l30 => k_is); (case c30 => k_is); (case k30 => k_is); (case a31 => k_is); (case l31 => k_is)
    (case c31 => k_is); (case k31 => k_is); (case a32 => k_is); (case l32 => k_is); (case c32 => k_is); (case k32 => k_is)
    (case a33 => k_is); (case l33 => k_is); (case c33 => k_is); (case k33 => k_is); (case a34 => k_is); (case l34 => k_is)
    (case c34 => k_is); (case k34 => k_is); (case a35 => k_is); (case l35 => k_is); (case c35 => k_is); (case k35 => k_is)
    (case n0 => k_is); (case n1 => k_is); (case n2 => k_is); (case y0 => k_is); (case y1 => k_is); (case y2 => k_is)
    (case y3 => k_is); (case z0 => k_is); (case z1 => k_is); (case z2 => k_is); (case z3 => k_is); (case z4 => k_is)
    (case z5 => k_is); (case z6 => k_is); (case z7 => k_is); (case z8 => k_is); (case z9 => k_is); (case z10 => k_is)
    (case z11 => k_is); (case z12 => k_is)
#print axioms PySem.Challenge.cw_evercrew_k69_whole_mean_pay_of_endless_l_holds

